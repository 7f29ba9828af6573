import PyProof.Rows.All
import Wide.All
import OpenK.AllK
import Wide.FinOn
import HandS.ForMost
import HandS.ForExc
import HandS.Walk
import HandS.IsInst
import HandS.Zip
import HandS.Deep
import HandS.TupAny
import HandS.CallLocal
import HandS.ExcField
import HandS.ExcInit
import HandS.Small
import HandS.Wide
import HandS.HeadHook2
import KE.KeyNested
import KE.KDictKeyed
import HandS.Nested
import HandS.NestedK
import HandS.HeadHook4
import HandS.EndTab
import HandS.OwnEq
import HandS.Property
import HandS.FStr
import HandS.Codes
import HandS.TryMany
import KE.GoesMore
import KE.GoesEnum
import HandS.Head2
import HandS.HeadEnd
import HandS.Conv
import HandS.Zip0
import HandS.DictComp
import KE.KDictDisplayH
import HandS.Style
import HandS.Records
import HandS.TupLen
import PyProof.DictTruth
import HandS.HeadWalk
import HandS.HeadNt
import KE.LtData
import KE.SortData
import HandS.SortInts
import KE.KDictSum
import HandS.HotCalls
import KE.KExcIs
import PySem.Challenge.RW_trylocks_k15_errors_are_apart
set_option Elab.async false
set_option linter.all false
set_option maxRecDepth 100000
set_option maxHeartbeats 4000000
namespace MM
open PySem PySem.Spec PyProof.Rows L2

/-! ### data -/
inductive D where
  | non | bl (b : Bool) | int (i : Int) | str (x : Str)
  | tup (ds : List D) | lst (ds : List D)
  | dic (kvs : List (D × D)) | dit (kvs : List (D × D))
  | obj (C : Str) (fs : List (Str × D))
  | gl (x : Str) | scr (ns : List Int) | ty (n : String)
  | clo (t : Nat) (f : Addr) (L : NdefX.NF) (b : Expr) (ws : List V) (caps : List D)
  deriving Inhabited

mutual
def toKey : D → Option NestedKey
  | .non => some .none
  | .bl b => some (.num (if b = true then 1 else 0))
  | .int i => some (.num i)
  | .str x => some (.text x)
  | .tup ds => (toKeys ds).map .tup
  | _ => none
def toKeys : List D → Option (List NestedKey)
  | [] => some []
  | d :: ds => match toKey d, toKeys ds with
    | some k, some ks => some (k :: ks)
    | _, _ => none
end
/-- a key of a dict with tuple keys -/
def tupKey (d : D) : Option NestedKey := match d with
  | .tup ds => (toKeys ds).bind fun ks => if (NestedKey.tup ks).depth ≤ 8 then some (.tup ks) else none
  | _ => none
/-- a key of a flat dict -/
def flatKey : D → Option Key
  | .int i => some (.inl i)
  | .str x => some (.inr x)
  | _ => none

/-- a dict whose keys are tuples of any depth: its entries (hash, the key's tuple, value) as they stand in the object o -/
def dxt (a : Addr) (o : Obj) (es : List (Int × Addr × V)) : HO := .ext fun h => ∃ (ens : Array DictEntry) (ep : Nat) (us : List Value),
    h.get? a = some o ∧ o.ExactDict ∧ o.data = .dict ens ep ∧ Vals (es.map (·.2.2)) us ∧ ens.toList = (es.zip us).map fun p => ⟨p.1.1, .ref p.1.2.1, p.2⟩

/-- the object at f is a lambda: its words, the cells that it captured, its code object -/
def LamO (f : Addr) (L : NdefX.NF) (b : Expr) : HO := .ext fun h => ∃ (od : Option Addr) (sl : Array (Option Value)) (pm ctv : Value), h.get? f = some (⟨.type "function", od, .func (PySem.W.kla_fn "<lambda>" L.qual L.params b L.scope L.cl pm (.ref L.c) ctv), sl⟩ : Obj)

mutual
/-- the value v is the data d, read in the frozen heap F -/
inductive Rep (K : PySem.W.Frag) (w : World) (F : Hp) : D → V → Prop
  | non : Rep K w F .non .non
  | bl (b : Bool) : Rep K w F (.bl b) (.bl b)
  | int (i : Int) : Rep K w F (.int i) (.int i)
  | str (x : Str) : Rep K w F (.str x) (.str x)
  | tup {a : Addr} {xs : List V} {ds : List D} : SqT K F a xs → RepAll K w F ds xs → Rep K w F (.tup ds) (.ref a)
  | lst {a : Addr} {xs : List V} {ds : List D} : F a = some (.lst xs) → RepAll K w F ds xs → Rep K w F (.lst ds) (.ref a)
  | dic {a : Addr} {kvs : List (D × D)} {ks : List (Key × V)} : F a = some (.dK ks) → RepKs K w F kvs ks → Rep K w F (.dic kvs) (.ref a)
  | dit {a : Addr} {o : Obj} {kvs : List (D × D)} {es : List (Int × Addr × V)} : F a = some (dxt a o es) → RepEs K w F kvs es → (kvs.map fun p => tupKey p.1).Nodup → es.length ≤ sizeLine → a ≠ sysModules → Rep K w F (.dit kvs) (.ref a)
  | obj {C : Str} {fs : List (Str × D)} {a dx : Addr} {vs : List (Str × V)} : F a = some (.ins (He.ga K C) dx vs) → RepFs K w F fs vs → Rep K w F (.obj C fs) (.ref a)
  | gl (x : Str) : Rep K w F (.gl x) (.ref (He.ga K x))
  | scr {a : Addr} {ns : List Int} : SqL K F a (ns.map V.int) → Rep K w F (.scr ns) (.ref a)
  | ty (n : String) : Rep K w F (.ty n) (.ty n)
  | clo {t : Nat} {f : Addr} {L : NdefX.NF} {b : Expr} {ws : List V} {caps : List D} : F f = some (LamO f L b) → F L.c = some (LamX.CodeO L.c L.qual) → RepAll K w F caps ws → Rep K w F (.clo t f L b ws caps) (.ref f)
inductive RepAll (K : PySem.W.Frag) (w : World) (F : Hp) : List D → List V → Prop
  | nil : RepAll K w F [] []
  | cons {d : D} {ds : List D} {v : V} {vs : List V} : Rep K w F d v → RepAll K w F ds vs → RepAll K w F (d :: ds) (v :: vs)
inductive RepKs (K : PySem.W.Frag) (w : World) (F : Hp) : List (D × D) → List (Key × V) → Prop
  | nil : RepKs K w F [] []
  | cons {d e : D} {ds : List (D × D)} {k : Key} {v : V} {ks : List (Key × V)} : flatKey d = some k → Rep K w F e v → RepKs K w F ds ks → RepKs K w F ((d, e) :: ds) ((k, v) :: ks)
inductive RepEs (K : PySem.W.Frag) (w : World) (F : Hp) : List (D × D) → List (Int × Addr × V) → Prop
  | nil : RepEs K w F [] []
  | cons {d e : D} {ds : List (D × D)} {k : NestedKey} {b : Addr} {v : V} {es : List (Int × Addr × V)} : tupKey d = some k → Rep K w F d (.ref b) → Rep K w F e v → RepEs K w F ds es → RepEs K w F ((d, e) :: ds) ((k.hash w, b, v) :: es)
inductive RepFs (K : PySem.W.Frag) (w : World) (F : Hp) : List (Str × D) → List (Str × V) → Prop
  | nil : RepFs K w F [] []
  | cons {x : Str} {d : D} {ds : List (Str × D)} {v : V} {vs : List (Str × V)} : Rep K w F d v → RepFs K w F ds vs → RepFs K w F ((x, d) :: ds) ((x, v) :: vs)
end

theorem Same.seqT {K : PySem.W.Frag} {H H' : Hp} {a : Addr} {xs : List V} (e : Same H H') (h : SqT K H a xs) : SqT K H' a xs := by
  rcases h with (h | ⟨o, h⟩) | h
  · exact .inl (.inl (e _ _ h))
  · exact .inl (.inr ⟨o, e _ _ h⟩)
  · exact .inr h

section
variable {K : PySem.W.Frag} {w : World} {F F' : Hp}
mutual
theorem Rep.mono (e : Same F F') : ∀ {d : D} {v : V}, Rep K w F d v → Rep K w F' d v
  | _, _, .non => .non
  | _, _, .bl b => .bl b
  | _, _, .int i => .int i
  | _, _, .str x => .str x
  | _, _, .tup h r => .tup (Same.seqT e h) (RepAll.mono e r)
  | _, _, .lst h r => .lst (e _ _ h) (RepAll.mono e r)
  | _, _, .dic h r => .dic (e _ _ h) (RepKs.mono e r)
  | _, _, .dit h r n z y => .dit (e _ _ h) (RepEs.mono e r) n z y
  | _, _, .obj h r => .obj (e _ _ h) (RepFs.mono e r)
  | _, _, .gl x => .gl x
  | _, _, .scr h => .scr (e.seq h)
  | _, _, .ty n => .ty n
  | _, _, .clo h h2 r => .clo (e _ _ h) (e _ _ h2) (RepAll.mono e r)
theorem RepAll.mono (e : Same F F') : ∀ {ds : List D} {vs : List V}, RepAll K w F ds vs → RepAll K w F' ds vs
  | _, _, .nil => .nil
  | _, _, .cons h r => .cons (Rep.mono e h) (RepAll.mono e r)
theorem RepKs.mono (e : Same F F') : ∀ {ds : List (D × D)} {vs : List (Key × V)}, RepKs K w F ds vs → RepKs K w F' ds vs
  | _, _, .nil => .nil
  | _, _, .cons k h r => .cons k (Rep.mono e h) (RepKs.mono e r)
theorem RepEs.mono (e : Same F F') : ∀ {ds : List (D × D)} {vs : List (Int × Addr × V)}, RepEs K w F ds vs → RepEs K w F' ds vs
  | _, _, .nil => .nil
  | _, _, .cons k h1 h r => .cons k (Rep.mono e h1) (Rep.mono e h) (RepEs.mono e r)
theorem RepFs.mono (e : Same F F') : ∀ {ds : List (Str × D)} {vs : List (Str × V)}, RepFs K w F ds vs → RepFs K w F' ds vs
  | _, _, .nil => .nil
  | _, _, .cons h r => .cons (Rep.mono e h) (RepFs.mono e r)
end
theorem RepAll.length : ∀ {ds : List D} {vs : List V}, RepAll K w F ds vs → ds.length = vs.length
  | _, _, .nil => rfl
  | _, _, .cons _ r => congrArg Nat.succ (RepAll.length r)
theorem RepAll.get : ∀ {ds : List D} {vs : List V} {i : Nat} {d : D}, RepAll K w F ds vs → ds[i]? = some d → ∃ v, vs[i]? = some v ∧ Rep K w F d v
  | _, _, _, _, .nil, e => by simp at e
  | _, _, 0, _, .cons h _, e => by simp at e; subst e; exact ⟨_, rfl, h⟩
  | _, _, i + 1, d, .cons _ r, e => by
    obtain ⟨v, h1, h2⟩ := RepAll.get (i := i) (d := d) r (by simpa using e)
    exact ⟨v, by simpa using h1, h2⟩
theorem RepAll.get' : ∀ {ds : List D} {vs : List V} {i : Nat} {v : V}, RepAll K w F ds vs → vs[i]? = some v → ∃ d, ds[i]? = some d ∧ Rep K w F d v
  | _, _, _, _, .nil, e => by simp at e
  | _, _, 0, _, .cons h _, e => by simp at e; subst e; exact ⟨_, rfl, h⟩
  | _, _, i + 1, v, .cons _ r, e => by
    obtain ⟨d, h1, h2⟩ := RepAll.get' (i := i) (v := v) r (by simpa using e)
    exact ⟨d, by simpa using h1, h2⟩
theorem RepAll.append : ∀ {ds es : List D} {xs ys : List V}, RepAll K w F ds xs → RepAll K w F es ys → RepAll K w F (ds ++ es) (xs ++ ys)
  | _, _, _, _, .nil, s => s
  | _, _, _, _, .cons h r, s => .cons h (RepAll.append r s)
theorem RepAll.take (n : Nat) : ∀ {ds : List D} {xs : List V}, RepAll K w F ds xs → RepAll K w F (ds.take n) (xs.take n) := by
  induction n with
  | zero => intro ds xs _; exact .nil
  | succ n ih =>
    intro ds xs r
    cases r with
    | nil => exact .nil
    | cons h r => exact .cons h (ih r)
theorem RepAll.drop (n : Nat) : ∀ {ds : List D} {xs : List V}, RepAll K w F ds xs → RepAll K w F (ds.drop n) (xs.drop n) := by
  induction n with
  | zero => intro ds xs r; exact r
  | succ n ih =>
    intro ds xs r
    cases r with
    | nil => exact .nil
    | cons h r => exact ih r
theorem RepAll.set {d : D} {v : V} (h : Rep K w F d v) : ∀ {ds : List D} {xs : List V} (i : Nat), RepAll K w F ds xs → RepAll K w F (ds.set i d) (xs.set i v)
  | _, _, _, .nil => .nil
  | _, _, 0, .cons _ r => .cons h r
  | _, _, i + 1, .cons g r => .cons g (RepAll.set h i r)
theorem RepAll.eraseIdx : ∀ {ds : List D} {xs : List V} (i : Nat), RepAll K w F ds xs → RepAll K w F (ds.eraseIdx i) (xs.eraseIdx i)
  | _, _, _, .nil => .nil
  | _, _, 0, .cons _ r => r
  | _, _, i + 1, .cons g r => .cons g (RepAll.eraseIdx i r)
theorem RepAll.reverse {ds : List D} {xs : List V} (h : RepAll K w F ds xs) : RepAll K w F ds.reverse xs.reverse := by
  induction ds generalizing xs with
  | nil => cases h; exact .nil
  | cons d ds ih =>
    cases h with
    | cons h r =>
      rw [List.reverse_cons, List.reverse_cons]
      exact RepAll.append (ih r) (.cons h .nil)
theorem RepAll.dropLast {ds : List D} {xs : List V} (h : RepAll K w F ds xs) : RepAll K w F ds.dropLast xs.dropLast := by
  rw [List.dropLast_eq_take, List.dropLast_eq_take, h.length]
  exact h.take _
theorem RepFs.get : ∀ {ds : List (Str × D)} {vs : List (Str × V)} {f : Str} {d : D}, RepFs K w F ds vs → ds.lookup f = some d → ∃ v, vs.lookup f = some v ∧ Rep K w F d v
  | _, _, _, _, .nil, e => by simp at e
  | _, _, f, d, .cons (x := x) h r, e => by
    rw [List.lookup_cons] at e ⊢
    cases hb : f == x with
    | true => rw [hb] at e; cases e; exact ⟨_, rfl, h⟩
    | false =>
      rw [hb] at e
      exact RepFs.get r e
theorem RepFs.none : ∀ {ds : List (Str × D)} {vs : List (Str × V)} {f : Str}, RepFs K w F ds vs → ds.lookup f = Option.none → vs.lookup f = Option.none
  | _, _, _, .nil, e => rfl
  | _, _, f, .cons (x := x) h r, e => by
    rw [List.lookup_cons] at e ⊢
    cases hb : f == x with
    | true => rw [hb] at e; cases e
    | false =>
      rw [hb] at e
      exact RepFs.none r e
theorem RepAll.ints : ∀ {ns : List Int} {vs : List V}, RepAll K w F (ns.map D.int) vs → vs = ns.map V.int
  | [], _, .nil => rfl
  | n :: ns, _, .cons h r => by
    cases h
    rw [List.map_cons, RepAll.ints r]
theorem RepAll.bls : ∀ {ns : List Bool} {vs : List V}, RepAll K w F (ns.map D.bl) vs → vs = ns.map V.bl
  | [], _, .nil => rfl
  | n :: ns, _, .cons h r => by
    cases h
    rw [List.map_cons, RepAll.bls r]
theorem RepAll.strs : ∀ {ns : List Str} {vs : List V}, RepAll K w F (ns.map D.str) vs → vs = ns.map V.str
  | [], _, .nil => rfl
  | n :: ns, _, .cons h r => by
    cases h
    rw [List.map_cons, RepAll.strs r]
theorem RepAll.of_ints : ∀ (ns : List Int), RepAll K w F (ns.map D.int) (ns.map V.int)
  | [] => .nil
  | n :: ns => .cons (.int n) (RepAll.of_ints ns)
theorem RepAll.of_strs : ∀ (ns : List Str), RepAll K w F (ns.map D.str) (ns.map V.str)
  | [] => .nil
  | n :: ns => .cons (.str n) (RepAll.of_strs ns)
end

/-! ### the store -/
inductive R where
  | d (x : D) | loc (n : Nat) | slot (i : Nat)
  deriving Inhabited
inductive Cell where
  | lst (ds : List D) | dic (kvs : List (D × D)) | dit (kvs : List (D × D)) | ins (C : Str) (fs : List (Str × R)) | frz (x : D) | tab (x : Str)
  deriving Inhabited
/-- what a name holds: a value, or a list or dict of the frame's own that nothing else names -/
inductive Ent where
  | r (x : R) | own (c : Cell)
  deriving Inhabited
abbrev Fr := List (Option Ent)
abbrev Sto := List Cell

def RepR (K : PySem.W.Frag) (w : World) (F : Hp) (μ : List Addr) (σ : L2.St) : R → V → Prop
  | .d x, v => Rep K w F x v
  | .loc n, v => ∃ a, μ[n]? = some a ∧ v = .ref a
  | .slot i, v => σ[i]? = some (some v)
inductive RepFR (K : PySem.W.Frag) (w : World) (F : Hp) (μ : List Addr) : List (Str × R) → List (Str × V) → Prop
  | nil : RepFR K w F μ [] []
  | cons {x : Str} {r : R} {rs : List (Str × R)} {v : V} {vs : List (Str × V)} : RepR K w F μ [] r v → RepFR K w F μ rs vs → RepFR K w F μ ((x, r) :: rs) ((x, v) :: vs)
inductive RepRs (K : PySem.W.Frag) (w : World) (F : Hp) (μ : List Addr) (σ : L2.St) : List R → List V → Prop
  | nil : RepRs K w F μ σ [] []
  | cons {r : R} {rs : List R} {v : V} {vs : List V} : RepR K w F μ σ r v → RepRs K w F μ σ rs vs → RepRs K w F μ σ (r :: rs) (v :: vs)

def CellOk (K : PySem.W.Frag) (w : World) (F : Hp) (μ : List Addr) (H : Hp) (a : Addr) : Cell → Prop
  | .lst ds => F a = none ∧ ∃ xs, H a = some (.lst xs) ∧ RepAll K w F ds xs
  | .dic kvs => F a = none ∧ ∃ ks, H a = some (.dK ks) ∧ RepKs K w F kvs ks
  | .dit kvs => F a = none ∧ ∃ o es, H a = some (dxt a o es) ∧ RepEs K w F kvs es ∧ (kvs.map fun p => tupKey p.1).Nodup ∧ es.length ≤ sizeLine ∧ a ≠ sysModules
  | .ins C fs => F a = none ∧ ∃ dx vs, H a = some (.ins (He.ga K C) dx vs) ∧ RepFR K w F μ fs vs
  | .frz x => Rep K w F x (.ref a)
  | .tab x => F a = none ∧ a = (He.cT K (x, none)).2 ∧ ∃ ps : Array Value, H a = some (.tbl ps) ∧ TriplesOk ps.toList ∧ ∀ (pos : Pos) (cv : Value), codeAmong pos ps.toList = some cv → ∃ c, cv = .ref c ∧ F c = some (LamX.CodeO c (x ++ ".<locals>.<lambda>"))

structure Rel (K : PySem.W.Frag) (w : World) (F : Hp) (μ : List Addr) (S : Sto) (H : Hp) : Prop where
  le : Same F H
  nd : μ.Nodup
  len : μ.length = S.length
  there : ∀ a ∈ μ, H a ≠ none
  cell : ∀ (n : Nat) (a : Addr) (c : Cell), μ[n]? = some a → S[n]? = some c → CellOk K w F μ H a c

section
variable {K : PySem.W.Frag} {w : World} {F F' H H' : Hp} {μ μ' : List Addr} {S : Sto}
theorem get_of_prefix {α : Type} {l l' : List α} (p : l <+: l') {n : Nat} {a : α} (e : l[n]? = some a) : l'[n]? = some a := by
  obtain ⟨t, rfl⟩ := p
  rw [List.getElem?_append_left (List.getElem?_eq_some_iff.mp e).1]
  exact e
theorem RepR.mono {σ : L2.St} (e : Same F F') (p : μ <+: μ') : ∀ {r : R} {v : V}, RepR K w F μ σ r v → RepR K w F' μ' σ r v
  | .d _, _, h => Rep.mono e h
  | .loc _, _, ⟨a, h, q⟩ => ⟨a, get_of_prefix p h, q⟩
  | .slot _, _, h => h
theorem RepFR.mono (e : Same F F') (p : μ <+: μ') : ∀ {r : List (Str × R)} {v : List (Str × V)}, RepFR K w F μ r v → RepFR K w F' μ' r v
  | _, _, .nil => .nil
  | _, _, .cons h r => .cons (h.mono e p) (RepFR.mono e p r)
theorem RepRs.mono {σ : L2.St} (e : Same F F') (p : μ <+: μ') : ∀ {r : List R} {v : List V}, RepRs K w F μ σ r v → RepRs K w F' μ' σ r v
  | _, _, .nil => .nil
  | _, _, .cons h r => .cons (h.mono e p) (RepRs.mono e p r)
theorem RepFR.get : ∀ {ds : List (Str × R)} {vs : List (Str × V)} {f : Str} {r : R}, RepFR K w F μ ds vs → ds.lookup f = some r → ∃ v, vs.lookup f = some v ∧ RepR K w F μ [] r v
  | _, _, _, _, .nil, e => by simp at e
  | _, _, f, d, .cons (x := x) h r, e => by
    rw [List.lookup_cons] at e ⊢
    cases hb : f == x with
    | true => rw [hb] at e; cases e; exact ⟨_, rfl, h⟩
    | false =>
      rw [hb] at e
      exact RepFR.get r e
theorem RepFR.none : ∀ {ds : List (Str × R)} {vs : List (Str × V)} {f : Str}, RepFR K w F μ ds vs → ds.lookup f = Option.none → vs.lookup f = Option.none
  | _, _, _, .nil, e => rfl
  | _, _, f, .cons (x := x) h r, e => by
    rw [List.lookup_cons] at e ⊢
    cases hb : f == x with
    | true => rw [hb] at e; cases e
    | false =>
      rw [hb] at e
      exact RepFR.none r e
theorem RepFR.length : ∀ {ds : List (Str × R)} {vs : List (Str × V)}, RepFR K w F μ ds vs → ds.length = vs.length
  | _, _, .nil => rfl
  | _, _, .cons _ r => congrArg Nat.succ (RepFR.length r)
theorem RepRs.length {σ : L2.St} : ∀ {ds : List R} {vs : List V}, RepRs K w F μ σ ds vs → ds.length = vs.length
  | _, _, .nil => rfl
  | _, _, .cons _ r => congrArg Nat.succ (RepRs.length r)
def putR (f : Str) (v : R) : List (Str × R) → List (Str × R)
  | [] => [(f, v)]
  | (g, u) :: r => if g = f then (f, v) :: r else (g, u) :: putR f v r
theorem RepFR.put {f : Str} {r : R} {v : V} (h : RepR K w F μ [] r v) : ∀ {ds : List (Str × R)} {vs : List (Str × V)}, RepFR K w F μ ds vs → RepFR K w F μ (putR f r ds) (putF f v vs)
  | _, _, .nil => .cons h .nil
  | _, _, .cons (x := x) g q => by
    unfold putR putF
    by_cases e : x = f
    · subst e; rw [if_pos rfl, if_pos rfl]; exact .cons h q
    · rw [if_neg e, if_neg e]; exact .cons g (RepFR.put h q)
end

/-! ### steps -/
/-- nothing that was tracked is changed; what is frozen newly was free -/
structure Step (F H F' H' : Hp) : Prop where
  f : Same F F'
  h : Same H H'
  le : Same F' H'
  new : ∀ a, F' a ≠ none → F a = none → H a = none
theorem Step.refl {F H : Hp} (e : Same F H) : Step F H F H := ⟨Same.refl _, Same.refl _, e, fun _ h1 h2 => absurd h2 h1⟩
theorem Step.trans {F H F1 H1 F2 H2 : Hp} (a : Step F H F1 H1) (b : Step F1 H1 F2 H2) : Step F H F2 H2 :=
  ⟨a.f.trans b.f, a.h.trans b.h, b.le, fun c h1 h2 => by
    cases q : F1 c with
    | none =>
      have z := b.new c h1 q
      exact a.h.free z
    | some o => exact a.new c (by rw [q]; exact fun z => nomatch z) h2⟩
theorem upd_le {F H : Hp} (e : Same F H) (p : Addr) (o : HO) : Same (upd F p o) (upd H p o) := fun b u q => by
  by_cases h : b = p
  · subst h; rw [upd_same] at q ⊢; exact q
  · rw [upd_ne h] at q ⊢; exact e b u q
theorem same_upd {H : Hp} {p : Addr} {o : HO} (h : H p = none) : Same H (upd H p o) := fun b u q => by
  rw [upd_ne (ne_of_none q h)]; exact q
theorem Step.new1 {F H : Hp} (e : Same F H) {p : Addr} (h : H p = none) (o : HO) : Step F H (upd F p o) (upd H p o) :=
  ⟨same_upd (e.free h), same_upd h, upd_le e p o, fun a h1 h2 => by
    by_cases q : a = p
    · rw [q]; exact h
    · rw [upd_ne q] at h1; exact absurd h2 h1⟩
/-- a tracked object that is not frozen (a fresh list of a comprehension ..) is frozen now -/
theorem Step.fz {F H : Hp} (e : Same F H) {p : Addr} {o : HO} (h : H p = some o) (hf : F p = none) : Same (upd F p o) H ∧ Same F (upd F p o) :=
  ⟨fun b u q => by
    by_cases z : b = p
    · subst z; rw [upd_same] at q; rw [h]; exact q
    · rw [upd_ne z] at q; exact e b u q, same_upd hf⟩
/-- .. with calls: cells may change, be frozen, come -/
structure Grow (F H F' H' : Hp) (μ μ' : List Addr) : Prop where
  f : Same F F'
  p : μ <+: μ'
  h : ∀ a o, H a = some o → a ∉ μ → H' a = some o
  nf : ∀ a, F' a ≠ none → F a = none → a ∉ μ → H a = none
  nm : ∀ a, a ∈ μ' → a ∉ μ → H a = none
theorem Step.grow {F H F' H' : Hp} {μ : List Addr} (s : Step F H F' H') : Grow F H F' H' μ μ :=
  ⟨s.f, List.prefix_rfl, fun a o e _ => s.h a o e, fun a h1 h2 _ => s.new a h1 h2, fun a h1 h2 => absurd h1 h2⟩
theorem Grow.refl {F H : Hp} {μ : List Addr} : Grow F H F H μ μ := ⟨Same.refl _, List.prefix_rfl, fun _ _ e _ => e, fun _ h1 h2 => absurd h2 h1, fun a h1 h2 => absurd h1 h2⟩
theorem Grow.trans {F H F1 H1 F2 H2 : Hp} {μ μ1 μ2 : List Addr} (a : Grow F H F1 H1 μ μ1) (b : Grow F1 H1 F2 H2 μ1 μ2) : Grow F H F2 H2 μ μ2 := by
  have back : ∀ c, c ∉ μ → H1 c = none → H c = none := fun c hc e => by
    cases q : H c with
    | none => rfl
    | some o => rw [a.h c o q hc] at e; cases e
  have hm : ∀ c, c ∉ μ → ∀ o, H c = some o → c ∉ μ1 := fun c hc o e hm => by rw [a.nm c hm hc] at e; cases e
  refine ⟨a.f.trans b.f, a.p.trans b.p, fun c o e hc => b.h c o (a.h c o e hc) (hm c hc o e), fun c h1 h2 hc => ?_, fun c h1 h2 => ?_⟩
  · cases q : F1 c with
    | some o => exact a.nf c (by rw [q]; exact fun z => nomatch z) h2 hc
    | none =>
      by_cases m : c ∈ μ1
      · exact a.nm c m hc
      · exact back c hc (b.nf c h1 q m)
  · by_cases m : c ∈ μ1
    · exact a.nm c m h2
    · exact back c h2 (b.nm c h1 m)
section
variable {K : PySem.W.Frag} {w : World} {F F' H H' : Hp} {μ μ' : List Addr} {S S' : Sto}
theorem CellOk.step {a : Addr} {c : Cell} (st : Step F H F' H') (th : H a ≠ none) (k : CellOk K w F μ H a c) (p : μ <+: μ') : CellOk K w F' μ' H' a c := by
  have nf : F a = none → F' a = none := fun h => by
    cases q : F' a with
    | none => rfl
    | some o => exact absurd (st.new a (by rw [q]; exact fun z => nomatch z) h) th
  cases c with
  | lst ds => obtain ⟨h1, xs, h2, r⟩ := k; exact ⟨nf h1, xs, st.h _ _ h2, r.mono st.f⟩
  | dic kvs => obtain ⟨h1, xs, h2, r⟩ := k; exact ⟨nf h1, xs, st.h _ _ h2, r.mono st.f⟩
  | dit kvs => obtain ⟨h1, o, xs, h2, r, z⟩ := k; exact ⟨nf h1, o, xs, st.h _ _ h2, r.mono st.f, z⟩
  | ins C fs => obtain ⟨h1, dx, vs, h2, r⟩ := k; exact ⟨nf h1, dx, vs, st.h _ _ h2, r.mono st.f p⟩
  | frz x => exact Rep.mono st.f k
  | tab x => obtain ⟨h1, e, ps, h2, h3, h4⟩ := k; exact ⟨nf h1, e, ps, st.h _ _ h2, h3, fun pos cv q => (h4 pos cv q).imp fun c z => ⟨z.1, st.f _ _ z.2⟩⟩
theorem Rel.step (r : Rel K w F μ S H) (st : Step F H F' H') : Rel K w F' μ S H' :=
  ⟨st.le, r.nd, r.len, fun a ha q => r.there a ha (st.h.free q), fun n a c h1 h2 => (r.cell n a c h1 h2).step st (r.there a (List.mem_of_getElem? h1)) List.prefix_rfl⟩
theorem Rel.lt (r : Rel K w F μ S H) {n : Nat} {a : Addr} (h : μ[n]? = some a) : n < S.length := by
  rw [← r.len]; exact (List.getElem?_eq_some_iff.mp h).1
/-- a new cell -/
theorem Rel.alloc (r : Rel K w F μ S H) {p : Addr} {o : HO} {c : Cell} (hp : H p = none) (k : CellOk K w F (μ ++ [p]) (upd H p o) p c) : Rel K w F (μ ++ [p]) (S ++ [c]) (upd H p o) := by
  have hF : F p = none := r.le.free hp
  have np : p ∉ μ := fun h => r.there p h hp
  have st : Step F H F (upd H p o) := ⟨Same.refl _, same_upd hp, r.le.trans (same_upd hp), fun _ h1 h2 => absurd h2 h1⟩
  refine ⟨st.le, ?_, by simp [r.len], fun a ha => ?_, fun n a d h1 h2 => ?_⟩
  · refine List.nodup_append.mpr ⟨r.nd, by simp, fun a ha b hb e => np ?_⟩
    have : b = p := by simpa using hb
    rw [← this, ← e]; exact ha
  · rcases List.mem_append.mp ha with h | h
    · exact fun q => r.there a h (st.h.free q)
    · have : a = p := by simpa using h
      rw [this, upd_same]; exact fun z => nomatch z
  · by_cases hn : n < μ.length
    · rw [List.getElem?_append_left hn] at h1
      rw [List.getElem?_append_left (by rw [← r.len]; exact hn)] at h2
      exact (r.cell n a d h1 h2).step st (r.there a (List.mem_of_getElem? h1)) (List.prefix_append _ _)
    · have h3 := (List.getElem?_eq_some_iff.mp h1).1
      have e : n = μ.length := by simp at h3; omega
      subst e
      rw [List.getElem?_append_right (Nat.le_refl _)] at h1
      rw [r.len, List.getElem?_append_right (Nat.le_refl _)] at h2
      simp at h1 h2
      subst h1 h2
      exact k
/-- the cell n is changed -/
theorem Rel.put (r : Rel K w F μ S H) {n : Nat} {a : Addr} {o : HO} {c : Cell} (hn : μ[n]? = some a) (hF : F a = none) (k : CellOk K w F μ (upd H a o) a c) : Rel K w F μ (S.set n c) (upd H a o) := by
  have ne : ∀ b u, F b = some u → b ≠ a := fun b u q z => by rw [z, hF] at q; cases q
  refine ⟨fun b u q => by rw [upd_ne (ne b u q)]; exact r.le b u q, r.nd, by simp [r.len], fun b hb => ?_, fun m b d h1 h2 => ?_⟩
  · by_cases z : b = a
    · rw [z, upd_same]; exact fun z => nomatch z
    · rw [upd_ne z]; exact r.there b hb
  · by_cases e : m = n
    · subst e
      rw [hn] at h1; cases h1
      rw [List.getElem?_set_self (r.lt hn)] at h2; cases h2
      exact k
    · rw [List.getElem?_set_ne (Ne.symm e)] at h2
      have nb : b ≠ a := fun z => by
        subst z
        exact e ((List.getElem?_inj (List.getElem?_eq_some_iff.mp h1).1 r.nd).mp (h1.trans hn.symm))
      have q := r.cell m b d h1 h2
      cases d with
      | lst ds => obtain ⟨g1, xs, g2, g⟩ := q; exact ⟨g1, xs, by rw [upd_ne nb]; exact g2, g⟩
      | dic kvs => obtain ⟨g1, xs, g2, g⟩ := q; exact ⟨g1, xs, by rw [upd_ne nb]; exact g2, g⟩
      | dit kvs => obtain ⟨g1, o', xs, g2, g⟩ := q; exact ⟨g1, o', xs, by rw [upd_ne nb]; exact g2, g⟩
      | tab x => obtain ⟨g1, e, ps, g2, g⟩ := q; exact ⟨g1, e, ps, by rw [upd_ne nb]; exact g2, g⟩
      | ins C fs => obtain ⟨g1, dx, xs, g2, g⟩ := q; exact ⟨g1, dx, xs, by rw [upd_ne nb]; exact g2, g⟩
      | frz x => exact q
/-- the cell n is frozen -/
theorem Rel.freeze (r : Rel K w F μ S H) {n : Nat} {a : Addr} {o : HO} {x : D} (hn : μ[n]? = some a) (hF : F a = none) (ho : H a = some o) (k : Rep K w (upd F a o) x (.ref a)) : Rel K w (upd F a o) μ (S.set n (.frz x)) H := by
  obtain ⟨h1, h2⟩ := Step.fz r.le ho hF
  refine ⟨h1, r.nd, by simp [r.len], r.there, fun m b d g1 g2 => ?_⟩
  by_cases e : m = n
  · subst e
    rw [hn] at g1; cases g1
    rw [List.getElem?_set_self (r.lt hn)] at g2; cases g2
    exact k
  · rw [List.getElem?_set_ne (Ne.symm e)] at g2
    have nb : b ≠ a := fun z => by
      subst z
      exact e ((List.getElem?_inj (List.getElem?_eq_some_iff.mp g1).1 r.nd).mp (g1.trans hn.symm))
    have q := r.cell m b d g1 g2
    have nf : ∀ {P : Prop}, F b = none ∧ P → upd F a o b = none := fun z => by rw [upd_ne nb]; exact z.1
    cases d with
    | lst ds => exact ⟨nf q, q.2.imp fun xs g => ⟨g.1, g.2.mono h2⟩⟩
    | dic kvs => exact ⟨nf q, q.2.imp fun xs g => ⟨g.1, g.2.mono h2⟩⟩
    | dit kvs => exact ⟨nf q, q.2.imp fun o' g => g.imp fun xs g => ⟨g.1, g.2.1.mono h2, g.2.2⟩⟩
    | tab x => exact ⟨nf q, q.2.1, q.2.2.imp fun ps g => ⟨g.1, g.2.1, fun pos cv z => (g.2.2 pos cv z).imp fun c z => ⟨z.1, h2 _ _ z.2⟩⟩⟩
    | ins C fs => exact ⟨nf q, q.2.imp fun dx g => g.imp fun xs g => ⟨g.1, g.2.mono h2 List.prefix_rfl⟩⟩
    | frz x => exact Rep.mono h2 q
/-- the cells behind the n-th are forgotten; no field of an instance ahead may hold one of them -/
def noLoc (n : Nat) : R → Bool
  | .d _ => true
  | .loc m => decide (m < n)
  | .slot _ => false
def cellLoc (n : Nat) : Cell → Bool
  | .ins _ fs => fs.all fun p => noLoc n p.2
  | _ => true
theorem RepFR.take {n : Nat} : ∀ {fs : List (Str × R)} {vs : List (Str × V)}, RepFR K w F μ fs vs → (fs.all fun p => noLoc n p.2) = true → RepFR K w F (μ.take n) fs vs
  | _, _, .nil, _ => .nil
  | _, _, .cons (r := r) h q, e => by
    simp only [List.all_cons, Bool.and_eq_true] at e
    refine .cons ?_ (RepFR.take q e.2)
    cases r with
    | d x => exact h
    | loc m =>
      obtain ⟨a, h1, h2⟩ := h
      refine ⟨a, ?_, h2⟩
      have hm : m < n := of_decide_eq_true e.1
      rw [List.getElem?_take_of_lt hm]; exact h1
    | slot i => cases e.1
theorem Rel.cut (r : Rel K w F μ S H) (n : Nat) (h : ((S.take n).all (cellLoc n)) = true) : Rel K w F (μ.take n) (S.take n) H := by
  refine ⟨r.le, r.nd.sublist (List.take_sublist _ _), by simp [r.len], fun a ha => r.there a (List.mem_of_mem_take ha), fun m a c h1 h2 => ?_⟩
  have hc : c ∈ S.take n := List.mem_of_getElem? h2
  have hl := List.all_eq_true.mp h c hc
  have hm : m < n := by
    have := (List.getElem?_eq_some_iff.mp h2).1
    simp at this; omega
  rw [List.getElem?_take_of_lt hm] at h1 h2
  have q := r.cell m a c h1 h2
  cases c with
  | lst ds => exact q
  | dic kvs => exact q
  | dit kvs => exact q
  | tab x => exact q
  | ins C fs => exact ⟨q.1, q.2.imp fun dx g => g.imp fun vs g => ⟨g.1, g.2.take hl⟩⟩
  | frz x => exact q
end

section
variable {K : PySem.W.Frag} {w : World} {F F' H H' : Hp} {μ μ' : List Addr} {S S' : Sto}
theorem Grow.alloc (r : Rel K w F μ S H) {p : Addr} (o : HO) (hp : H p = none) : Grow F H F (upd H p o) μ (μ ++ [p]) :=
  ⟨Same.refl _, List.prefix_append _ _, fun a u e _ => same_upd hp a u e, fun _ h1 h2 => absurd h2 h1, fun a h1 h2 => by
    rcases List.mem_append.mp h1 with h | h
    · exact absurd h h2
    · have : a = p := by simpa using h
      rw [this]; exact hp⟩
theorem Grow.put {n : Nat} {a : Addr} (o : HO) (hn : μ[n]? = some a) : Grow F H F (upd H a o) μ μ :=
  ⟨Same.refl _, List.prefix_rfl, fun b u e hb => by
    rw [upd_ne (fun z => hb (by rw [z]; exact List.mem_of_getElem? hn))]; exact e, fun _ h1 h2 => absurd h2 h1, fun a h1 h2 => absurd h1 h2⟩
theorem Grow.freeze {n : Nat} {a : Addr} (o : HO) (hn : μ[n]? = some a) (hF : F a = none) : Grow F H (upd F a o) H μ μ :=
  ⟨same_upd hF, List.prefix_rfl, fun _ _ e _ => e, fun b h1 h2 hb => by
    have : b ≠ a := fun z => hb (by rw [z]; exact List.mem_of_getElem? hn)
    rw [upd_ne this] at h1; exact absurd h2 h1, fun a h1 h2 => absurd h1 h2⟩
/-- a live cell that the steps did not touch -/
theorem CellOk.grow {a : Addr} {c : Cell} (g : Grow F H F' H' μ μ') (th : H a ≠ none) (hm : a ∉ μ) (hF : F a = none) (k : CellOk K w F μ H a c) : CellOk K w F' μ' H' a c := by
  have nf : F' a = none := by
    cases q : F' a with
    | none => rfl
    | some o => exact absurd (g.nf a (by rw [q]; exact fun z => nomatch z) hF hm) th
  cases c with
  | lst ds => obtain ⟨h1, xs, h2, r⟩ := k; exact ⟨nf, xs, g.h _ _ h2 hm, r.mono g.f⟩
  | dic kvs => obtain ⟨h1, xs, h2, r⟩ := k; exact ⟨nf, xs, g.h _ _ h2 hm, r.mono g.f⟩
  | dit kvs => obtain ⟨h1, o, xs, h2, r, z⟩ := k; exact ⟨nf, o, xs, g.h _ _ h2 hm, r.mono g.f, z⟩
  | tab x => obtain ⟨h1, e, ps, h2, h3, h4⟩ := k; exact ⟨nf, e, ps, g.h _ _ h2 hm, h3, fun pos cv q => (h4 pos cv q).imp fun c z => ⟨z.1, g.f _ _ z.2⟩⟩
  | ins C fs => obtain ⟨h1, dx, vs, h2, r⟩ := k; exact ⟨nf, dx, vs, g.h _ _ h2 hm, r.mono g.f g.p⟩
  | frz x => exact Rep.mono g.f k

/-- the frame: what each name holds -/
structure RelFr (K : PySem.W.Frag) (w : World) (F : Hp) (μ : List Addr) (H : Hp) (ρ : Fr) (σ : L2.St) : Prop where
  len : ρ.length = σ.length
  r : ∀ (i : Nat) (x : R), ρ[i]? = some (some (.r x)) → ∃ v, σ[i]? = some (some v) ∧ RepR K w F μ [] x v
  own : ∀ (i : Nat) (c : Cell), ρ[i]? = some (some (.own c)) → ∃ a, σ[i]? = some (some (.ref a)) ∧ a ∉ μ ∧ F a = none ∧ H a ≠ none ∧ CellOk K w F μ H a c
  dist : ∀ (i j : Nat) (c d : Cell) (a : Addr), ρ[i]? = some (some (.own c)) → ρ[j]? = some (some (.own d)) → σ[i]? = some (some (.ref a)) → σ[j]? = some (some (.ref a)) → i = j
theorem RelFr.grow {ρ : Fr} {σ : L2.St} (g : Grow F H F' H' μ μ') (x : RelFr K w F μ H ρ σ) : RelFr K w F' μ' H' ρ σ := by
  refine ⟨x.len, fun i y e => (x.r i y e).imp fun v z => ⟨z.1, z.2.mono g.f g.p⟩, fun i c e => ?_, x.dist⟩
  obtain ⟨a, h1, h2, h3, h4, h5⟩ := x.own i c e
  refine ⟨a, h1, fun hm => h4 (g.nm a hm h2), ?_, ?_, h5.grow g h4 h2 h3⟩
  · cases q : F' a with
    | none => rfl
    | some o => exact absurd (g.nf a (by rw [q]; exact fun z => nomatch z) h3 h2) h4
  · cases q : H a with
    | none => exact absurd q h4
    | some o => rw [g.h a o q h2]; exact fun z => nomatch z
end
end MM
namespace MM
open PySem PySem.Spec PyProof.Rows L2

inductive Out (α : Type) where
  | ok (a : α) | ex (c : Str) (fs : List (Str × D))
  deriving Inhabited
abbrev GM (α : Type) := Fr → Sto → Option (Out α × Sto)
abbrev EM := GM R
abbrev AM := GM (List R)
abbrev TM := GM Bool
abbrev FM := List R → Sto → Option (Out R × Sto)
inductive Flo where
  | nx | rt (r : R) | bk | ct | ex (c : Str) (fs : List (Str × D))
  deriving Inhabited
abbrev SM := Fr → Sto → Option (Flo × Fr × Sto)

def bindM {α β : Type} (m : GM α) (f : α → GM β) : GM β := fun ρ S => match m ρ S with
  | none => none
  | some (.ex c fs, S') => some (.ex c fs, S')
  | some (.ok a, S') => f a ρ S'
def pureM {α : Type} (a : α) : GM α := fun _ S => some (.ok a, S)

/-- an exception's own dict -/
def ExD (K : PySem.W.Frag) (w : World) (F : Hp) (d : Option Addr) (fs : List (Str × D)) : Prop := (d = none ∧ fs = []) ∨ ∃ dx vs, d = some dx ∧ F dx = some (.xd vs) ∧ RepFs K w F fs vs
section
variable {K : PySem.W.Frag} {w : World} {F F' H H' : Hp} {μ μ' : List Addr} {S S' : Sto} {ρ : Fr} {σ : L2.St}
theorem ExD.mono (e : Same F F') {d : Option Addr} {fs : List (Str × D)} (h : ExD K w F d fs) : ExD K w F' d fs := by
  rcases h with h | ⟨dx, vs, h1, h2, h3⟩
  · exact .inl h
  · exact .inr ⟨dx, vs, h1, e _ _ h2, h3.mono e⟩
end

/-- what is wanted of an answer -/
def coreAt {α β : Type} (K : PySem.W.Frag) (w : World) (Rp : L2.St → Hp → List Addr → α → β → Prop) (W : WX) (res : Option (Out α × Sto)) (F : Hp) (μ : List Addr) (σ : L2.St) (H : Hp) (Q : β → Hp → Prop) : Prop :=
  ∃ o S', res = some (o, S') ∧ match o with
    | .ok a => ∀ F' μ' H' v, Grow F H F' H' μ μ' → Rel K w F' μ' S' H' → Rp σ F' μ' a v → Q v H'
    | .ex c fs => ∀ F' μ' H' d, Grow F H F' H' μ μ' → Rel K w F' μ' S' H' → ExD K w F' d fs → W (.ref (He.ga K c)) d σ H'
def core {α β : Type} (K : PySem.W.Frag) (w : World) (Rp : L2.St → Hp → List Addr → α → β → Prop) (W : WX) (m : GM α) : L2.St → Hp → (β → Hp → Prop) → Prop :=
  fun σ H Q => ∃ F μ ρ S, Rel K w F μ S H ∧ RelFr K w F μ H ρ σ ∧ coreAt K w Rp W (m ρ S) F μ σ H Q
def MonoR {γ δ : Type} (Ra : L2.St → Hp → List Addr → γ → δ → Prop) : Prop := ∀ σ F F' μ μ' a x, Same F F' → μ <+: μ' → Ra σ F μ a x → Ra σ F' μ' a x
section
variable {α β γ δ ε ζ : Type} {K : PySem.W.Frag} {w : World} {Rp : L2.St → Hp → List Addr → α → β → Prop} {Ra : L2.St → Hp → List Addr → γ → δ → Prop} {Rb : L2.St → Hp → List Addr → ε → ζ → Prop} {W : WX} {F F' H H' : Hp} {μ μ' : List Addr} {S S' : Sto} {ρ : Fr} {σ : L2.St}
theorem coreAt.mono {res : Option (Out α × Sto)} {Q : β → Hp → Prop} (g : Grow F H F' H' μ μ') (h : coreAt K w Rp W res F μ σ H Q) : coreAt K w Rp W res F' μ' σ H' Q := by
  obtain ⟨o, S', h1, h2⟩ := h
  refine ⟨o, S', h1, ?_⟩
  cases o with
  | ok a => exact fun F2 μ2 H2 v a1 a3 a4 => h2 F2 μ2 H2 v (g.trans a1) a3 a4
  | ex c fs => exact fun F2 μ2 H2 v a1 a3 a4 => h2 F2 μ2 H2 v (g.trans a1) a3 a4
theorem coreAt.imp {res : Option (Out α × Sto)} {Q Q' : β → Hp → Prop} (h : coreAt K w Rp W res F μ σ H Q) (g : ∀ v H, Q v H → Q' v H) : coreAt K w Rp W res F μ σ H Q' := by
  obtain ⟨o, S', h1, h2⟩ := h
  refine ⟨o, S', h1, ?_⟩
  cases o with
  | ok a => exact fun F2 μ2 H2 v a1 a3 a4 => g _ _ (h2 F2 μ2 H2 v a1 a3 a4)
  | ex c fs => exact h2
theorem core.imp {m : GM α} {Q Q' : β → Hp → Prop} (h : core K w Rp W m σ H Q) (g : ∀ v H, Q v H → Q' v H) : core K w Rp W m σ H Q' := by
  obtain ⟨F, μ, ρ, S, h1, h2, h3⟩ := h
  exact ⟨F, μ, ρ, S, h1, h2, h3.imp g⟩
theorem core_bind {m : GM γ} {f : γ → GM α} {Q : β → Hp → Prop} (h : core K w Rp W (bindM m f) σ H Q) :
    core K w Ra W m σ H (fun x H1 => ∃ a F μ ρ S, Rel K w F μ S H1 ∧ RelFr K w F μ H1 ρ σ ∧ Ra σ F μ a x ∧ coreAt K w Rp W (f a ρ S) F μ σ H1 Q) := by
  obtain ⟨F, μ, ρ, S, h1, h2, h3⟩ := h
  refine ⟨F, μ, ρ, S, h1, h2, ?_⟩
  obtain ⟨o, S', h4, h5⟩ := h3
  unfold bindM at h4
  cases q : m ρ S with
  | none => rw [q] at h4; cases h4
  | some r =>
    obtain ⟨o1, S1⟩ := r
    rw [q] at h4
    cases o1 with
    | ok a => exact ⟨.ok a, S1, rfl, fun F' μ' H' v g r z => ⟨a, F', μ', ρ, S1, r, h2.grow g, z, coreAt.mono g ⟨o, S', h4, h5⟩⟩⟩
    | ex c fs =>
      cases h4
      exact ⟨.ex c fs, _, rfl, h5⟩
theorem core_bin {ma : GM γ} {mb : GM ε} {g : γ → ε → GM α} {Q : β → Hp → Prop} (hm : MonoR Ra) (h : core K w Rp W (bindM ma fun a => bindM mb fun b => g a b) σ H Q) :
    core K w Ra W ma σ H (fun x H1 => core K w Rb W mb σ H1 (fun y H2 => ∃ a b F μ ρ S, Rel K w F μ S H2 ∧ RelFr K w F μ H2 ρ σ ∧ Ra σ F μ a x ∧ Rb σ F μ b y ∧ coreAt K w Rp W (g a b ρ S) F μ σ H2 Q)) := by
  refine (core_bind (Ra := Ra) h).imp fun x H1 ⟨a, F, μ, ρ, S, h1, h2, h3, h4⟩ => ?_
  obtain ⟨o, S', h5, h6⟩ := h4
  refine ⟨F, μ, ρ, S, h1, h2, ?_⟩
  unfold bindM at h5
  cases q : mb ρ S with
  | none => rw [q] at h5; cases h5
  | some r =>
    obtain ⟨o1, S1⟩ := r
    rw [q] at h5
    cases o1 with
    | ok b => exact ⟨.ok b, S1, rfl, fun F' μ' H' v e r z => ⟨a, b, F', μ', ρ, S1, r, h2.grow e, hm _ _ _ _ _ _ _ e.f e.p h3, z, coreAt.mono e ⟨o, S', h5, h6⟩⟩⟩
    | ex c fs =>
      cases h5
      exact ⟨.ex c fs, _, rfl, h6⟩
/-- an answer at once -/
theorem coreAt.ok {a : α} {Q : β → Hp → Prop} (h : coreAt K w Rp W (some (.ok a, S)) F μ σ H Q) {F' : Hp} {μ' : List Addr} {H' : Hp} {v : β} (e : Grow F H F' H' μ μ') (r : Rel K w F' μ' S H') (z : Rp σ F' μ' a v) : Q v H' := by
  obtain ⟨o, S', h1, h2⟩ := h
  cases h1
  exact h2 F' μ' H' v e r z
theorem coreAt.none_ {P : Prop} {Q : β → Hp → Prop} (h : coreAt K w Rp W none F μ σ H Q) : P := by
  obtain ⟨o, S', h1, h2⟩ := h
  cases h1
end
theorem monoR {K : PySem.W.Frag} {w : World} : MonoR (fun σ F μ => RepR K w F μ σ) := fun _ _ _ _ _ _ _ e p h => h.mono e p
abbrev RB : L2.St → Hp → List Addr → Bool → Bool → Prop := fun _ _ _ a b => a = b

abbrev tE (K : PySem.W.Frag) (w : World) (W : WX) (m : EM) : TE := core K w (fun σ F μ => RepR K w F μ σ) W m
abbrev tT (K : PySem.W.Frag) (w : World) (W : WX) (m : TM) : TT := core K w RB W m
abbrev tA (K : PySem.W.Frag) (w : World) (W : WX) (m : AM) : TA := core K w (fun σ F μ => RepRs K w F μ σ) W m
abbrev ME (X : Cx) (W : WX) (e : Expr) (m : EM) : Prop := PE X e (tE X.K X.w W m)
abbrev MT (X : Cx) (W : WX) (e : Expr) (m : TM) : Prop := PT X e (tT X.K X.w W m)
abbrev MW (X : Cx) (W : WX) (e : Expr) (m : TM) : Prop := PW X e (tT X.K X.w W m)
abbrev MA (X : Cx) (W : WX) (es : List Expr) (m : AM) : Prop := PA X es (tA X.K X.w W m)
theorem PE.imp {X : Cx} {e : Expr} {t t' : TE} (h : PE X e t) (g : ∀ σ H Q, t' σ H Q → t σ H Q) : PE X e t' := ⟨fun pins s σ H Q I q => h.run pins s σ H Q I (g σ H Q q)⟩
theorem PT.imp {X : Cx} {e : Expr} {t t' : TT} (h : PT X e t) (g : ∀ σ H Q, t' σ H Q → t σ H Q) : PT X e t' := ⟨fun pins s σ H Q I q => h.run pins s σ H Q I (g σ H Q q)⟩
theorem PW.imp {X : Cx} {e : Expr} {t t' : TT} (h : PW X e t) (g : ∀ σ H Q, t' σ H Q → t σ H Q) : PW X e t' := ⟨fun wh pins s σ H Q I q => h.run wh pins s σ H Q I (g σ H Q q)⟩
theorem PA.imp {X : Cx} {e : List Expr} {t t' : TA} (h : PA X e t) (g : ∀ σ H Q, t' σ H Q → t σ H Q) : PA X e t' := ⟨fun pos pins s σ H Q I q => h.run pos pins s σ H Q I (g σ H Q q)⟩
theorem PS.imp {X : Cx} {e : Stmt} {t t' : TS} (h : PS X e t) (g : ∀ D σ H, t' D σ H → t D σ H) : PS X e t' := ⟨fun pins s σ H D I q => h.run pins s σ H D I (g D σ H q)⟩
theorem PSs.imp {X : Cx} {e : List Stmt} {t t' : TS} (h : PSs X e t) (g : ∀ D σ H, t' D σ H → t D σ H) : PSs X e t' := ⟨fun pins s σ H D I q => h.run pins s σ H D I (g D σ H q)⟩

/-! ### statements -/
/-- the def's entry -/
structure Bs where
  F : Hp
  H : Hp
  μ : List Addr
structure StOk (K : PySem.W.Frag) (w : World) (B : Bs) (F : Hp) (μ : List Addr) (ρ : Fr) (S : Sto) (σ : L2.St) (H : Hp) : Prop where
  rel : Rel K w F μ S H
  fr : RelFr K w F μ H ρ σ
  gr : Grow B.F B.H F H B.μ μ
  ow : ∀ (i : Nat) (c : Cell) (a : Addr), ρ[i]? = some (some (.own c)) → σ[i]? = some (some (.ref a)) → B.H a = none
def flowAt (K : PySem.W.Frag) (w : World) (W : WX) (res : Option (Flo × Fr × Sto)) (B : Bs) (F : Hp) (D : Ends) : Prop :=
  ∃ fl ρ' S', res = some (fl, ρ', S') ∧ ∀ F' μ' σ' H', Same F F' → StOk K w B F' μ' ρ' S' σ' H' → match fl with
    | .nx => D.nx σ' H'
    | .rt r => ∀ v, RepR K w F' μ' σ' r v → D.rt v H'
    | .bk => D.bk σ' H'
    | .ct => D.ct σ' H'
    | .ex c fs => ∀ d, ExD K w F' d fs → W (.ref (He.ga K c)) d σ' H'
def tS (K : PySem.W.Frag) (w : World) (W : WX) (m : SM) : TS := fun D σ H => ∃ B F μ ρ S, StOk K w B F μ ρ S σ H ∧ flowAt K w W (m ρ S) B F D
abbrev MS (X : Cx) (W : WX) (st : Stmt) (m : SM) : Prop := PS X st (tS X.K X.w W m)
abbrev MSs (X : Cx) (W : WX) (st : List Stmt) (m : SM) : Prop := PSs X st (tS X.K X.w W m)
section
variable {K : PySem.W.Frag} {w : World} {W : WX} {F F' H H' : Hp} {μ μ' : List Addr} {S S' : Sto} {ρ : Fr} {σ : L2.St} {D D' : Ends} {B : Bs}
theorem StOk.grow (x : StOk K w B F μ ρ S σ H) (g : Grow F H F' H' μ μ') (r : Rel K w F' μ' S' H') : StOk K w B F' μ' ρ S' σ H' := ⟨r, x.fr.grow g, x.gr.trans g, x.ow⟩
theorem flowAt.mono {res : Option (Flo × Fr × Sto)} (e : Same F F') (h : flowAt K w W res B F D) : flowAt K w W res B F' D := by
  obtain ⟨fl, ρ', S', h1, h2⟩ := h
  exact ⟨fl, ρ', S', h1, fun F2 μ2 σ2 H2 a => h2 F2 μ2 σ2 H2 (e.trans a)⟩
theorem flowAt.none_ {P : Prop} (h : flowAt K w W none B F D) : P := by
  obtain ⟨fl, ρ', S', h1, h2⟩ := h
  cases h1
/-- an expression, then what follows with its value -/
def thenM {α : Type} (m : GM α) (f : α → SM) : SM := fun ρ S => match m ρ S with
  | none => none
  | some (.ex c fs, S') => some (.ex c fs, ρ, S')
  | some (.ok a, S') => f a ρ S'
theorem flow_then {α β : Type} {Ra : L2.St → Hp → List Addr → α → β → Prop} {m : GM α} {f : α → SM} (h : tS K w W (thenM m f) D σ H) :
    core K w Ra W m σ H (fun x H1 => ∃ a B F μ ρ S, StOk K w B F μ ρ S σ H1 ∧ Ra σ F μ a x ∧ flowAt K w W (f a ρ S) B F D) := by
  obtain ⟨B, F, μ, ρ, S, h1, fl, ρ', S', h3, h4⟩ := h
  refine ⟨F, μ, ρ, S, h1.rel, h1.fr, ?_⟩
  unfold thenM at h3
  cases q : m ρ S with
  | none => rw [q] at h3; cases h3
  | some r =>
    obtain ⟨o1, S1⟩ := r
    rw [q] at h3
    cases o1 with
    | ok a => exact ⟨.ok a, S1, rfl, fun F' μ' H' v g r z => ⟨a, B, F', μ', ρ, S1, h1.grow g r, z, flowAt.mono g.f ⟨fl, ρ', S', h3, h4⟩⟩⟩
    | ex c fs =>
      cases h3
      exact ⟨.ex c fs, _, rfl, fun F' μ' H' d g r z => h4 F' μ' σ H' g.f (h1.grow g r) d z⟩
theorem flowAt.nx (h : flowAt K w W (some (.nx, ρ, S)) B F D) (x : StOk K w B F μ ρ S σ H) : D.nx σ H := by
  obtain ⟨fl, ρ', S', h1, h2⟩ := h
  cases h1
  exact h2 F μ σ H (Same.refl _) x
end
end MM
namespace MM
open PySem PySem.Spec PyProof.Rows L2

/-! ### looking at a value -/
def cellD : Cell → Option D
  | .lst ds => some (.lst ds)
  | .dic kvs => some (.dic kvs)
  | .dit kvs => some (.dit kvs)
  | .frz x => some x
  | .ins _ _ => none
  | .tab _ => none
def peek (ρ : Fr) (S : Sto) : R → Option D
  | .d x => some x
  | .loc n => match S[n]? with
    | some c => cellD c
    | none => none
  | .slot i => match ρ[i]? with
    | some (some (.own c)) => cellD c
    | _ => none
def peeks (ρ : Fr) (S : Sto) : List R → Option (List D)
  | [] => some []
  | r :: rs => match peek ρ S r, peeks ρ S rs with
    | some d, some ds => some (d :: ds)
    | _, _ => none
/-- the value v shows the data d now -/
def PRep (K : PySem.W.Frag) (w : World) (F : Hp) (H : Hp) (d : D) (v : V) : Prop :=
  Rep K w F d v ∨ ∃ c a μ, cellD c = some d ∧ v = .ref a ∧ CellOk K w F μ H a c
inductive PReps (K : PySem.W.Frag) (w : World) (F : Hp) (H : Hp) : List D → List V → Prop
  | nil : PReps K w F H [] []
  | cons {d : D} {ds : List D} {v : V} {vs : List V} : PRep K w F H d v → PReps K w F H ds vs → PReps K w F H (d :: ds) (v :: vs)
section
variable {K : PySem.W.Frag} {w : World} {F F' H H' : Hp} {μ μ' : List Addr} {S S' : Sto} {ρ : Fr} {σ : L2.St}
theorem peek_rep (rel : Rel K w F μ S H) (fr : RelFr K w F μ H ρ σ) {r : R} {v : V} {d : D} (h : RepR K w F μ σ r v) (e : peek ρ S r = some d) : PRep K w F H d v := by
  cases r with
  | d x => cases e; exact .inl h
  | loc n =>
    obtain ⟨a, h1, rfl⟩ := h
    unfold peek at e
    cases q : S[n]? with
    | none => simp [q] at e
    | some c =>
      simp only [q] at e
      exact .inr ⟨c, a, μ, e, rfl, rel.cell n a c h1 q⟩
  | slot i =>
    unfold peek at e
    cases q : ρ[i]? with
    | none => simp [q] at e
    | some o =>
      cases o with
      | none => simp [q] at e
      | some en =>
        cases en with
        | r x => simp [q] at e
        | own c =>
          simp only [q] at e
          obtain ⟨a, h1, h2, h3, h4, h5⟩ := fr.own i c q
          have hv : σ[i]? = some (some v) := h
          rw [h1] at hv
          cases hv
          exact .inr ⟨c, a, μ, e, rfl, h5⟩
theorem peeks_rep (rel : Rel K w F μ S H) (fr : RelFr K w F μ H ρ σ) : ∀ {rs : List R} {vs : List V} {ds : List D}, RepRs K w F μ σ rs vs → peeks ρ S rs = some ds → PReps K w F H ds vs
  | [], _, _, .nil, e => by cases e; exact .nil
  | r :: rs, _, _, .cons h q, e => by
    unfold peeks at e
    cases q1 : peek ρ S r with
    | none => simp [q1] at e
    | some d =>
      cases q2 : peeks ρ S rs with
      | none => simp [q1, q2] at e
      | some ds =>
        simp only [q1, q2, Option.some.injEq] at e
        subst e
        exact .cons (peek_rep rel fr h q1) (peeks_rep rel fr q q2)
/-! views -/
theorem PRep.norm {d : D} {v : V} (h : PRep K w F H d v) : Rep K w F d v ∨ ∃ c a μ, cellD c = some d ∧ (∀ x, c ≠ .frz x) ∧ v = .ref a ∧ CellOk K w F μ H a c := by
  rcases h with h | ⟨c, a, μ, e, rfl, k⟩
  · exact .inl h
  · cases c with
    | frz x => cases e; exact .inl k
    | lst ds => exact .inr ⟨_, a, μ, e, (fun _ z => nomatch z), rfl, k⟩
    | dic ds => exact .inr ⟨_, a, μ, e, (fun _ z => nomatch z), rfl, k⟩
    | dit ds => exact .inr ⟨_, a, μ, e, (fun _ z => nomatch z), rfl, k⟩
    | ins C ds => exact .inr ⟨_, a, μ, e, (fun _ z => nomatch z), rfl, k⟩
    | tab x => exact .inr ⟨_, a, μ, e, (fun _ z => nomatch z), rfl, k⟩
theorem PRep.flat {d : D} {v : V} (h : PRep K w F H d v) (n1 : ∀ ds, d ≠ .lst ds) (n2 : ∀ ds, d ≠ .dic ds) (n3 : ∀ ds, d ≠ .dit ds) : Rep K w F d v := by
  rcases h.norm with h | ⟨c, a, μ, e, nf, rfl, k⟩
  · exact h
  · cases c with
    | frz x => exact absurd rfl (nf x)
    | lst ds => cases e; exact absurd rfl (n1 _)
    | dic ds => cases e; exact absurd rfl (n2 _)
    | dit ds => cases e; exact absurd rfl (n3 _)
    | ins C ds => cases e
    | tab x => cases e
theorem PRep.int {i : Int} {v : V} (h : PRep K w F H (.int i) v) : v = .int i := by
  cases h.flat (fun _ z => nomatch z) (fun _ z => nomatch z) (fun _ z => nomatch z); rfl
theorem PRep.bl {i : Bool} {v : V} (h : PRep K w F H (.bl i) v) : v = .bl i := by
  cases h.flat (fun _ z => nomatch z) (fun _ z => nomatch z) (fun _ z => nomatch z); rfl
theorem PRep.non {v : V} (h : PRep K w F H .non v) : v = .non := by
  cases h.flat (fun _ z => nomatch z) (fun _ z => nomatch z) (fun _ z => nomatch z); rfl
theorem PRep.str {i : Str} {v : V} (h : PRep K w F H (.str i) v) : v = .str i := by
  cases h.flat (fun _ z => nomatch z) (fun _ z => nomatch z) (fun _ z => nomatch z); rfl
theorem PRep.ty {i : String} {v : V} (h : PRep K w F H (.ty i) v) : v = .ty i := by
  cases h.flat (fun _ z => nomatch z) (fun _ z => nomatch z) (fun _ z => nomatch z); rfl
theorem PRep.gl {i : Str} {v : V} (h : PRep K w F H (.gl i) v) : v = .ref (He.ga K i) := by
  cases h.flat (fun _ z => nomatch z) (fun _ z => nomatch z) (fun _ z => nomatch z); rfl
theorem PRep.tup (le : Same F H) {ds : List D} {v : V} (h : PRep K w F H (.tup ds) v) : ∃ a xs, v = .ref a ∧ SqT K H a xs ∧ RepAll K w F ds xs := by
  cases h.flat (fun _ z => nomatch z) (fun _ z => nomatch z) (fun _ z => nomatch z) with
  | tup hh r => exact ⟨_, _, rfl, Same.seqT le hh, r⟩
theorem PRep.scr (le : Same F H) {ns : List Int} {v : V} (h : PRep K w F H (.scr ns) v) : ∃ a, v = .ref a ∧ SqL K H a (ns.map V.int) := by
  cases h.flat (fun _ z => nomatch z) (fun _ z => nomatch z) (fun _ z => nomatch z) with
  | scr hh => exact ⟨_, rfl, le.seq hh⟩
theorem PRep.obj (le : Same F H) {C : Str} {fs : List (Str × D)} {v : V} (h : PRep K w F H (.obj C fs) v) : ∃ a dx vs, v = .ref a ∧ H a = some (.ins (He.ga K C) dx vs) ∧ RepFs K w F fs vs := by
  cases h.flat (fun _ z => nomatch z) (fun _ z => nomatch z) (fun _ z => nomatch z) with
  | obj hh r => exact ⟨_, _, _, rfl, le _ _ hh, r⟩
theorem PRep.lst (le : Same F H) {ds : List D} {v : V} (h : PRep K w F H (.lst ds) v) : ∃ a xs, v = .ref a ∧ H a = some (.lst xs) ∧ RepAll K w F ds xs := by
  rcases h.norm with h | ⟨c, a, μ, e, nf, rfl, k⟩
  · cases h with
    | lst hh r => exact ⟨_, _, rfl, le _ _ hh, r⟩
  · cases c with
    | frz x => exact absurd rfl (nf x)
    | lst es => cases e; obtain ⟨_, xs, h1, h2⟩ := k; exact ⟨a, xs, rfl, h1, h2⟩
    | _ => cases e
theorem PRep.dic (le : Same F H) {kvs : List (D × D)} {v : V} (h : PRep K w F H (.dic kvs) v) : ∃ a ks, v = .ref a ∧ H a = some (.dK ks) ∧ RepKs K w F kvs ks := by
  rcases h.norm with h | ⟨c, a, μ, e, nf, rfl, k⟩
  · cases h with
    | dic hh r => exact ⟨_, _, rfl, le _ _ hh, r⟩
  · cases c with
    | frz x => exact absurd rfl (nf x)
    | dic es => cases e; obtain ⟨_, xs, h1, h2⟩ := k; exact ⟨a, xs, rfl, h1, h2⟩
    | _ => cases e
theorem PRep.dit (le : Same F H) {kvs : List (D × D)} {v : V} (h : PRep K w F H (.dit kvs) v) :
    ∃ a o es, v = .ref a ∧ H a = some (dxt a o es) ∧ RepEs K w F kvs es ∧ (kvs.map fun p => tupKey p.1).Nodup ∧ es.length ≤ sizeLine ∧ a ≠ sysModules := by
  rcases h.norm with h | ⟨c, a, μ, e, nf, rfl, k⟩
  · cases h with
    | dit hh r n z y => exact ⟨_, _, _, rfl, le _ _ hh, r, n, z, y⟩
  · cases c with
    | frz x => exact absurd rfl (nf x)
    | dit es => cases e; obtain ⟨_, o, xs, h1, h2⟩ := k; exact ⟨a, o, xs, rfl, h1, h2⟩
    | _ => cases e
end

/-! ### operations by values -/
def rOp (K : PySem.W.Frag) (w : World) (op : D → D → Option D) : R2 := fun x y H Q => ∃ F d e g, Same F H ∧ PRep K w F H d x ∧ PRep K w F H e y ∧ op d e = some g ∧ ∀ F' H' v, Step F H F' H' → Rep K w F' g v → Q v H'
def rCa (K : PySem.W.Frag) (w : World) (op : List D → Option D) : List V → Hp → VK → Prop := fun xs H Q => ∃ F ds g, Same F H ∧ PReps K w F H ds xs ∧ op ds = some g ∧ ∀ F' H' v, Step F H F' H' → Rep K w F' g v → Q v H'
def rMt (K : PySem.W.Frag) (w : World) (op : D → List D → Option D) : V → List V → Hp → VK → Prop := fun x xs H Q => ∃ F d ds g, Same F H ∧ PRep K w F H d x ∧ PReps K w F H ds xs ∧ op d ds = some g ∧ ∀ F' H' v, Step F H F' H' → Rep K w F' g v → Q v H'
theorem opR_imp {X : Cx} {f : Value → Value → Sem Value} {r r' : R2} (h : OpR X f r) (g : ∀ x y H Q, r' x y H Q → r x y H Q) : OpR X f r' := fun pins s σ H x y v u Q I rx ry q => h pins s σ H x y v u Q I rx ry (g x y H Q q)
theorem ixR_imp {X : Cx} {r r' : R2} (h : IxR X r) (g : ∀ x y H Q, r' x y H Q → r x y H Q) : IxR X r' := fun a b pins s σ H x y v u Q I rx ry q => h a b pins s σ H x y v u Q I rx ry (g x y H Q q)
theorem callR_imp {X : Cx} {f : Value} {r r' : List V → Hp → VK → Prop} (h : CallR X f r) (g : ∀ x H Q, r' x H Q → r x H Q) : CallR X f r' := fun pins s σ H x v Q I rx q => h pins s σ H x v Q I rx (g x H Q q)
theorem mtR_imp {X : Cx} {id : String} {r r' : V → List V → Hp → VK → Prop} (h : MtR X id r) (g : ∀ x xs H Q, r' x xs H Q → r x xs H Q) : MtR X id r' := fun pins s σ H x xs v us Q I rx rs q => h pins s σ H x xs v us Q I rx rs (g x xs H Q q)

def addD : D → D → Option D
  | .int i, .int j => some (.int (i + j))
  | .str x, .str y => if x.length + y.length ≤ sizeLine then some (.str (x ++ y)) else none
  | .tup a, .tup b => if a.length + b.length ≤ sizeLine then some (.tup (a ++ b)) else none
  | .lst a, .lst b => if a.length + b.length ≤ sizeLine then some (.lst (a ++ b)) else none
  | _, _ => none
def subD : D → D → Option D
  | .int i, .int j => some (.int (i - j))
  | _, _ => none
instance (i j : Int) : Decidable (CMul i j) := by unfold CMul; infer_instance
instance (i j : Int) : Decidable (CDiv i j) := by unfold CDiv; infer_instance
instance (i j : Int) : Decidable (CPow i j) := by unfold CPow; infer_instance
def mulD : D → D → Option D
  | .int i, .int j => if CMul i j then some (.int (i * j)) else none
  | _, _ => none
def divD : D → D → Option D
  | .int i, .int j => if CDiv i j then some (.int (i / j)) else none
  | _, _ => none
def modD : D → D → Option D
  | .int i, .int j => if 0 < j then some (.int (i % j)) else none
  | _, _ => none
def powD : D → D → Option D
  | .int i, .int j => if CPow i j then some (.int (i ^ j.toNat)) else none
  | _, _ => none
section
variable {X : Cx}
/-- ints to a flat answer -/
theorem opInt {f : Value → Value → Sem Value} {r : R2} {op : D → D → Option D} (h : OpR X f r)
    (g : ∀ d e z, op d e = some z → ∃ i j v, d = .int i ∧ e = .int j ∧ (∀ F, Rep X.K X.w F z v) ∧ ∀ H Q, Q v H → r (.int i) (.int j) H Q) : OpR X f (rOp X.K X.w op) :=
  opR_imp h fun x y H Q ⟨F, d, e, z, le, h1, h2, h3, k⟩ => by
    obtain ⟨i, j, v, rfl, rfl, h4, h5⟩ := g d e z h3
    rw [h1.int, h2.int]
    exact h5 H Q (k F H v (Step.refl le) (h4 F))
theorem om_sub : OpR X (binaryOp .Sub) (rOp X.K X.w subD) := opInt op_sub fun d e z h => by
  unfold subD at h
  split at h
  · rename_i i j; cases h; exact ⟨i, j, _, rfl, rfl, fun F => .int _, fun H Q q => ⟨_, _, rfl, rfl, q⟩⟩
  · cases h
theorem om_mul : OpR X (binaryOp .Mult) (rOp X.K X.w mulD) := opInt op_mul fun d e z h => by
  unfold mulD at h
  split at h
  · rename_i i j
    by_cases c : CMul i j
    · rw [if_pos c] at h; cases h; exact ⟨i, j, _, rfl, rfl, fun F => .int _, fun H Q q => ⟨_, _, rfl, rfl, c, q⟩⟩
    · rw [if_neg c] at h; cases h
  · cases h
theorem om_div : OpR X (binaryOp .FloorDiv) (rOp X.K X.w divD) := opInt op_fdiv fun d e z h => by
  unfold divD at h
  split at h
  · rename_i i j
    by_cases c : CDiv i j
    · rw [if_pos c] at h; cases h; exact ⟨i, j, _, rfl, rfl, fun F => .int _, fun H Q q => ⟨_, _, rfl, rfl, c, q⟩⟩
    · rw [if_neg c] at h; cases h
  · cases h
theorem om_mod : OpR X (binaryOp .Mod) (rOp X.K X.w modD) := opInt op_mod fun d e z h => by
  unfold modD at h
  split at h
  · rename_i i j
    by_cases c : 0 < j
    · rw [if_pos c] at h; cases h; exact ⟨i, j, _, rfl, rfl, fun F => .int _, fun H Q q => ⟨_, _, rfl, rfl, c, q⟩⟩
    · rw [if_neg c] at h; cases h
  · cases h
theorem om_pow : OpR X (binaryOp .Pow) (rOp X.K X.w powD) := opInt op_pow fun d e z h => by
  unfold powD at h
  split at h
  · rename_i i j
    by_cases c : CPow i j
    · rw [if_pos c] at h; cases h; exact ⟨i, j, _, rfl, rfl, fun F => .int _, fun H Q q => ⟨_, _, rfl, rfl, c, q⟩⟩
    · rw [if_neg c] at h; cases h
  · cases h
theorem om_add : OpR X (binaryOp .Add) (rOp X.K X.w addD) := by
  refine opR_imp (op_add.or (op_add_str.or (op_catA.or op_cat))) fun x y H Q ⟨F, d, e, z, le, h1, h2, h3, k⟩ => ?_
  unfold addD at h3
  split at h3
  · cases h3
    rw [h1.int, h2.int]
    exact .inl ⟨_, _, rfl, rfl, k F H _ (Step.refl le) (.int _)⟩
  · rename_i a b
    by_cases c : a.length + b.length ≤ sizeLine
    · rw [if_pos c] at h3; cases h3
      rw [h1.str, h2.str]
      exact .inr (.inl ⟨_, _, rfl, rfl, c, k F H _ (Step.refl le) (.str _)⟩)
    · rw [if_neg c] at h3; cases h3
  · rename_i a b
    by_cases c : a.length + b.length ≤ sizeLine
    · rw [if_pos c] at h3; cases h3
      obtain ⟨p, xs, rfl, s1, r1⟩ := h1.tup le
      obtain ⟨q, ys, rfl, s2, r2⟩ := h2.tup le
      refine .inr (.inr (.inl ⟨p, q, xs, ys, rfl, rfl, s1, s2, by rw [← r1.length, ← r2.length]; exact c, fun e => ?_, fun _ e => ?_, fun _ _ b hb => ?_⟩))
      · subst e
        cases r1
        exact k F H _ (Step.refl le) (by rw [List.nil_append]; exact h2.flat (fun _ z => nomatch z) (fun _ z => nomatch z) (fun _ z => nomatch z))
      · subst e
        cases r2
        exact k F H _ (Step.refl le) (by rw [List.append_nil]; exact h1.flat (fun _ z => nomatch z) (fun _ z => nomatch z) (fun _ z => nomatch z))
      · have st := Step.new1 le hb (.tup (xs ++ ys))
        exact k _ _ _ st (.tup (.inl (.inl upd_same)) ((r1.append r2).mono st.f))
    · rw [if_neg c] at h3; cases h3
  · rename_i a b
    by_cases c : a.length + b.length ≤ sizeLine
    · rw [if_pos c] at h3; cases h3
      obtain ⟨p, xs, rfl, s1, r1⟩ := h1.lst le
      obtain ⟨q, ys, rfl, s2, r2⟩ := h2.lst le
      refine .inr (.inr (.inr ⟨p, q, xs, ys, rfl, rfl, s1, s2, by rw [← r1.length, ← r2.length]; exact c, fun b hb => ?_⟩))
      have st := Step.new1 le hb (.lst (xs ++ ys))
      exact k _ _ _ st (.lst upd_same ((r1.append r2).mono st.f))
    · rw [if_neg c] at h3; cases h3
  · cases h3
end
end MM
namespace MM
open PySem PySem.Spec PyProof.Rows L2

mutual
def toPy : D → Option PyData
  | .non => some .none
  | .bl b => some (.bool b)
  | .int i => some (.int i)
  | .str x => some (.str x)
  | .tup ds => (toPys ds).map .tuple
  | .lst ds => (toPys ds).map .list
  | _ => none
def toPys : List D → Option (List PyData)
  | [] => some []
  | d :: ds => match toPy d, toPys ds with
    | some k, some ks => some (k :: ks)
    | _, _ => none
end
section
variable {K : PySem.W.Frag} {w : World} {F F' H H' : Hp}
mutual
theorem Rep.dp : ∀ {d : D} {v : V} {p : PyData}, Rep K w F d v → toPy d = some p → Dp K F v p
  | _, _, _, .non, e => by cases e; exact .non
  | _, _, _, .bl b, e => by cases e; exact .bl b
  | _, _, _, .int b, e => by cases e; exact .int b
  | _, _, _, .str b, e => by cases e; exact .str b
  | _, _, _, .tup (ds := ds) h r, e => by
    unfold toPy at e
    cases q : toPys ds with
    | none => rw [q] at e; cases e
    | some ps => rw [q] at e; cases e; exact .tup h (RepAll.dp r q)
  | _, _, _, .lst (ds := ds) h r, e => by
    unfold toPy at e
    cases q : toPys ds with
    | none => rw [q] at e; cases e
    | some ps => rw [q] at e; cases e; exact .lst (SqL.of h) (RepAll.dp r q)
  | _, _, _, .dic _ _, e => by cases e
  | _, _, _, .dit _ _ _ _ _, e => by cases e
  | _, _, _, .obj _ _, e => by cases e
  | _, _, _, .gl _, e => by cases e
  | _, _, _, .scr _, e => by cases e
  | _, _, _, .ty _, e => by cases e
theorem RepAll.dp : ∀ {d : List D} {v : List V} {p : List PyData}, RepAll K w F d v → toPys d = some p → DpAll K F v p
  | _, _, _, .nil, e => by cases e; exact .nil
  | _, _, _, .cons (d := d) (ds := ds) h r, e => by
    unfold toPys at e
    cases q1 : toPy d with
    | none => simp [q1] at e
    | some a =>
      cases q2 : toPys ds with
      | none => simp [q1, q2] at e
      | some as =>
        simp only [q1, q2, Option.some.injEq] at e
        subst e
        exact .cons (Rep.dp h q1) (RepAll.dp r q2)
end
mutual
theorem dp_mono (e : Same F H) : ∀ {v : V} {p : PyData}, Dp K F v p → Dp K H v p
  | _, _, .non => .non
  | _, _, .bl b => .bl b
  | _, _, .int i => .int i
  | _, _, .str x => .str x
  | _, _, .lst h r => .lst (e.seq h) (dpAll_mono e r)
  | _, _, .tup h r => .tup (Same.seqT e h) (dpAll_mono e r)
theorem dpAll_mono (e : Same F H) : ∀ {v : List V} {p : List PyData}, DpAll K F v p → DpAll K H v p
  | _, _, .nil => .nil
  | _, _, .cons h r => .cons (dp_mono e h) (dpAll_mono e r)
end
theorem PRep.dp (le : Same F H) {d : D} {v : V} {p : PyData} (h : PRep K w F H d v) (e : toPy d = some p) : Dp K H v p := by
  rcases h.norm with hh | ⟨c, a, μ, q, nf, rfl, k⟩
  · exact dp_mono le (hh.dp e)
  · cases c with
    | frz x => exact absurd rfl (nf x)
    | lst ds =>
      cases q
      obtain ⟨_, xs, h1, h2⟩ := k
      unfold toPy at e
      cases q : toPys ds with
      | none => rw [q] at e; cases e
      | some ps => rw [q] at e; cases e; exact .lst (SqL.of h1) (dpAll_mono le (h2.dp q))
    | dic ds => cases q; cases e
    | dit ds => cases q; cases e
    | ins C ds => cases q
    | tab x => cases q
end

def eqB (d e : D) : Option Bool := match toPy d, toPy e with
  | some a, some b => if SeqAt.shaped a = true ∧ SeqAt.shaped b = true then some (PyData.eqv a b) else none
  | _, _ => none
def eqD (d e : D) : Option D := (eqB d e).map .bl
def neD (d e : D) : Option D := (eqB d e).map fun b => .bl (!b)
theorem eqB_some {d e : D} {b : Bool} (h : eqB d e = some b) : ∃ p q, toPy d = some p ∧ toPy e = some q ∧ SeqAt.shaped p = true ∧ SeqAt.shaped q = true ∧ b = PyData.eqv p q := by
  unfold eqB at h
  cases q1 : toPy d with
  | none => simp [q1] at h
  | some p =>
    cases q2 : toPy e with
    | none => simp [q1, q2] at h
    | some q =>
      simp only [q1, q2] at h
      by_cases c : SeqAt.shaped p = true ∧ SeqAt.shaped q = true
      · rw [if_pos c] at h; cases h; exact ⟨p, q, rfl, rfl, c.1, c.2, rfl⟩
      · rw [if_neg c] at h; cases h
def ltD : D → D → Option D
  | .int i, .int j => some (.bl (decide (i < j)))
  | _, _ => none
def leD : D → D → Option D
  | .int i, .int j => some (.bl (decide (i ≤ j)))
  | _, _ => none
def gtD : D → D → Option D
  | .int i, .int j => some (.bl (decide (j < i)))
  | _, _ => none
def geD : D → D → Option D
  | .int i, .int j => some (.bl (decide (j ≤ i)))
  | _, _ => none
/-- is None, is not None -/
def isN (d : D) : Bool := match d with
  | .non => true
  | _ => false
def isD (d e : D) : Option D := match e with
  | .non => some (.bl (isN d))
  | _ => none
def isnD (d e : D) : Option D := match e with
  | .non => some (.bl (!isN d))
  | _ => none
/-- == of flat data -/
def eqF : D → D → Bool
  | .non, .non => true
  | .bl a, .bl b => a == b
  | .bl a, .int b => (if a then 1 else 0) == b
  | .int a, .bl b => a == (if b then 1 else 0)
  | .int a, .int b => a == b
  | .str a, .str b => a == b
  | _, _ => false
def flatD : D → Bool
  | .non => true
  | .bl _ => true
  | .int _ => true
  | .str _ => true
  | _ => false
/-- x in y: a list of data of any depth; a tuple of flat data; one sign in a text -/
def inB (d : D) : D → Option Bool
  | .lst ds => match toPy d, toPys ds with
    | some p, some ps => if SeqAt.shaped p = true ∧ SeqAt.shaped (.list ps) = true then some (ps.any fun z => PyData.eqv z p) else none
    | _, _ => none
  | .tup ds => if flatD d = true ∧ ds.all flatD = true then some (ds.any fun z => eqF z d) else none
  | .str z => match d with
    | .str c => match c.cps.toList with
      | [n] => some (decide (n ∈ z.cps.toList))
      | _ => none
    | _ => none
  | _ => none
def inD (d e : D) : Option D := (inB d e).map .bl
def ninD (d e : D) : Option D := (inB d e).map fun b => .bl (!b)
section
variable {K : PySem.W.Frag} {w : World} {F F' H H' : Hp}
theorem flat_v {d : D} {v : V} (h : Rep K w F d v) (f : flatD d = true) : flatV v = true := by
  cases h <;> first | rfl | cases f
theorem flat_vs : ∀ {ds : List D} {vs : List V}, RepAll K w F ds vs → ds.all flatD = true → vs.all flatV = true
  | _, _, .nil, _ => rfl
  | _, _, .cons h r, f => by
    rw [List.all_cons, Bool.and_eq_true] at f
    rw [List.all_cons, flat_v h f.1, flat_vs r f.2]; rfl
theorem eq_flat {d e : D} {x y : V} (h : Rep K w F d x) (g : Rep K w F e y) (f1 : flatD d = true) (f2 : flatD e = true) : eqV x y = eqF d e := by
  cases h <;> first | (cases f1; done) | (cases g <;> first | rfl | (cases f2; done))
theorem in_flat {d : D} {x : V} (h : Rep K w F d x) (f1 : flatD d = true) : ∀ {ds : List D} {vs : List V}, RepAll K w F ds vs → ds.all flatD = true → inV x vs = ds.any fun z => eqF z d
  | _, _, .nil, _ => rfl
  | _, _, .cons g r, f => by
    rw [List.all_cons, Bool.and_eq_true] at f
    unfold inV
    rw [List.any_cons, List.any_cons, eq_flat g h f.1 f1]
    have := in_flat h f1 r f.2
    unfold inV at this
    rw [this]
theorem PRep.of_flat {d : D} {v : V} (h : PRep K w F H d v) (f : flatD d = true) : Rep K w F d v :=
  h.flat (fun _ z => by subst z; cases f) (fun _ z => by subst z; cases f) (fun _ z => by subst z; cases f)
theorem isN_v {d : D} {v : V} (h : PRep K w F H d v) : decide (v = .non) = isN d := by
  rcases h.norm with hh | ⟨c, a, μ, q, nf, rfl, k⟩
  · cases hh <;> rfl
  · cases c with
    | frz x => exact absurd rfl (nf x)
    | ins C ds => cases q
    | tab x => cases q
    | _ => cases q; rfl
end
section
variable {X : Cx}
theorem om_lt : OpR X (compareOp .Lt) (rOp X.K X.w ltD) := opInt op_lt fun d e z h => by
  unfold ltD at h
  split at h
  · cases h; exact ⟨_, _, _, rfl, rfl, fun F => .bl _, fun H Q q => ⟨_, _, rfl, rfl, q⟩⟩
  · cases h
theorem om_le : OpR X (compareOp .LtE) (rOp X.K X.w leD) := opInt op_le fun d e z h => by
  unfold leD at h
  split at h
  · cases h; exact ⟨_, _, _, rfl, rfl, fun F => .bl _, fun H Q q => ⟨_, _, rfl, rfl, q⟩⟩
  · cases h
theorem om_gt : OpR X (compareOp .Gt) (rOp X.K X.w gtD) := opInt op_gt fun d e z h => by
  unfold gtD at h
  split at h
  · cases h; exact ⟨_, _, _, rfl, rfl, fun F => .bl _, fun H Q q => ⟨_, _, rfl, rfl, q⟩⟩
  · cases h
theorem om_ge : OpR X (compareOp .GtE) (rOp X.K X.w geD) := opInt op_ge fun d e z h => by
  unfold geD at h
  split at h
  · cases h; exact ⟨_, _, _, rfl, rfl, fun F => .bl _, fun H Q q => ⟨_, _, rfl, rfl, q⟩⟩
  · cases h
theorem om_eq (hu : X.A.units + 64 < cLine) : OpR X (compareOp .Eq) (rOp X.K X.w eqD) := opR_imp (op_eqD hu) fun x y H Q ⟨F, d, e, z, le, h1, h2, h3, k⟩ => by
  unfold eqD at h3
  obtain ⟨b, hb, rfl⟩ := Option.map_eq_some_iff.mp h3
  obtain ⟨p, q, e1, e2, s1, s2, rfl⟩ := eqB_some hb
  exact ⟨p, q, h1.dp le e1, h2.dp le e2, s1, s2, k F H _ (Step.refl le) (.bl _)⟩
theorem om_ne (hu : X.A.units + 64 < cLine) : OpR X (compareOp .NotEq) (rOp X.K X.w neD) := opR_imp (op_neD hu) fun x y H Q ⟨F, d, e, z, le, h1, h2, h3, k⟩ => by
  unfold neD at h3
  obtain ⟨b, hb, rfl⟩ := Option.map_eq_some_iff.mp h3
  obtain ⟨p, q, e1, e2, s1, s2, rfl⟩ := eqB_some hb
  exact ⟨p, q, h1.dp le e1, h2.dp le e2, s1, s2, k F H _ (Step.refl le) (.bl _)⟩
theorem om_is : OpR X (compareOp .Is) (rOp X.K X.w isD) := opR_imp op_isN fun x y H Q ⟨F, d, e, z, le, h1, h2, h3, k⟩ => by
  unfold isD at h3
  split at h3
  · cases h3
    refine ⟨h2.non, ?_⟩
    rw [isN_v h1]
    exact k F H _ (Step.refl le) (.bl _)
  · cases h3
theorem inB_ok {K : PySem.W.Frag} {w : World} {F H : Hp} {x y : V} {d e : D} {b : Bool} (le : Same F H) (h1 : PRep K w F H d x) (h2 : PRep K w F H e y) (h : inB d e = some b) :
    (∃ d ds, Dp K H x d ∧ Dp K H y (.list ds) ∧ SeqAt.shaped d = true ∧ SeqAt.shaped (.list ds) = true ∧ b = ds.any fun z => PyData.eqv z d) ∨
    (∃ p xs, y = .ref p ∧ SqT K H p xs ∧ flatV x = true ∧ xs.all flatV = true ∧ b = inV x xs) ∨ ∃ (c : Nat) (z : Str), x = .str ⟨#[c]⟩ ∧ y = .str z ∧ b = decide (c ∈ z.cps.toList) := by
  unfold inB at h
  split at h
  · rename_i ds
    cases q1 : toPy d with
    | none => simp [q1] at h
    | some p =>
      cases q2 : toPys ds with
      | none => simp [q1, q2] at h
      | some ps =>
        simp only [q1, q2] at h
        by_cases c : SeqAt.shaped p = true ∧ SeqAt.shaped (.list ps) = true
        · rw [if_pos c] at h; cases h
          exact .inl ⟨p, ps, h1.dp le q1, h2.dp le (by unfold toPy; rw [q2]; rfl), c.1, c.2, rfl⟩
        · rw [if_neg c] at h; cases h
  · rename_i ds
    by_cases c : flatD d = true ∧ ds.all flatD = true
    · rw [if_pos c] at h; cases h
      obtain ⟨a, xs, rfl, s, r⟩ := h2.tup le
      have hx := h1.of_flat c.1
      exact .inr (.inl ⟨a, xs, rfl, s, flat_v hx c.1, flat_vs r c.2, (in_flat hx c.1 r c.2).symm⟩)
    · rw [if_neg c] at h; cases h
  · rename_i z
    split at h
    · rename_i c
      split at h
      · rename_i n q
        cases h
        refine .inr (.inr ⟨n, z, ?_, h2.str, rfl⟩)
        rw [h1.str]
        obtain ⟨cps⟩ := c
        have : cps = #[n] := Array.toList_inj.mp q
        rw [this]
      · cases h
    · cases h
  · cases h
theorem om_in (hu : X.A.units + 65 < cLine) : OpR X (compareOp .In) (rOp X.K X.w inD) := opR_imp ((op_inD hu).or (op_in_seq.or op_in_sign)) fun x y H Q ⟨F, d, e, z, le, h1, h2, h3, k⟩ => by
  unfold inD at h3
  obtain ⟨b, hb, rfl⟩ := Option.map_eq_some_iff.mp h3
  have q := k F H _ (Step.refl le) (.bl b)
  rcases inB_ok le h1 h2 hb with ⟨p, ps, a1, a2, a3, a4, rfl⟩ | ⟨p, xs, rfl, a1, a2, a3, rfl⟩ | ⟨c, z, rfl, rfl, rfl⟩
  · exact .inl ⟨p, ps, a1, a2, a3, a4, q⟩
  · exact .inr (.inl ⟨p, xs, rfl, .inr a1, a2, a3, q⟩)
  · exact .inr (.inr ⟨c, z, rfl, rfl, q⟩)
theorem om_nin (hu : X.A.units + 65 < cLine) : OpR X (compareOp .NotIn) (rOp X.K X.w ninD) := opR_imp ((op_notInD hu).or (op_notIn_seq.or op_notIn_sign)) fun x y H Q ⟨F, d, e, z, le, h1, h2, h3, k⟩ => by
  unfold ninD at h3
  obtain ⟨b, hb, rfl⟩ := Option.map_eq_some_iff.mp h3
  have q := k F H _ (Step.refl le) (.bl (!b))
  rcases inB_ok le h1 h2 hb with ⟨p, ps, a1, a2, a3, a4, rfl⟩ | ⟨p, xs, rfl, a1, a2, a3, rfl⟩ | ⟨c, z, rfl, rfl, rfl⟩
  · exact .inl ⟨p, ps, a1, a2, a3, a4, q⟩
  · exact .inr (.inl ⟨p, xs, rfl, .inr a1, a2, a3, q⟩)
  · exact .inr (.inr ⟨c, z, rfl, rfl, q⟩)

/-! ### items, slices -/
def ixD : D → D → Option D
  | .lst ds, .int i => atI ds i
  | .tup ds, .int i => atI ds i
  | .str z, .int i => if z.length ≤ sizeLine then (atI z.cps.toList i).map fun c => .str ⟨#[c]⟩ else none
  | _, _ => none
theorem atI_rep {K : PySem.W.Frag} {w : World} {F : Hp} {ds : List D} {xs : List V} {i : Int} {d : D} (r : RepAll K w F ds xs) (h : atI ds i = some d) : ∃ v, atI xs i = some v ∧ Rep K w F d v := by
  unfold atI at h ⊢
  rw [← r.length]
  cases q : ixN ds.length i with
  | none => rw [q] at h; cases h
  | some j =>
    rw [q] at h
    exact r.get h
theorem om_ix : IxR X (rOp X.K X.w ixD) := ixR_imp ix_seq fun x y H Q ⟨F, d, e, z, le, h1, h2, h3, k⟩ => by
  unfold ixD at h3
  split at h3
  · obtain ⟨a, xs, rfl, s, r⟩ := h1.lst le
    obtain ⟨v, q1, q2⟩ := atI_rep r h3
    exact .inl ⟨a, xs, _, v, rfl, h2.int, SqL.of s, q1, k F H v (Step.refl le) q2⟩
  · obtain ⟨a, xs, rfl, s, r⟩ := h1.tup le
    obtain ⟨v, q1, q2⟩ := atI_rep r h3
    exact .inr (.inl ⟨a, xs, _, v, rfl, h2.int, s, q1, k F H v (Step.refl le) q2⟩)
  · rename_i z i
    by_cases c : z.length ≤ sizeLine
    · rw [if_pos c] at h3
      obtain ⟨n, q, rfl⟩ := Option.map_eq_some_iff.mp h3
      exact .inr (.inr ⟨z, i, n, h1.str, h2.int, c, q, k F H _ (Step.refl le) (.str _)⟩)
    · rw [if_neg c] at h3; cases h3
  · cases h3
def cutD (ds : List D) (lo hi : Option Int) : List D := (ds.drop (HT.sIx ds.length 0 lo)).take (HT.sIx ds.length ds.length hi - HT.sIx ds.length 0 lo)
theorem cut_rep {K : PySem.W.Frag} {w : World} {F : Hp} {ds : List D} {xs : List V} {lo hi : Option Int} (r : RepAll K w F ds xs) : RepAll K w F (cutD ds lo hi) (cutV xs lo hi) := by
  unfold cutD cutV
  rw [r.length]
  exact (r.drop _).take _
def slD (d : D) (lo hi : Option Int) : Option D := match d with
  | .lst ds => some (.lst (cutD ds lo hi))
  | .tup ds => some (.tup (cutD ds lo hi))
  | .str z => if z.length ≤ sizeLine then some (.str (cutS z lo hi)) else none
  | _ => none
def rSl (K : PySem.W.Frag) (w : World) : V → Option Int → Option Int → Hp → VK → Prop := fun x lo hi H Q => ∃ F d g, Same F H ∧ PRep K w F H d x ∧ slD d lo hi = some g ∧ ∀ F' H' v, Step F H F' H' → Rep K w F' g v → Q v H'
theorem slR_imp {r r' : V → Option Int → Option Int → Hp → VK → Prop} (h : SlR X r) (g : ∀ x lo hi H Q, r' x lo hi H Q → r x lo hi H Q) : SlR X r' := fun pins s σ H x v vl vu lo hi sl Q I rx hs pl pu q => h pins s σ H x v vl vu lo hi sl Q I rx hs pl pu (g _ _ _ _ _ q)
theorem cut_whole {α : Type} {ds : List α} {a b : Nat} (h1 : a = 0) (h2 : b = ds.length) : (ds.drop a).take (b - a) = ds := by
  subst h1 h2
  simp
theorem om_sl : SlR X (rSl X.K X.w) := slR_imp (sl_list.or (sl_tupA.or sl_str)) fun x lo hi H Q ⟨F, d, z, le, h1, h3, k⟩ => by
  unfold slD at h3
  split at h3
  · cases h3
    obtain ⟨a, xs, rfl, s, r⟩ := h1.lst le
    refine .inl ⟨a, xs, rfl, SqL.of s, fun p hp => ?_⟩
    have st := Step.new1 le hp (.lst (cutV xs lo hi))
    exact k _ _ _ st (.lst upd_same ((cut_rep r).mono st.f))
  · rename_i ds
    cases h3
    obtain ⟨a, xs, rfl, s, r⟩ := h1.tup le
    refine .inr (.inl ⟨a, xs, rfl, s, fun e => ?_, fun _ p hp => ?_⟩)
    · refine k F H _ (Step.refl le) ?_
      have : cutD ds lo hi = ds := by unfold cutD; rw [r.length]; exact cut_whole e.1 (by rw [r.length]; exact e.2)
      rw [this]
      exact h1.flat (fun _ z => nomatch z) (fun _ z => nomatch z) (fun _ z => nomatch z)
    · have st := Step.new1 le hp (.tup (cutV xs lo hi))
      exact k _ _ _ st (.tup (.inl (.inl upd_same)) ((cut_rep r).mono st.f))
  · rename_i z
    by_cases c : z.length ≤ sizeLine
    · rw [if_pos c] at h3; cases h3
      exact .inr (.inr ⟨z, h1.str, c, k F H _ (Step.refl le) (.str _)⟩)
    · rw [if_neg c] at h3; cases h3
  · cases h3
end
end MM
namespace MM
open PySem PySem.Spec PyProof.Rows L2

def intsOf : List D → Option (List Int)
  | [] => some []
  | .int i :: r => (intsOf r).map (i :: ·)
  | _ => none
def blsOf : List D → Option (List Bool)
  | [] => some []
  | .bl i :: r => (blsOf r).map (i :: ·)
  | _ => none
def strsOf : List D → Option (List Str)
  | [] => some []
  | .str i :: r => (strsOf r).map (i :: ·)
  | _ => none
theorem intsOf_eq : ∀ {ds : List D} {ns : List Int}, intsOf ds = some ns → ds = ns.map D.int
  | [], ns, h => by cases h; rfl
  | d :: r, ns, h => by
    unfold intsOf at h
    split at h
    · rename_i e; cases e
    · rename_i i r' e
      cases e
      obtain ⟨ms, h1, rfl⟩ := Option.map_eq_some_iff.mp h
      rw [List.map_cons, ← intsOf_eq h1]
    · cases h
theorem blsOf_eq : ∀ {ds : List D} {ns : List Bool}, blsOf ds = some ns → ds = ns.map D.bl
  | [], ns, h => by cases h; rfl
  | d :: r, ns, h => by
    unfold blsOf at h
    split at h
    · rename_i e; cases e
    · rename_i i r' e
      cases e
      obtain ⟨ms, h1, rfl⟩ := Option.map_eq_some_iff.mp h
      rw [List.map_cons, ← blsOf_eq h1]
    · cases h
theorem strsOf_eq : ∀ {ds : List D} {ns : List Str}, strsOf ds = some ns → ds = ns.map D.str
  | [], ns, h => by cases h; rfl
  | d :: r, ns, h => by
    unfold strsOf at h
    split at h
    · rename_i e; cases e
    · rename_i i r' e
      cases e
      obtain ⟨ms, h1, rfl⟩ := Option.map_eq_some_iff.mp h
      rw [List.map_cons, ← strsOf_eq h1]
    · cases h
def maxL : List Int → Option Int
  | [] => none
  | n :: ns => some (ns.foldl max n)
theorem foldl_max_mem : ∀ (ns : List Int) (n : Int), (ns.foldl max n = n ∨ ns.foldl max n ∈ ns) ∧ n ≤ ns.foldl max n ∧ ∀ m ∈ ns, m ≤ ns.foldl max n
  | [], n => ⟨.inl rfl, Int.le_refl _, fun m hm => nomatch hm⟩
  | a :: ns, n => by
    obtain ⟨h1, h2, h3⟩ := foldl_max_mem ns (max n a)
    rw [List.foldl_cons]
    refine ⟨?_, by omega, fun m hm => ?_⟩
    · rcases h1 with h | h
      · rw [h]
        by_cases c : n ≤ a
        · exact .inr (by rw [Int.max_eq_right c]; exact List.mem_cons_self)
        · exact .inl (Int.max_eq_left (by omega))
      · exact .inr (List.mem_cons_of_mem _ h)
    · rcases List.mem_cons.mp hm with rfl | hm
      · omega
      · exact h3 m hm
theorem maxL_ok {ns : List Int} {z m : Int} (h : maxL ns = some z) (hm : m ∈ ns) (hl : ∀ y, y ∈ ns → y ≤ m) : m = z := by
  cases ns with
  | nil => cases h
  | cons n ns =>
    cases h
    obtain ⟨h1, h2, h3⟩ := foldl_max_mem ns n
    have a : ns.foldl max n ≤ m := by
      rcases h1 with h | h
      · rw [h]; exact hl n List.mem_cons_self
      · exact hl _ (List.mem_cons_of_mem _ h)
    have b : m ≤ ns.foldl max n := by
      rcases List.mem_cons.mp hm with rfl | hm
      · exact h2
      · exact h3 m hm
    omega

def lenF : List D → Option D
  | [.lst ds] => some (.int ds.length)
  | [.tup ds] => some (.int ds.length)
  | [.scr ds] => some (.int ds.length)
  | [.str z] => if z.length ≤ sizeLine then some (.int z.length) else none
  | [.dic kvs] => some (.int kvs.length)
  | _ => none
def intF : List D → Option D
  | [.int i] => some (.int i)
  | [.bl b] => some (.int (if b then 1 else 0))
  | [.str z] => if z.length ≤ 640 then (PySem.intText? z).map .int else none
  | _ => none
def strF : List D → Option D
  | [.int i] => if i.natAbs.log2 < 1920 then some (.str (toString i)) else none
  | _ => none
def listF : List D → Option D
  | [.lst ds] => some (.lst ds)
  | [.tup ds] => some (.lst ds)
  | [.scr ns] => some (.lst (ns.map .int))
  | _ => none
def tupleF : List D → Option D
  | [.lst ds] => some (.tup ds)
  | [.tup ds] => some (.tup ds)
  | _ => none
def maxF : List D → Option D
  | [.lst ds] => ((intsOf ds).bind maxL).map .int
  | [.int i, .int j] => some (.int (if j > i then j else i))
  | _ => none
def minF : List D → Option D
  | [.int i, .int j] => some (.int (if j < i then j else i))
  | _ => none
def anyF : List D → Option D
  | [.lst ds] => (blsOf ds).map fun bs => .bl (bs.any id)
  | _ => none
def allF : List D → Option D
  | [.lst ds] => (blsOf ds).map fun bs => .bl (bs.all id)
  | _ => none
def tyN : D → Option String
  | .non => some "NoneType"
  | .bl _ => some "bool"
  | .int _ => some "int"
  | .str _ => some "str"
  | .tup _ => some "tuple"
  | .lst _ => some "list"
  | .dic _ => some "dict"
  | _ => none
def isiF : List D → Option D
  | [x, .ty T] => (tyN x).bind fun t => (kitB t T).map .bl
  | _ => none
section
variable {K : PySem.W.Frag} {w : World} {F F' H H' : Hp}
theorem PReps.one {d : D} {vs : List V} (h : PReps K w F H [d] vs) : ∃ v, vs = [v] ∧ PRep K w F H d v := by
  cases h with
  | cons h r => cases r; exact ⟨_, rfl, h⟩
theorem PReps.two {d e : D} {vs : List V} (h : PReps K w F H [d, e] vs) : ∃ v u, vs = [v, u] ∧ PRep K w F H d v ∧ PRep K w F H e u := by
  cases h with
  | cons h r => cases r with
    | cons g r => cases r; exact ⟨_, _, rfl, h, g⟩
theorem RepKs.length : ∀ {ds : List (D × D)} {vs : List (Key × V)}, RepKs K w F ds vs → ds.length = vs.length
  | _, _, .nil => rfl
  | _, _, .cons _ _ r => congrArg Nat.succ (RepKs.length r)
theorem tyX_of (le : Same F H) {d : D} {v : V} {t : String} (h : PRep K w F H d v) (e : tyN d = some t) : TyX K H v (.type t) := by
  cases d with
  | non => cases e; rw [h.non]; exact .base .non
  | bl b => cases e; rw [h.bl]; exact .base (.bl _)
  | int b => cases e; rw [h.int]; exact .base (.int _)
  | str b => cases e; rw [h.str]; exact .base (.str _)
  | lst ds => cases e; obtain ⟨a, xs, rfl, s, r⟩ := h.lst le; exact .base (.lst s)
  | dic ds => cases e; obtain ⟨a, xs, rfl, s, r⟩ := h.dic le; exact .base (.dK s)
  | tup ds =>
    cases e
    obtain ⟨a, xs, rfl, s, r⟩ := h.tup le
    rcases s with (s | ⟨o, s⟩) | ⟨o, its, n, k1, k2, _⟩
    · exact .base (.tup s)
    · exact .fTuple s
    · exact .kTuple k1 k2
  | _ => cases e
end
section
variable {X : Cx}
theorem cm_len : CallR X (.builtin "len") (rCa X.K X.w lenF) := callR_imp (call_len.or call_lenD) fun xs H Q ⟨F, ds, g, le, h1, h2, k⟩ => by
  unfold lenF at h2
  split at h2
  · cases h2
    obtain ⟨v, rfl, h⟩ := h1.one
    obtain ⟨a, xs, rfl, s, r⟩ := h.lst le
    exact .inl ⟨_, _, rfl, .inl ⟨xs, SqL.of s, r.length⟩, k F H _ (Step.refl le) (.int _)⟩
  · cases h2
    obtain ⟨v, rfl, h⟩ := h1.one
    obtain ⟨a, xs, rfl, s, r⟩ := h.tup le
    exact .inl ⟨_, _, rfl, .inr ⟨xs, s, r.length⟩, k F H _ (Step.refl le) (.int _)⟩
  · cases h2
    obtain ⟨v, rfl, h⟩ := h1.one
    obtain ⟨a, rfl, s⟩ := h.scr le
    exact .inl ⟨_, _, rfl, .inl ⟨_, s, by rw [List.length_map]⟩, k F H _ (Step.refl le) (.int _)⟩
  · rename_i z
    obtain ⟨v, rfl, h⟩ := h1.one
    by_cases c : z.length ≤ sizeLine
    · rw [if_pos c] at h2; cases h2
      rw [h.str]
      exact .inl ⟨_, _, rfl, ⟨c, rfl⟩, k F H _ (Step.refl le) (.int _)⟩
    · rw [if_neg c] at h2; cases h2
  · cases h2
    obtain ⟨v, rfl, h⟩ := h1.one
    obtain ⟨a, ks, rfl, s, r⟩ := h.dic le
    refine .inr ⟨a, ks, rfl, s, ?_⟩
    have := k F H (.int ks.length) (Step.refl le)
    rw [r.length] at this
    exact this (.int _)
  · cases h2
theorem cm_int : CallR X (.type "int") (rCa X.K X.w intF) := callR_imp (call_int1.or call_int_str) fun xs H Q ⟨F, ds, g, le, h1, h2, k⟩ => by
  unfold intF at h2
  split at h2
  · cases h2
    obtain ⟨v, rfl, h⟩ := h1.one
    rw [h.int]
    exact .inl (.inl ⟨_, rfl, k F H _ (Step.refl le) (.int _)⟩)
  · cases h2
    obtain ⟨v, rfl, h⟩ := h1.one
    rw [h.bl]
    exact .inl (.inr ⟨_, rfl, k F H _ (Step.refl le) (.int _)⟩)
  · rename_i z
    obtain ⟨v, rfl, h⟩ := h1.one
    by_cases c : z.length ≤ 640
    · rw [if_pos c] at h2
      obtain ⟨n, q, rfl⟩ := Option.map_eq_some_iff.mp h2
      rw [h.str]
      exact .inr ⟨z, n, rfl, q, c, k F H _ (Step.refl le) (.int _)⟩
    · rw [if_neg c] at h2; cases h2
  · cases h2
theorem cm_str : CallR X (.type "str") (rCa X.K X.w strF) := callR_imp call_str_int fun xs H Q ⟨F, ds, g, le, h1, h2, k⟩ => by
  unfold strF at h2
  split at h2
  · rename_i i
    obtain ⟨v, rfl, h⟩ := h1.one
    by_cases c : i.natAbs.log2 < 1920
    · rw [if_pos c] at h2; cases h2
      rw [h.int]
      exact ⟨i, rfl, c, k F H _ (Step.refl le) (.str _)⟩
    · rw [if_neg c] at h2; cases h2
  · cases h2
theorem cm_list : CallR X (.type "list") (rCa X.K X.w listF) := callR_imp call_list_of fun xs H Q ⟨F, ds, g, le, h1, h2, k⟩ => by
  unfold listF at h2
  split at h2
  · cases h2
    obtain ⟨v, rfl, h⟩ := h1.one
    obtain ⟨a, ys, rfl, s, r⟩ := h.lst le
    refine ⟨a, ys, rfl, .inl (SqL.of s), fun l hl => ?_⟩
    have st := Step.new1 le hl (.lst ys)
    exact k _ _ _ st (.lst upd_same (r.mono st.f))
  · cases h2
    obtain ⟨v, rfl, h⟩ := h1.one
    obtain ⟨a, ys, rfl, s, r⟩ := h.tup le
    refine ⟨a, ys, rfl, .inr s, fun l hl => ?_⟩
    have st := Step.new1 le hl (.lst ys)
    exact k _ _ _ st (.lst upd_same (r.mono st.f))
  · rename_i ns
    cases h2
    obtain ⟨v, rfl, h⟩ := h1.one
    obtain ⟨a, rfl, s⟩ := h.scr le
    refine ⟨a, _, rfl, .inl s, fun l hl => ?_⟩
    have st := Step.new1 le hl (.lst (ns.map V.int))
    exact k _ _ _ st (.lst upd_same (RepAll.of_ints _))
  · cases h2
theorem cm_tuple : CallR X (.type "tuple") (rCa X.K X.w tupleF) := callR_imp call_tuple_of fun xs H Q ⟨F, ds, g, le, h1, h2, k⟩ => by
  unfold tupleF at h2
  split at h2
  · cases h2
    obtain ⟨v, rfl, h⟩ := h1.one
    obtain ⟨a, ys, rfl, s, r⟩ := h.lst le
    refine ⟨a, ys, rfl, .inl ⟨SqL.of s, fun l hl => ?_⟩⟩
    have st := Step.new1 le hl (.tup ys)
    exact k _ _ _ st (.tup (.inl (.inl upd_same)) (r.mono st.f))
  · cases h2
    obtain ⟨v, rfl, h⟩ := h1.one
    have hh := h.flat (fun _ z => nomatch z) (fun _ z => nomatch z) (fun _ z => nomatch z)
    obtain ⟨a, ys, rfl, s, r⟩ := h.tup le
    exact ⟨a, ys, rfl, .inr ⟨s, k F H _ (Step.refl le) hh⟩⟩
  · cases h2
theorem cm_max (hc : X.calm = true) : CallR X (.builtin "max") (rCa X.K X.w maxF) := callR_imp ((cr_max hc).or (call_max2 hc)) fun xs H Q ⟨F, ds, g, le, h1, h2, k⟩ => by
  unfold maxF at h2
  split at h2
  · rename_i ds
    obtain ⟨z, h3, rfl⟩ := Option.map_eq_some_iff.mp h2
    obtain ⟨ns, h4, h5⟩ := Option.bind_eq_some_iff.mp h3
    have e := intsOf_eq h4
    subst e
    obtain ⟨v, rfl, h⟩ := h1.one
    obtain ⟨a, ys, rfl, s, r⟩ := h.lst le
    have ey := r.ints
    subst ey
    refine .inl ⟨a, ns, rfl, SqL.of s, ?_, fun m hm hl => ?_⟩
    · cases ns with
      | nil => cases h5
      | cons n ns => exact Nat.succ_pos _
    · have := k F H (.int z) (Step.refl le) (.int z)
      rw [maxL_ok h5 hm hl]
      exact this
  · cases h2
    obtain ⟨v, u, rfl, h, g⟩ := h1.two
    rw [h.int, g.int]
    exact .inr ⟨_, _, rfl, k F H _ (Step.refl le) (.int _)⟩
  · cases h2
theorem cm_min (hc : X.calm = true) : CallR X (.builtin "min") (rCa X.K X.w minF) := callR_imp (call_min2 hc) fun xs H Q ⟨F, ds, g, le, h1, h2, k⟩ => by
  unfold minF at h2
  split at h2
  · cases h2
    obtain ⟨v, u, rfl, h, g⟩ := h1.two
    rw [h.int, g.int]
    exact ⟨_, _, rfl, k F H _ (Step.refl le) (.int _)⟩
  · cases h2
theorem cm_any (hc : X.calm = true) : CallR X (.builtin "any") (rCa X.K X.w anyF) := callR_imp (cr_any hc) fun xs H Q ⟨F, ds, g, le, h1, h2, k⟩ => by
  unfold anyF at h2
  split at h2
  · obtain ⟨ns, h4, rfl⟩ := Option.map_eq_some_iff.mp h2
    have e := blsOf_eq h4
    subst e
    obtain ⟨v, rfl, h⟩ := h1.one
    obtain ⟨a, ys, rfl, s, r⟩ := h.lst le
    have ey := r.bls
    subst ey
    exact ⟨a, ns, rfl, SqL.of s, k F H _ (Step.refl le) (.bl _)⟩
  · cases h2
theorem cm_all (hc : X.calm = true) : CallR X (.builtin "all") (rCa X.K X.w allF) := callR_imp (cr_all hc) fun xs H Q ⟨F, ds, g, le, h1, h2, k⟩ => by
  unfold allF at h2
  split at h2
  · obtain ⟨ns, h4, rfl⟩ := Option.map_eq_some_iff.mp h2
    have e := blsOf_eq h4
    subst e
    obtain ⟨v, rfl, h⟩ := h1.one
    obtain ⟨a, ys, rfl, s, r⟩ := h.lst le
    have ey := r.bls
    subst ey
    exact ⟨a, ns, rfl, SqL.of s, k F H _ (Step.refl le) (.bl _)⟩
  · cases h2
theorem cm_isi : CallR X (.builtin "isinstance") (rCa X.K X.w isiF) := callR_imp call_isi fun xs H Q ⟨F, ds, g, le, h1, h2, k⟩ => by
  unfold isiF at h2
  split at h2
  · rename_i x T
    obtain ⟨t, h3, h4⟩ := Option.bind_eq_some_iff.mp h2
    obtain ⟨b, h5, rfl⟩ := Option.map_eq_some_iff.mp h4
    obtain ⟨v, u, rfl, h, g⟩ := h1.two
    rw [g.ty]
    exact ⟨v, .ty T, .type t, .type T, b, rfl, .ty T, tyX_of le h h3, kit_ty h5, k F H _ (Step.refl le) (.bl _)⟩
  · cases h2

/-! ### truth -/
def truB : D → Option Bool
  | .non => some false
  | .bl b => some b
  | .int i => some (i != 0)
  | .str z => if z.length ≤ sizeLine then some ((z.length : Int) != 0) else none
  | .tup ds => some (!ds.isEmpty)
  | .lst ds => some (!ds.isEmpty)
  | .dic kvs => some (!kvs.isEmpty)
  | _ => none
theorem tru_rep {K : PySem.W.Frag} {w : World} {F H : Hp} (le : Same F H) {d : D} {v : V} {b : Bool} (h : PRep K w F H d v) (e : truB d = some b) : TruV K v H b := by
  cases d with
  | non => cases e; rw [h.non]; rfl
  | bl b => cases e; rw [h.bl]; rfl
  | int b => cases e; rw [h.int]; rfl
  | str z =>
    unfold truB at e
    by_cases c : z.length ≤ sizeLine
    · simp only [c, if_true] at e
      cases e; rw [h.str]; exact ⟨c, rfl⟩
    · simp only [c, if_false] at e; cases e
  | lst ds =>
    cases e; obtain ⟨a, xs, rfl, s, r⟩ := h.lst le
    refine .inl ⟨xs, SqL.of s, ?_⟩
    cases r <;> rfl
  | dic ds =>
    cases e; obtain ⟨a, xs, rfl, s, r⟩ := h.dic le
    refine .inr (.inr ⟨xs, s, ?_⟩)
    cases r <;> rfl
  | tup ds =>
    cases e
    obtain ⟨a, xs, rfl, s, r⟩ := h.tup le
    refine .inr (.inl ⟨xs, s, ?_⟩)
    cases r <;> rfl
  | _ => cases e

/-! ### methods of texts -/
def splitF (d : D) : List D → Option D
  | [.str b] => match d with
    | .str a => if (b.length == 0) = false ∧ a.length + 2 ≤ sizeLine then some (.lst ((Txt.split a b).map .str)) else none
    | _ => none
  | _ => none
def joinF (d : D) : List D → Option D
  | [.lst ds] => match d with
    | .str a => (strsOf ds).bind fun ys => if (ys.map (·.length)).sum + ys.length * a.length ≤ 16777216 then some (.str (Txt.join a ys)) else none
    | _ => none
  | _ => none
theorem mm_split : MtR X "str.split" (rMt X.K X.w splitF) := mtR_imp mt_split fun x xs H Q ⟨F, d, ds, g, le, h1, h2, h3, k⟩ => by
  unfold splitF at h3
  split at h3
  · rename_i b
    split at h3
    · rename_i a
      by_cases c : (b.length == 0) = false ∧ a.length + 2 ≤ sizeLine
      · rw [if_pos c] at h3; cases h3
        obtain ⟨v, rfl, h⟩ := h2.one
        refine ⟨a, b, h1.str, by rw [h.str], c.1, c.2, fun p hp => ?_⟩
        have st := Step.new1 le hp (.lst ((Txt.split a b).map V.str))
        exact k _ _ _ st (.lst upd_same (RepAll.of_strs _))
      · rw [if_neg c] at h3; cases h3
    · cases h3
  · cases h3
theorem mm_join : MtR X "str.join" (rMt X.K X.w joinF) := mtR_imp mt_join fun x xs H Q ⟨F, d, ds, g, le, h1, h2, h3, k⟩ => by
  unfold joinF at h3
  split at h3
  · split at h3
    · rename_i a
      obtain ⟨ys, h4, h5⟩ := Option.bind_eq_some_iff.mp h3
      by_cases c : (ys.map (·.length)).sum + ys.length * a.length ≤ 16777216
      · rw [if_pos c] at h5; cases h5
        have e := strsOf_eq h4
        subst e
        obtain ⟨v, rfl, h⟩ := h2.one
        obtain ⟨p, zs, rfl, s, r⟩ := h.lst le
        have ez := r.strs
        subst ez
        exact ⟨a, p, ys, h1.str, rfl, .inl (SqL.of s), c, k F H _ (Step.refl le) (.str _)⟩
      · rw [if_neg c] at h5; cases h5
    · cases h3
  · cases h3
end
end MM
namespace MM
open PySem PySem.Spec PyProof.Rows L2

/-! ### the functions -/
def varM (i : Nat) : EM := fun ρ S => match ρ[i]? with
  | some (some (.r x)) => some (.ok x, S)
  | some (some (.own _)) => some (.ok (.slot i), S)
  | _ => none
def litM (d : D) : EM := fun _ S => some (.ok (.d d), S)
def ret1 (f : D → Option D) (a : R) : EM := fun ρ S => match peek ρ S a with
  | some d => match f d with
    | some g => some (.ok (.d g), S)
    | none => none
  | none => none
def ret2 (f : D → D → Option D) (a b : R) : EM := fun ρ S => match peek ρ S a, peek ρ S b with
  | some d, some e => match f d e with
    | some g => some (.ok (.d g), S)
    | none => none
  | _, _ => none
def retN (f : List D → Option D) (as : List R) : EM := fun ρ S => match peeks ρ S as with
  | some ds => match f ds with
    | some g => some (.ok (.d g), S)
    | none => none
  | none => none
def retO (f : D → List D → Option D) (a : R) (as : List R) : EM := fun ρ S => match peek ρ S a, peeks ρ S as with
  | some d, some ds => match f d ds with
    | some g => some (.ok (.d g), S)
    | none => none
  | _, _ => none
def op1M (f : D → Option D) (ma : EM) : EM := bindM ma (ret1 f)
def op2M (f : D → D → Option D) (ma mb : EM) : EM := bindM ma fun a => bindM mb fun b => ret2 f a b
def callM (f : List D → Option D) (ms : AM) : EM := bindM ms (retN f)
def methM (f : D → List D → Option D) (mo : EM) (ms : AM) : EM := bindM mo fun o => bindM ms fun as => retO f o as
def nilA : AM := fun _ S => some (.ok [], S)
def consA (m : EM) (ms : AM) : AM := bindM m fun a => bindM ms fun as => fun _ S => some (.ok (a :: as), S)
/-- the data of closed values -/
def dsOf : List R → Option (List D)
  | [] => some []
  | .d x :: r => (dsOf r).map (x :: ·)
  | _ => none
def mkTup (as : List R) : EM := fun _ S => match dsOf as with
  | some ds => if ds.length ≤ sizeLine then some (.ok (.d (.tup ds)), S) else none
  | none => none
def mkLst (as : List R) : EM := fun _ S => match dsOf as with
  | some ds => if ds.length ≤ sizeLine then some (.ok (.d (.lst ds)), S) else none
  | none => none
def tupM (ms : AM) : EM := bindM ms mkTup
def lstM (ms : AM) : EM := bindM ms mkLst
/-- tests -/
def tstB (a : R) : TM := fun _ S => match a with
  | .d (.bl b) => some (.ok b, S)
  | _ => none
def tstT (a : R) : TM := fun ρ S => match peek ρ S a with
  | some d => match truB d with
    | some b => some (.ok b, S)
    | none => none
  | none => none
def bT (m : EM) : TM := bindM m tstB
def truM (m : EM) : TM := bindM m tstT
def notT (m : TM) : TM := bindM m fun b _ S => some (.ok (!b), S)
def andT (m n : TM) : TM := bindM m fun b => if b = true then n else fun _ S => some (.ok false, S)
def orT (m n : TM) : TM := bindM m fun b => if b = true then fun _ S => some (.ok true, S) else n
def notV (m : EM) : EM := bindM (bT m) fun b => litM (.bl (!b))
def andV (m n : EM) : EM := bindM (bT m) fun b => if b = true then n else litM (.bl false)
def orV (m n : EM) : EM := bindM (bT m) fun b => if b = true then litM (.bl true) else n
def ifV (t : TM) (m n : EM) : EM := bindM t fun b => if b = true then m else n

section
variable {X : Cx} {W : WX} {e a b c : Expr} {pos : Pos} {ma mb mc : EM} {es : List Expr} {ms : AM} {mt nt : TM}

theorem me_var (i : Nat) {x : Str} (hN : X.N[i]? = some x := by rfl) (hv : Vis X.env.scope x := by first | exact Or.inl rfl | exact Or.inr (Or.inl rfl) | exact Or.inr (Or.inr rfl)) (hd : (x == ("__debug__" : Str)) = false := by decide)
    (hcd : (x == ("__classdict__" : Str)) = false := by decide) : ME X W (.Name x pos) (varM i) := by
  refine PE.imp (pe_var hN hv hd hcd) fun σ H Q ⟨F, μ, ρ, S, h1, h2, h3⟩ => ?_
  unfold varM at h3
  cases q : ρ[i]? with
  | none => rw [q] at h3; exact h3.none_
  | some o =>
    cases o with
    | none => rw [q] at h3; exact h3.none_
    | some en =>
      cases en with
      | r x =>
        rw [q] at h3
        obtain ⟨v, h4, h5⟩ := h2.r i x q
        refine ⟨v, h4, h3.ok .refl h1 ?_⟩
        cases x with
        | d y => exact h5
        | loc n => exact h5
        | slot j => have : ([] : L2.St)[j]? = some (some v) := h5; simp at this
      | own cc =>
        rw [q] at h3
        obtain ⟨p, h4, h5⟩ := h2.own i cc q
        exact ⟨_, h4, h3.ok .refl h1 h4⟩
theorem me_int {i j} : ME X W (.Constant (.int i) j pos) (litM (.int i)) := PE.imp pe_int fun σ H Q ⟨F, μ, ρ, S, h1, h2, h3⟩ => h3.ok .refl h1 (.int i)
theorem me_bl {i j} : ME X W (.Constant (.bool i) j pos) (litM (.bl i)) := PE.imp pe_bl fun σ H Q ⟨F, μ, ρ, S, h1, h2, h3⟩ => h3.ok .refl h1 (.bl i)
theorem me_non {j} : ME X W (.Constant .none j pos) (litM .non) := PE.imp pe_non fun σ H Q ⟨F, μ, ρ, S, h1, h2, h3⟩ => h3.ok .refl h1 .non
theorem me_str {x j} : ME X W (.Constant (.str x) j pos) (litM (.str x)) := PE.imp pe_str fun σ H Q ⟨F, μ, ρ, S, h1, h2, h3⟩ => h3.ok .refl h1 (.str x)
/-- a name of the module: a constant, a def, a class -/
structure Glb (X : Cx) (x : Str) (d : D) : Prop where
  ex : ∃ v u, X.mg x = some u ∧ RelV v u ∧ ∀ F, Rep X.K X.w F d v
theorem me_glob {x : Str} {d : D} (g : Glb X x d) (hg : Gl X x) (hd : (x == ("__debug__" : Str)) = false := by decide) : ME X W (.Name x pos) (litM d) := by
  obtain ⟨v, u, h1, h2, h3⟩ := g.ex
  exact PE.imp (pe_glob hg h1 h2 hd) fun σ H Q ⟨F, μ, ρ, S, k1, k2, k3⟩ => k3.ok .refl k1 (h3 F)
/-- a built-in type as a value -/
theorem me_ty {x : Str} {T : String} (hm : X.mg x = none) (hg : Gl X x) (hv : bootBuiltins x = some (.type T)) (hn : x ≠ "__name__" := by decide) (hd : (x == ("__debug__" : Str)) = false := by decide) : ME X W (.Name x pos) (litM (.ty T)) :=
  PE.imp (pe_bltn (v := .ty T) hg hm hv rfl hn hd) fun σ H Q ⟨F, μ, ρ, S, k1, k2, k3⟩ => k3.ok .refl k1 (.ty T)
theorem me_op {op : Operator} {f : D → D → Option D} (ho : OpR X (binaryOp op) (rOp X.K X.w f)) (ha : ME X W a ma) (hb : ME X W b mb) : ME X W (.BinOp a op b pos) (op2M f ma mb) :=
  PE.imp (pe_op ho ha hb) fun σ H Q h => (core_bin (Ra := fun σ F μ => RepR X.K X.w F μ σ) (Rb := fun σ F μ => RepR X.K X.w F μ σ) monoR h).imp fun x H1 h => core.imp h fun y H2 ⟨a, b, F, μ, ρ, S, h1, h2, h3, h4, h5⟩ => by
    unfold ret2 at h5
    cases q1 : peek ρ S a with
    | none => simp only [q1] at h5; exact h5.none_
    | some d =>
      cases q2 : peek ρ S b with
      | none => simp only [q1, q2] at h5; exact h5.none_
      | some e =>
        simp only [q1, q2] at h5
        cases q3 : f d e with
        | none => simp only [q3] at h5; exact h5.none_
        | some g =>
          simp only [q3] at h5
          exact ⟨F, d, e, g, h1.le, peek_rep h1 h2 h3 q1, peek_rep h1 h2 h4 q2, q3, fun F' H' v st r => h5.ok st.grow (h1.step st) r⟩
theorem me_cmp {op : CmpOp} {f : D → D → Option D} (ho : OpR X (compareOp op) (rOp X.K X.w f)) (ha : ME X W a ma) (hb : ME X W b mb) (hm : behindInMarks op b = false) : ME X W (.Compare a [op] [b] pos) (op2M f ma mb) :=
  PE.imp (pe_cmpR ho ha hb hm) fun σ H Q h => (core_bin (Ra := fun σ F μ => RepR X.K X.w F μ σ) (Rb := fun σ F μ => RepR X.K X.w F μ σ) monoR h).imp fun x H1 h => core.imp h fun y H2 ⟨a, b, F, μ, ρ, S, h1, h2, h3, h4, h5⟩ => by
    unfold ret2 at h5
    cases q1 : peek ρ S a with
    | none => simp only [q1] at h5; exact h5.none_
    | some d =>
      cases q2 : peek ρ S b with
      | none => simp only [q1, q2] at h5; exact h5.none_
      | some e =>
        simp only [q1, q2] at h5
        cases q3 : f d e with
        | none => simp only [q3] at h5; exact h5.none_
        | some g =>
          simp only [q3] at h5
          exact ⟨F, d, e, g, h1.le, peek_rep h1 h2 h3 q1, peek_rep h1 h2 h4 q2, q3, fun F' H' v st r => h5.ok st.grow (h1.step st) r⟩
theorem me_ix {f : D → D → Option D} (ho : IxR X (rOp X.K X.w f)) (ha : ME X W a ma) (hb : ME X W b mb) (hs : PlainIx b) : ME X W (.Subscript a b pos) (op2M f ma mb) :=
  PE.imp (pe_ix ho ha hb hs) fun σ H Q h => (core_bin (Ra := fun σ F μ => RepR X.K X.w F μ σ) (Rb := fun σ F μ => RepR X.K X.w F μ σ) monoR h).imp fun x H1 h => core.imp h fun y H2 ⟨a, b, F, μ, ρ, S, h1, h2, h3, h4, h5⟩ => by
    unfold ret2 at h5
    cases q1 : peek ρ S a with
    | none => simp only [q1] at h5; exact h5.none_
    | some d =>
      cases q2 : peek ρ S b with
      | none => simp only [q1, q2] at h5; exact h5.none_
      | some e =>
        simp only [q1, q2] at h5
        cases q3 : f d e with
        | none => simp only [q3] at h5; exact h5.none_
        | some g =>
          simp only [q3] at h5
          exact ⟨F, d, e, g, h1.le, peek_rep h1 h2 h3 q1, peek_rep h1 h2 h4 q2, q3, fun F' H' v st r => h5.ok st.grow (h1.step st) r⟩
/-! arguments -/
theorem ma_nil : MA X W [] nilA := PA.imp pa_nil fun σ H Q ⟨F, μ, ρ, S, h1, h2, h3⟩ => h3.ok .refl h1 .nil
theorem ma_cons (ha : ME X W e ma) (hr : MA X W es ms) (hs : starEach (e :: es) X.env = (false, eval e X.env) :: starEach es X.env := by rfl) : MA X W (e :: es) (consA ma ms) :=
  PA.imp (pa_cons ha hr hs) fun σ H Q h => (core_bin (Ra := fun σ F μ => RepR X.K X.w F μ σ) (Rb := fun σ F μ => RepRs X.K X.w F μ σ) monoR h).imp fun x H1 h => core.imp h fun y H2 ⟨a, b, F, μ, ρ, S, h1, h2, h3, h4, h5⟩ =>
    h5.ok .refl h1 (.cons h3 h4)
theorem dsOf_rep {K : PySem.W.Frag} {w : World} {F : Hp} {μ : List Addr} {σ : L2.St} : ∀ {rs : List R} {vs : List V} {ds : List D}, RepRs K w F μ σ rs vs → dsOf rs = some ds → RepAll K w F ds vs
  | [], _, _, .nil, e => by cases e; exact .nil
  | .d x :: r, _, _, .cons h q, e => by
    unfold dsOf at e
    obtain ⟨ds, h1, rfl⟩ := Option.map_eq_some_iff.mp e
    exact .cons h (dsOf_rep q h1)
  | .loc n :: r, _, _, _, e => by cases e
  | .slot n :: r, _, _, _, e => by cases e
theorem me_tup {x1} (ha : MA X W es ms) : ME X W (.Tuple es x1 pos) (tupM ms) :=
  PE.imp (pe_tup ha) fun σ H Q h => (core_bind (Ra := fun σ F μ => RepRs X.K X.w F μ σ) h).imp fun x H1 ⟨as, F, μ, ρ, S, h1, h2, h3, h4⟩ => by
    unfold mkTup at h4
    cases q : dsOf as with
    | none => simp only [q] at h4; exact h4.none_
    | some ds =>
      simp only [q] at h4
      have r := dsOf_rep h3 q
      by_cases c : ds.length ≤ sizeLine
      · rw [if_pos c] at h4
        refine ⟨by rw [← r.length]; exact c, fun p hp => ?_⟩
        have st := Step.new1 h1.le hp (.tup x)
        exact h4.ok st.grow (h1.step st) (.tup (.inl (.inl upd_same)) (r.mono st.f))
      · rw [if_neg c] at h4; exact h4.none_
theorem me_lst (ha : MA X W es ms) : ME X W (.List es pos) (lstM ms) :=
  PE.imp (pe_lst ha) fun σ H Q h => (core_bind (Ra := fun σ F μ => RepRs X.K X.w F μ σ) h).imp fun x H1 ⟨as, F, μ, ρ, S, h1, h2, h3, h4⟩ => by
    unfold mkLst at h4
    cases q : dsOf as with
    | none => simp only [q] at h4; exact h4.none_
    | some ds =>
      simp only [q] at h4
      have r := dsOf_rep h3 q
      by_cases c : ds.length ≤ sizeLine
      · rw [if_pos c] at h4
        refine ⟨by rw [← r.length]; exact c, fun p hp => ?_⟩
        have st := Step.new1 h1.le hp (.lst x)
        exact h4.ok st.grow (h1.step st) (.lst upd_same (r.mono st.f))
      · rw [if_neg c] at h4; exact h4.none_
theorem ret_call {f : List D → Option D} {σ : L2.St} {H : Hp} {Q : VK} {xs : List V} {as : List R} {F : Hp} {μ : List Addr} {ρ : Fr} {S : Sto} (h1 : Rel X.K X.w F μ S H) (h2 : RelFr X.K X.w F μ H ρ σ) (h3 : RepRs X.K X.w F μ σ as xs)
    (h4 : coreAt X.K X.w (fun σ F μ => RepR X.K X.w F μ σ) W (retN f as ρ S) F μ σ H Q) : rCa X.K X.w f xs H Q := by
  unfold retN at h4
  cases q : peeks ρ S as with
  | none => simp only [q] at h4; exact h4.none_
  | some ds =>
    simp only [q] at h4
    cases q3 : f ds with
    | none => simp only [q3] at h4; exact h4.none_
    | some g =>
      simp only [q3] at h4
      exact ⟨F, ds, g, h1.le, peeks_rep h1 h2 h3 q, q3, fun F' H' v st r => h4.ok st.grow (h1.step st) r⟩
/-- a call of a built-in by its name -/
theorem me_callB {id : String} {x : Str} {f : List D → Option D} {p : Pos} (hc : CallR X (.builtin id) (rCa X.K X.w f)) (hm : X.mg x = none) (hg : Gl X x) (hv : bootBuiltins x = some (.builtin id)) (ha : MA X W (e :: es) ms) (hn : x ≠ "__name__" := by decide) (hdb : (x == ("__debug__" : Str)) = false := by decide)
    (hs : starEach (e :: es) X.env = (false, eval e X.env) :: starEach es X.env := by rfl) (hpl : (backTo pos (starEach es X.env)).any (·.1) = false := by rfl) : ME X W (.Call (.Name x p) (e :: es) [] pos) (callM f ms) :=
  PE.imp (pe_callB hc hg hm hv ha hn hdb hs hpl) fun σ H Q h => (core_bind (Ra := fun σ F μ => RepRs X.K X.w F μ σ) h).imp fun x H1 ⟨as, F, μ, ρ, S, h1, h2, h3, h4⟩ => ret_call h1 h2 h3 h4
theorem me_callT {T : String} {x : Str} {f : List D → Option D} {p : Pos} (hc : CallR X (.type T) (rCa X.K X.w f)) (hm : X.mg x = none) (hg : Gl X x) (hv : bootBuiltins x = some (.type T)) (ha : MA X W (e :: es) ms) (hn : x ≠ "__name__" := by decide) (hdb : (x == ("__debug__" : Str)) = false := by decide)
    (hs : starEach (e :: es) X.env = (false, eval e X.env) :: starEach es X.env := by rfl) (hpl : (backTo pos (starEach es X.env)).any (·.1) = false := by rfl) : ME X W (.Call (.Name x p) (e :: es) [] pos) (callM f ms) :=
  PE.imp (pe_callTy hc hg hm hv ha hn hdb hs hpl) fun σ H Q h => (core_bind (Ra := fun σ F μ => RepRs X.K X.w F μ σ) h).imp fun x H1 ⟨as, F, μ, ρ, S, h1, h2, h3, h4⟩ => ret_call h1 h2 h3 h4
/-! tests -/
theorem test_bl {σ : L2.St} {H : Hp} {Q : Bool → Hp → Prop} {x : V} {a : R} {F : Hp} {μ : List Addr} {ρ : Fr} {S : Sto} (h1 : Rel X.K X.w F μ S H) (h3 : RepR X.K X.w F μ σ a x) (h4 : coreAt X.K X.w RB W (tstB a ρ S) F μ σ H Q) : ∃ k, x = .bl k ∧ Q k H := by
  unfold tstB at h4
  split at h4
  · cases h3
    exact ⟨_, rfl, h4.ok .refl h1 rfl⟩
  · exact h4.none_
theorem mt_cmp {op : CmpOp} {f : D → D → Option D} (ho : OpR X (compareOp op) (rOp X.K X.w f)) (ha : ME X W a ma) (hb : ME X W b mb) (hm : behindInMarks op b = false) : MT X W (.Compare a [op] [b] pos) (bT (op2M f ma mb)) :=
  PT.imp (pt_cmpR ho ha hb hm) fun σ H Q h => by
    have h' := (core_bind (Ra := fun σ F μ => RepR X.K X.w F μ σ) h).imp (Q' := fun x H' => ∃ k, x = V.bl k ∧ Q k H') fun x H1 ⟨a, F, μ, ρ, S, h1, h2, h3, h4⟩ => test_bl h1 h3 h4
    refine (core_bin (Ra := fun σ F μ => RepR X.K X.w F μ σ) (Rb := fun σ F μ => RepR X.K X.w F μ σ) monoR h').imp fun x H1 h => core.imp h fun y H2 ⟨a, b, F, μ, ρ, S, h1, h2, h3, h4, h5⟩ => ?_
    unfold ret2 at h5
    cases q1 : peek ρ S a with
    | none => simp only [q1] at h5; exact h5.none_
    | some d =>
      cases q2 : peek ρ S b with
      | none => simp only [q1, q2] at h5; exact h5.none_
      | some e =>
        simp only [q1, q2] at h5
        cases q3 : f d e with
        | none => simp only [q3] at h5; exact h5.none_
        | some g =>
          simp only [q3] at h5
          exact ⟨F, d, e, g, h1.le, peek_rep h1 h2 h3 q1, peek_rep h1 h2 h4 q2, q3, fun F' H' v st r => h5.ok st.grow (h1.step st) r⟩
theorem mt_tru (ha : ME X W a ma) (he : ∀ whole, isTrue a X.env whole = (do let v ← whole; standAt a.pos; holding [v] (truthy v)) := by intro _; rfl) : MT X W a (truM ma) :=
  PT.imp (pt_truth ha he) fun σ H Q h => (core_bind (Ra := fun σ F μ => RepR X.K X.w F μ σ) h).imp fun x H1 ⟨a, F, μ, ρ, S, h1, h2, h3, h4⟩ => by
    unfold tstT at h4
    cases q1 : peek ρ S a with
    | none => simp only [q1] at h4; exact h4.none_
    | some d =>
      simp only [q1] at h4
      cases q2 : truB d with
      | none => simp only [q2] at h4; exact h4.none_
      | some b =>
        simp only [q2] at h4
        exact ⟨b, tru_rep h1.le (peek_rep h1 h2 h3 q1) q2, h4.ok .refl h1 rfl⟩
theorem mt_not (ha : MT X W a mt) : MT X W (.UnaryOp .Not a pos) (notT mt) :=
  PT.imp (pt_not ha) fun σ H Q h => (core_bind (Ra := RB) h).imp fun x H1 ⟨a, F, μ, ρ, S, h1, h2, h3, h4⟩ => by
    cases h3
    exact h4.ok .refl h1 rfl
theorem mw_and1 (ha : MT X W a mt) : MW X W (.BoolOp .And [a] pos) mt := pw_and1 ha
theorem mw_or1 (ha : MT X W a mt) : MW X W (.BoolOp .Or [a] pos) mt := pw_or1 ha
theorem mw_and {rest : List Expr} (ha : MT X W a mt) (hb : MW X W (.BoolOp .And (b :: rest) pos) nt) : MW X W (.BoolOp .And (a :: b :: rest) pos) (andT mt nt) :=
  PW.imp (pw_and ha hb) fun σ H Q h => (core_bind (Ra := RB) h).imp fun x H1 ⟨a2, F, μ, ρ, S, h1, h2, h3, h4⟩ => by
    obtain rfl := h3
    cases a2 with
    | true => exact ⟨F, μ, ρ, S, h1, h2, h4⟩
    | false => exact h4.ok .refl h1 rfl
theorem mw_or {rest : List Expr} (ha : MT X W a mt) (hb : MW X W (.BoolOp .Or (b :: rest) pos) nt) : MW X W (.BoolOp .Or (a :: b :: rest) pos) (orT mt nt) :=
  PW.imp (pw_or ha hb) fun σ H Q h => (core_bind (Ra := RB) h).imp fun x H1 ⟨a2, F, μ, ρ, S, h1, h2, h3, h4⟩ => by
    obtain rfl := h3
    cases a2 with
    | true => exact h4.ok .refl h1 rfl
    | false => exact ⟨F, μ, ρ, S, h1, h2, h4⟩
/-! .. as values -/
theorem asB {ma : EM} {σ : L2.St} {H : Hp} {Q : V → Hp → Prop} {β : Type} {g : Bool → GM R} (h : tE X.K X.w W (bindM (bT ma) g) σ H Q) :
    tE X.K X.w W ma σ H (fun x H1 => ∃ c, x = .bl c ∧ tE X.K X.w W (g c) σ H1 Q) := by
  have h' := (core_bind (Ra := RB) h)
  refine (core_bind (Ra := fun σ F μ => RepR X.K X.w F μ σ) h').imp fun x H1 ⟨a, F, μ, ρ, S, h1, h2, h3, h4⟩ => ?_
  obtain ⟨k, e, a2, F2, μ2, ρ2, S2, k1, k2, k3, k4⟩ := test_bl h1 h3 h4
  cases k3
  exact ⟨_, e, F2, μ2, ρ2, S2, k1, k2, k4⟩
theorem me_not (ha : ME X W a ma) : ME X W (.UnaryOp .Not a pos) (notV ma) :=
  PE.imp (pe_not ha) fun σ H Q h => (asB (β := Unit) h).imp fun x H1 ⟨c, e, F, μ, ρ, S, h1, h2, h3⟩ => ⟨c, e, h3.ok .refl h1 (.bl _)⟩
theorem me_one {op} (h : ME X W a ma) : ME X W (.BoolOp op [a] pos) ma := pe_one h
theorem me_and {rest : List Expr} (ha : ME X W a ma) (hb : ME X W (.BoolOp .And (b :: rest) pos) mb) : ME X W (.BoolOp .And (a :: b :: rest) pos) (andV ma mb) :=
  PE.imp (pe_and ha hb) fun σ H Q h => (asB (β := Unit) h).imp fun x H1 ⟨c, e, h⟩ => by
    refine ⟨c, e, ?_⟩
    cases c with
    | true => exact h
    | false =>
      obtain ⟨F, μ, ρ, S, h1, h2, h3⟩ := h
      exact h3.ok .refl h1 (.bl _)
theorem me_if (hc : MT X W c mt) (ha : ME X W a ma) (hb : ME X W b mb) : ME X W (.IfExp c a b pos) (ifV mt ma mb) :=
  PE.imp (pe_ifExp hc ha hb) fun σ H Q h => (core_bind (Ra := RB) h).imp fun x H1 ⟨a2, F, μ, ρ, S, h1, h2, h3, h4⟩ => by
    obtain rfl := h3
    cases a2 with
    | true => exact ⟨F, μ, ρ, S, h1, h2, h4⟩
    | false => exact ⟨F, μ, ρ, S, h1, h2, h4⟩
/-! slices -/
abbrev OM := GM (Option Int)
abbrev RO : L2.St → Hp → List Addr → Option Int → Option Int → Prop := fun _ _ _ a b => a = b
def noP : OM := fun _ S => some (.ok none, S)
def partR (a : R) : OM := fun ρ S => match a with
  | .d (.int i) => some (.ok (some i), S)
  | _ => none
def partM (m : EM) : OM := bindM m partR
abbrev MO (X : Cx) (W : WX) (e : Option Expr) (m : OM) : Prop := PO X e (core X.K X.w RO W m)
theorem mo_none : MO X W none noP := ⟨fun pins s σ H Q I ⟨F, μ, ρ, S, h1, h2, h3⟩ => po_none.run pins s σ H Q I (h3.ok .refl h1 rfl)⟩
theorem mo_some (h : ME X W e ma) : MO X W (some e) (partM ma) := ⟨fun pins s σ H Q I q => (po_some h).run pins s σ H Q I ((core_bind (Ra := fun σ F μ => RepR X.K X.w F μ σ) q).imp fun x H1 ⟨a, F, μ, ρ, S, h1, h2, h3, h4⟩ => by
    unfold partR at h4
    split at h4
    · cases h3
      exact ⟨_, rfl, h4.ok .refl h1 rfl⟩
    · exact h4.none_)⟩
def retS (a : R) (lo hi : Option Int) : EM := fun ρ S => match peek ρ S a with
  | some d => match slD d lo hi with
    | some g => some (.ok (.d g), S)
    | none => none
  | none => none
def slM (ma : EM) (ml mh : OM) : EM := bindM ma fun a => bindM ml fun l => bindM mh fun h => retS a l h
theorem core_tri {α β γ δ ε ζ η θ : Type} {K : PySem.W.Frag} {w : World} {Rp : L2.St → Hp → List Addr → α → β → Prop} {Ra : L2.St → Hp → List Addr → γ → δ → Prop} {Rb : L2.St → Hp → List Addr → ε → ζ → Prop} {Rc : L2.St → Hp → List Addr → η → θ → Prop}
    {σ : L2.St} {H : Hp} {ma : GM γ} {mb : GM ε} {mc : GM η} {g : γ → ε → η → GM α} {Q : β → Hp → Prop} (hm : MonoR Ra) (hn : MonoR Rb) (h : core K w Rp W (bindM ma fun a => bindM mb fun b => bindM mc fun c => g a b c) σ H Q) :
    core K w Ra W ma σ H (fun x H1 => core K w Rb W mb σ H1 (fun y H2 => core K w Rc W mc σ H2 fun z H3 => ∃ a b c F μ ρ S, Rel K w F μ S H3 ∧ RelFr K w F μ H3 ρ σ ∧ Ra σ F μ a x ∧ Rb σ F μ b y ∧ Rc σ F μ c z ∧ coreAt K w Rp W (g a b c ρ S) F μ σ H3 Q)) := by
  refine (core_bin (Ra := Ra) (Rb := Rb) hm h).imp fun x H1 h => core.imp h fun y H2 ⟨a, b, F, μ, ρ, S, h1, h2, h3, h3', h4⟩ => ?_
  obtain ⟨o, S', h5, h6⟩ := h4
  refine ⟨F, μ, ρ, S, h1, h2, ?_⟩
  unfold bindM at h5
  cases q : mc ρ S with
  | none => rw [q] at h5; cases h5
  | some r =>
    obtain ⟨o1, S1⟩ := r
    rw [q] at h5
    cases o1 with
    | ok c => exact ⟨.ok c, S1, rfl, fun F' μ' H' v e r z => ⟨a, b, c, F', μ', ρ, S1, r, h2.grow e, hm _ _ _ _ _ _ _ e.f e.p h3, hn _ _ _ _ _ _ _ e.f e.p h3', z, coreAt.mono e ⟨o, S', h5, h6⟩⟩⟩
    | ex c fs =>
      cases h5
      exact ⟨.ex c fs, _, rfl, h6⟩
theorem me_sl {lo hi : Option Expr} {ml mh : OM} {p2 : Pos} (ha : ME X W e ma) (hl : MO X W lo ml) (hh : MO X W hi mh) : ME X W (.Subscript e (.Slice lo hi none p2) pos) (slM ma ml mh) :=
  PE.imp (pe_slice om_sl ha hl hh) fun σ H Q h => (core_tri (Ra := fun σ F μ => RepR X.K X.w F μ σ) (Rb := RO) (Rc := RO) monoR (fun _ _ _ _ _ _ _ _ _ h => h) h).imp fun x H1 h => core.imp h fun l H2 h => core.imp h fun u H3 ⟨a, b, c, F, μ, ρ, S, h1, h2, h3, h4, h4', h5⟩ => by
    obtain rfl := h4
    obtain rfl := h4'
    unfold retS at h5
    cases q1 : peek ρ S a with
    | none => simp only [q1] at h5; exact h5.none_
    | some d =>
      simp only [q1] at h5
      cases q3 : slD d b c with
      | none => simp only [q3] at h5; exact h5.none_
      | some g =>
        simp only [q3] at h5
        exact ⟨F, d, g, h1.le, peek_rep h1 h2 h3 q1, q3, fun F' H' v st r => h5.ok st.grow (h1.step st) r⟩
/-! a < b < c -/
def chainM (f g : D → D → Option D) (ma mb mc : EM) : EM := bindM ma fun a => bindM mb fun b => bindM (bT (ret2 f a b)) fun k => if k = true then bindM mc fun c => ret2 g b c else litM (.bl false)
theorem me_chain {op op' : CmpOp} {f g : D → D → Option D} (ho : OpR X (compareOp op) (rOp X.K X.w f)) (ho' : OpR X (compareOp op') (rOp X.K X.w g)) (ha : ME X W a ma) (hb : ME X W b mb) (hc : ME X W c mc)
    (hm : lastMarks [op, op'] [b, c] = false := by with_unfolding_all rfl) : ME X W (.Compare a [op, op'] [b, c] pos) (chainM f g ma mb mc) :=
  PE.imp (pe_chain ho ho' ha hb hc hm) fun σ H Q h => (core_bin (Ra := fun σ F μ => RepR X.K X.w F μ σ) (Rb := fun σ F μ => RepR X.K X.w F μ σ) monoR h).imp fun x H1 h => core.imp h fun y H2 ⟨a, b, F, μ, ρ, S, h1, h2, h3, h4, o, S', h5, h6⟩ => by
    unfold bindM bT bindM ret2 at h5
    cases q1 : peek ρ S a with
    | none => simp [q1] at h5
    | some d =>
      cases q2 : peek ρ S b with
      | none => simp [q1, q2] at h5
      | some e =>
        cases q3 : f d e with
        | none => simp [q1, q2, q3] at h5
        | some z =>
          cases z with
          | bl k =>
              simp only [q1, q2, q3, tstB] at h5
              refine ⟨F, d, e, _, h1.le, peek_rep h1 h2 h3 q1, peek_rep h1 h2 h4 q2, q3, fun F' H' v st r => ?_⟩
              cases r
              refine ⟨_, rfl, ?_⟩
              cases k with
              | false =>
                have : coreAt X.K X.w (fun σ F μ => RepR X.K X.w F μ σ) W (litM (.bl false) ρ S) F μ σ H2 Q := ⟨o, S', h5, h6⟩
                exact this.ok st.grow (h1.step st) (.bl _)
              | true =>
                have h7 : tE X.K X.w W (bindM mc fun c => ret2 g b c) σ H' Q := ⟨F', μ, ρ, S, h1.step st, h2.grow st.grow, coreAt.mono st.grow ⟨o, S', h5, h6⟩⟩
                have hb' : RepR X.K X.w F' μ σ b y := h4.mono st.f List.prefix_rfl
                refine ⟨F', μ, ρ, S, h1.step st, h2.grow st.grow, ?_⟩
                have h8 : coreAt X.K X.w (fun σ F μ => RepR X.K X.w F μ σ) W ((bindM mc fun c => ret2 g b c) ρ S) F' μ σ H' Q := coreAt.mono st.grow ⟨o, S', h5, h6⟩
                obtain ⟨o2, S2, k1, k2⟩ := h8
                unfold bindM at k1
                cases qm : mc ρ S with
                | none => rw [qm] at k1; cases k1
                | some r1 =>
                  obtain ⟨o3, S3⟩ := r1
                  rw [qm] at k1
                  cases o3 with
                  | ex cc fs => cases k1; exact ⟨_, _, rfl, k2⟩
                  | ok c =>
                    refine ⟨.ok c, S3, rfl, fun F4 μ4 H4 w' gr r4 rc => ?_⟩
                    have h2' := (h2.grow st.grow).grow gr
                    have k3 : coreAt X.K X.w (fun σ F μ => RepR X.K X.w F μ σ) W (ret2 g b c ρ S3) F4 μ4 σ H4 Q := coreAt.mono gr ⟨o2, S2, k1, k2⟩
                    unfold ret2 at k3
                    cases p1 : peek ρ S3 b with
                    | none => simp only [p1] at k3; exact k3.none_
                    | some dd =>
                      cases p2 : peek ρ S3 c with
                      | none => simp only [p1, p2] at k3; exact k3.none_
                      | some ee =>
                        simp only [p1, p2] at k3
                        cases p3 : g dd ee with
                        | none => simp only [p3] at k3; exact k3.none_
                        | some zz =>
                          simp only [p3] at k3
                          exact ⟨F4, dd, ee, zz, r4.le, peek_rep r4 h2' (hb'.mono gr.f gr.p) p1, peek_rep r4 h2' rc p2, p3, fun F5 H5 v st r => k3.ok st.grow (r4.step st) r⟩
          | _ => simp [q1, q2, q3, tstB] at h5
end
end MM
namespace MM
open PySem PySem.Spec PyProof.Rows L2

/-! ### statements as functions -/
def nxM : SM := fun ρ S => some (.nx, ρ, S)
def seqM (m n : SM) : SM := fun ρ S => match m ρ S with
  | some (.nx, ρ', S') => n ρ' S'
  | r => r
def closedR : R → Bool
  | .slot _ => false
  | _ => true
def setR (i : Nat) (r : R) : SM := fun ρ S => if closedR r = true ∧ i < ρ.length then some (.nx, ρ.set i (some (.r r)), S) else none
def setM (i : Nat) (m : EM) : SM := thenM m (setR i)
def dropM (m : EM) : SM := thenM m fun _ => nxM
def retM (m : EM) : SM := thenM m fun r ρ S => some (.rt r, ρ, S)
def retNM : SM := fun ρ S => some (.rt (.d .non), ρ, S)
def ifM (t : TM) (m n : SM) : SM := thenM t fun b => if b = true then m else n
def brkM : SM := fun ρ S => some (.bk, ρ, S)
def cntM : SM := fun ρ S => some (.ct, ρ, S)
/-- an expression whose value is a new list -/
abbrev NM := GM (List D)
def newR (ms : AM) : NM := bindM ms fun as _ S => match dsOf as with
  | some ds => if ds.length ≤ sizeLine then some (.ok ds, S) else none
  | none => none
def ownM (i : Nat) (m : NM) : SM := thenM m fun ds ρ S => if i < ρ.length then some (.nx, ρ.set i (some (.own (.lst ds))), S) else none
def ofNew (m : NM) : EM := bindM m fun ds => litM (.lst ds)

section
variable {K : PySem.W.Frag} {w : World} {W : WX} {F F' H H' : Hp} {μ μ' : List Addr} {S S' : Sto} {ρ : Fr} {σ : L2.St} {B : Bs}
theorem RepR.closed {r : R} {v : V} (h : RepR K w F μ σ r v) (c : closedR r = true) (τ : L2.St) : RepR K w F μ τ r v := by
  cases r with
  | d x => exact h
  | loc n => exact h
  | slot i => cases c
/-- a value is stored at a name -/
theorem StOk.set (x : StOk K w B F μ ρ S σ H) {i : Nat} {r : R} {v : V} (h : RepR K w F μ σ r v) (c : closedR r = true) (hi : i < ρ.length) : StOk K w B F μ (ρ.set i (some (.r r))) S (σ.set i (some v)) H := by
  have hs : i < σ.length := by rw [← x.fr.len]; exact hi
  refine ⟨x.rel, ⟨by simp [x.fr.len], fun j y e => ?_, fun j cc e => ?_, fun j k cc dd a e1 e2 e3 e4 => ?_⟩, x.gr, fun j cc a e1 e2 => ?_⟩
  · by_cases q : j = i
    · subst q
      rw [List.getElem?_set_self hi] at e; cases e
      exact ⟨v, List.getElem?_set_self hs, h.closed c []⟩
    · rw [List.getElem?_set_ne (Ne.symm q)] at e ⊢
      exact x.fr.r j y e
  · by_cases q : j = i
    · subst q
      rw [List.getElem?_set_self hi] at e; cases e
    · rw [List.getElem?_set_ne (Ne.symm q)] at e ⊢
      exact x.fr.own j cc e
  · have n1 : j ≠ i := fun q => by subst q; rw [List.getElem?_set_self hi] at e1; cases e1
    have n2 : k ≠ i := fun q => by subst q; rw [List.getElem?_set_self hi] at e2; cases e2
    rw [List.getElem?_set_ne (Ne.symm n1)] at e1 e3
    rw [List.getElem?_set_ne (Ne.symm n2)] at e2 e4
    exact x.fr.dist j k cc dd a e1 e2 e3 e4
  · have n1 : j ≠ i := fun q => by subst q; rw [List.getElem?_set_self hi] at e1; cases e1
    rw [List.getElem?_set_ne (Ne.symm n1)] at e1 e2
    exact x.ow j cc a e1 e2
/-- what stood nowhere at a later moment stood nowhere at the entry -/
theorem StOk.fresh (x : StOk K w B F μ ρ S σ H) {p : Addr} (h : H p = none) : B.H p = none := by
  cases q : B.H p with
  | none => rfl
  | some o =>
    by_cases hm : p ∈ B.μ
    · exact absurd h (x.rel.there p (x.gr.p.subset hm))
    · rw [x.gr.h p o q hm] at h; cases h
/-- a new list of the frame's own -/
theorem StOk.own (x : StOk K w B F μ ρ S σ H) {i : Nat} {p : Addr} {c : Cell} (h0 : B.H p = none) (hm : p ∉ μ) (hF : F p = none) (ht : H p ≠ none) (k : CellOk K w F μ H p c) (nw : ∀ (j : Nat) (d : Cell), ρ[j]? = some (some (.own d)) → σ[j]? ≠ some (some (.ref p))) (hi : i < ρ.length) :
    StOk K w B F μ (ρ.set i (some (.own c))) S (σ.set i (some (.ref p))) H := by
  have hs : i < σ.length := by rw [← x.fr.len]; exact hi
  refine ⟨x.rel, ⟨by simp [x.fr.len], fun j y e => ?_, fun j cc e => ?_, fun j k cc dd a e1 e2 e3 e4 => ?_⟩, x.gr, fun j cc a e1 e2 => ?_⟩
  · by_cases q : j = i
    · subst q
      rw [List.getElem?_set_self hi] at e; cases e
    · rw [List.getElem?_set_ne (Ne.symm q)] at e ⊢
      exact x.fr.r j y e
  · by_cases q : j = i
    · subst q
      rw [List.getElem?_set_self hi] at e; cases e
      exact ⟨p, List.getElem?_set_self hs, hm, hF, ht, k⟩
    · rw [List.getElem?_set_ne (Ne.symm q)] at e ⊢
      exact x.fr.own j cc e
  · by_cases q1 : j = i
    · by_cases q2 : k = i
      · rw [q1, q2]
      · subst q1
        rw [List.getElem?_set_self hs] at e3; cases e3
        rw [List.getElem?_set_ne (Ne.symm q2)] at e2 e4
        exact absurd e4 (nw k dd e2)
    · by_cases q2 : k = i
      · subst q2
        rw [List.getElem?_set_self hs] at e4; cases e4
        rw [List.getElem?_set_ne (Ne.symm q1)] at e1 e3
        exact absurd e3 (nw j cc e1)
      · rw [List.getElem?_set_ne (Ne.symm q1)] at e1 e3
        rw [List.getElem?_set_ne (Ne.symm q2)] at e2 e4
        exact x.fr.dist j k cc dd a e1 e2 e3 e4
  · by_cases q : j = i
    · subst q
      rw [List.getElem?_set_self hs] at e2; cases e2
      exact h0
    · rw [List.getElem?_set_ne (Ne.symm q)] at e1 e2
      exact x.ow j cc a e1 e2
/-- the frame's own list or dict is changed in its place -/
theorem StOk.owned (x : StOk K w B F μ ρ S σ H) {i : Nat} {p : Addr} {c c' : Cell} {o : HO} (e : ρ[i]? = some (some (.own c))) (ev : σ[i]? = some (some (.ref p))) (k : CellOk K w F μ (upd H p o) p c') :
    StOk K w B F μ (ρ.set i (some (.own c'))) S σ (upd H p o) := by
  obtain ⟨p', h1, h2, h3, h4, h5⟩ := x.fr.own i c e
  rw [ev] at h1
  cases h1
  have hi : i < ρ.length := (List.getElem?_eq_some_iff.mp e).1
  have h0 : B.H p = none := x.ow i c p e ev
  have ne : ∀ b u, F b = some u → b ≠ p := fun b u q z => by rw [z, h3] at q; cases q
  have cne : ∀ {q : Addr} {d : Cell}, q ≠ p → CellOk K w F μ H q d → CellOk K w F μ (upd H p o) q d := fun {q d} nq k => by
    cases d with
    | lst ds => obtain ⟨g1, xs, g2, g⟩ := k; exact ⟨g1, xs, by rw [upd_ne nq]; exact g2, g⟩
    | dic kvs => obtain ⟨g1, xs, g2, g⟩ := k; exact ⟨g1, xs, by rw [upd_ne nq]; exact g2, g⟩
    | dit kvs => obtain ⟨g1, o', xs, g2, g⟩ := k; exact ⟨g1, o', xs, by rw [upd_ne nq]; exact g2, g⟩
    | tab x => obtain ⟨g1, e, ps, g2, g⟩ := k; exact ⟨g1, e, ps, by rw [upd_ne nq]; exact g2, g⟩
    | ins C fs => obtain ⟨g1, dx, xs, g2, g⟩ := k; exact ⟨g1, dx, xs, by rw [upd_ne nq]; exact g2, g⟩
    | frz x => exact k
  refine ⟨⟨fun b u q => by rw [upd_ne (ne b u q)]; exact x.rel.le b u q, x.rel.nd, x.rel.len, fun a ha => ?_, fun n a d e1 e2 => ?_⟩, ⟨by simp [x.fr.len], fun j y e1 => ?_, fun j cc e1 => ?_, fun j k cc dd a e1 e2 e3 e4 => ?_⟩, ?_, fun j cc a e1 e2 => ?_⟩
  · rw [upd_ne (fun z => h2 (by rw [← z]; exact ha))]; exact x.rel.there a ha
  · exact cne (fun z => h2 (by rw [← z]; exact List.mem_of_getElem? e1)) (x.rel.cell n a d e1 e2)
  · by_cases q : j = i
    · subst q
      rw [List.getElem?_set_self hi] at e1; cases e1
    · rw [List.getElem?_set_ne (Ne.symm q)] at e1
      exact x.fr.r j y e1
  · by_cases q : j = i
    · subst q
      rw [List.getElem?_set_self hi] at e1; cases e1
      exact ⟨p, ev, h2, h3, (by rw [upd_same]; exact fun z => nomatch z), k⟩
    · rw [List.getElem?_set_ne (Ne.symm q)] at e1
      obtain ⟨a, g1, g2, g3, g4, g5⟩ := x.fr.own j cc e1
      have na : a ≠ p := fun z => q (x.fr.dist j i cc c a e1 e g1 (by rw [z]; exact ev))
      exact ⟨a, g1, g2, g3, by rw [upd_ne na]; exact g4, cne na g5⟩
  · have get : ∀ {j : Nat} {d : Cell}, (ρ.set i (some (.own c')))[j]? = some (some (.own d)) → ∃ d', ρ[j]? = some (some (.own d')) := fun {j d} e1 => by
      by_cases q : j = i
      · subst q; exact ⟨c, e⟩
      · rw [List.getElem?_set_ne (Ne.symm q)] at e1; exact ⟨d, e1⟩
    obtain ⟨d1, g1⟩ := get e1
    obtain ⟨d2, g2⟩ := get e2
    exact x.fr.dist j k d1 d2 a g1 g2 e3 e4
  · refine ⟨x.gr.f, x.gr.p, fun a u q hm => ?_, x.gr.nf, x.gr.nm⟩
    rw [upd_ne (fun z => by rw [z, h0] at q; cases q)]
    exact x.gr.h a u q hm
  · have : ∃ d', ρ[j]? = some (some (.own d')) := by
      by_cases q : j = i
      · subst q; exact ⟨c, e⟩
      · rw [List.getElem?_set_ne (Ne.symm q)] at e1; exact ⟨cc, e1⟩
    obtain ⟨d', g⟩ := this
    exact x.ow j d' a g e2
end

section
variable {X : Cx} {W : WX} {st : Stmt} {rest : List Stmt} {m n : SM} {e : Expr} {me : EM} {pos : Pos} {mt : TM}
theorem mss_nil : MSs X W [] nxM := PSs.imp pss_nil fun D σ H ⟨B, F, μ, ρ, S, h1, h2⟩ => h2.nx h1
theorem tS_seq {K : PySem.W.Frag} {w : World} {D : Ends} {σ : L2.St} {H : Hp} (h : tS K w W (seqM m n) D σ H) : tS K w W m { D with nx := tS K w W n D } σ H := by
  obtain ⟨B, F, μ, ρ, S, h1, fl, ρ', S', h2, h3⟩ := h
  refine ⟨B, F, μ, ρ, S, h1, ?_⟩
  unfold seqM at h2
  split at h2
  · rename_i ρ1 S1 q
    exact ⟨.nx, ρ1, S1, q, fun F' μ' σ' H' e x => ⟨B, F', μ', ρ1, S1, x, flowAt.mono e ⟨fl, ρ', S', h2, h3⟩⟩⟩
  · rename_i r nn
    refine ⟨fl, ρ', S', h2, fun F' μ' σ' H' e x => ?_⟩
    have := h3 F' μ' σ' H' e x
    cases fl with
    | nx => exact absurd h2 (nn _ _)
    | rt r => exact this
    | bk => exact this
    | ct => exact this
    | ex c fs => exact this
theorem mss_cons (h1 : MS X W st m) (h2 : MSs X W rest n) : MSs X W (st :: rest) (seqM m n) := PSs.imp (pss_cons h1 h2) fun D σ H h => tS_seq h
theorem mss_one (h1 : MS X W st m) : MSs X W [st] m := pss_one h1
theorem flowAt.bk {K : PySem.W.Frag} {w : World} {F H : Hp} {μ : List Addr} {S : Sto} {ρ : Fr} {σ : L2.St} {D : Ends} {B : Bs} (h : flowAt K w W (some (.bk, ρ, S)) B F D) (x : StOk K w B F μ ρ S σ H) : D.bk σ H := by
  obtain ⟨fl, ρ', S', h1, h2⟩ := h
  cases h1
  exact h2 F μ σ H (Same.refl _) x
theorem flowAt.ct {K : PySem.W.Frag} {w : World} {F H : Hp} {μ : List Addr} {S : Sto} {ρ : Fr} {σ : L2.St} {D : Ends} {B : Bs} (h : flowAt K w W (some (.ct, ρ, S)) B F D) (x : StOk K w B F μ ρ S σ H) : D.ct σ H := by
  obtain ⟨fl, ρ', S', h1, h2⟩ := h
  cases h1
  exact h2 F μ σ H (Same.refl _) x
theorem flowAt.rt {K : PySem.W.Frag} {w : World} {F H : Hp} {μ : List Addr} {S : Sto} {ρ : Fr} {σ : L2.St} {D : Ends} {B : Bs} {r : R} {v : V} (h : flowAt K w W (some (.rt r, ρ, S)) B F D) (x : StOk K w B F μ ρ S σ H) (q : RepR K w F μ σ r v) : D.rt v H := by
  obtain ⟨fl, ρ', S', h1, h2⟩ := h
  cases h1
  exact h2 F μ σ H (Same.refl _) x v q
theorem ms_set (i : Nat) {x : Str} {pos' : Pos} (hN : X.N.Nodup) (he : ME X W e me) (hi : X.N[i]? = some x := by rfl) (hx : Loc X.env.scope x := by first | exact Or.inl rfl | exact Or.inr rfl)
    (hs : swapsWith e (some (.Name x pos')) pos.line X.env = pure false := by rfl) (hf : X.fn x = true ∨ X.env.scope.names.lookup x = some .local := by first | exact .inl rfl | exact .inr rfl | assumption) : MS X W (.Assign [.Name x pos'] e pos) (setM i me) :=
  PS.imp (ps_set hN hi hx he hs hf) fun D σ H h => (flow_then (Ra := fun σ F μ => RepR X.K X.w F μ σ) h).imp fun v H1 ⟨r, B, F, μ, ρ, S, h1, h2, h3⟩ => by
    unfold setR at h3
    by_cases c : closedR r = true ∧ i < ρ.length
    · rw [if_pos c] at h3
      exact h3.nx (h1.set h2 c.1 c.2)
    · rw [if_neg c] at h3; exact h3.none_
theorem ms_expr (he : ME X W e me) (hs : swapsWith e none pos.line X.env = pure false := by rfl) : MS X W (.Expr e pos) (dropM me) :=
  PS.imp (ps_expr he hs) fun D σ H h => (flow_then (Ra := fun σ F μ => RepR X.K X.w F μ σ) h).imp fun v H1 ⟨r, B, F, μ, ρ, S, h1, h2, h3⟩ => h3.nx h1
theorem ms_ret (he : ME X W e me) : MS X W (.Return (some e) pos) (retM me) :=
  PS.imp (ps_ret he) fun D σ H h => (flow_then (Ra := fun σ F μ => RepR X.K X.w F μ σ) h).imp fun v H1 ⟨r, B, F, μ, ρ, S, h1, h2, h3⟩ => h3.rt h1 h2
theorem ms_if {c : Expr} {a b : List Stmt} (hc : MT X W c mt) (ha : MSs X W a m) (hb : MSs X W b n) : MS X W (.If c a b pos) (ifM mt m n) :=
  PS.imp (ps_if hc ha hb) fun D σ H h => (flow_then (Ra := RB) h).imp fun v H1 ⟨r, B, F, μ, ρ, S, h1, h2, h3⟩ => by
    obtain rfl := h2
    cases r with
    | true => exact ⟨B, F, μ, ρ, S, h1, h3⟩
    | false => exact ⟨B, F, μ, ρ, S, h1, h3⟩
/-! new lists -/
def tN (K : PySem.W.Frag) (w : World) (W : WX) (m : NM) : TE := fun σ H Q => ∃ F μ ρ S, Rel K w F μ S H ∧ RelFr K w F μ H ρ σ ∧ ∃ o S', m ρ S = some (o, S') ∧ match o with
  | .ok ds => ∀ F' μ' H' p xs, Grow F H F' H' μ μ' → Rel K w F' μ' S' H' → H' p = some (.lst xs) → F' p = none → p ∉ μ' → H p = none → RepAll K w F' ds xs → Q (.ref p) H'
  | .ex c fs => ∀ F' μ' H' d, Grow F H F' H' μ μ' → Rel K w F' μ' S' H' → ExD K w F' d fs → W (.ref (He.ga K c)) d σ H'
abbrev MN (X : Cx) (W : WX) (e : Expr) (m : NM) : Prop := PE X e (tN X.K X.w W m)
/-- .. and is frozen at once -/
theorem me_new {m : NM} (h : MN X W e m) : ME X W e (ofNew m) := PE.imp h fun σ H Q ⟨F, μ, ρ, S, h1, h2, o, S', h3, h4⟩ => by
  refine ⟨F, μ, ρ, S, h1, h2, ?_⟩
  unfold ofNew bindM at h3
  cases q : m ρ S with
  | none => rw [q] at h3; cases h3
  | some r =>
    obtain ⟨o1, S1⟩ := r
    rw [q] at h3
    cases o1 with
    | ex c fs => cases h3; exact ⟨_, _, rfl, h4⟩
    | ok ds =>
      cases h3
      refine ⟨.ok ds, _, rfl, fun F' μ' H' p xs g r hp hF hm h0 ra => ?_⟩
      obtain ⟨z1, z2⟩ := Step.fz r.le hp hF
      have st : Step F' H' (upd F' p (.lst xs)) H' ∨ True := .inr trivial
      have gr : Grow F H (upd F' p (.lst xs)) H' μ μ' := ⟨g.f.trans z2, g.p, g.h, fun a q1 q2 q3 => by
        by_cases e : a = p
        · rw [e]; exact h0
        · rw [upd_ne e] at q1; exact g.nf a q1 q2 q3, g.nm⟩
      refine h4 _ μ' H' _ gr ⟨z1, r.nd, r.len, r.there, fun n a c q1 q2 => ?_⟩ (Rep.lst upd_same (ra.mono z2))
      have na : a ≠ p := fun z => hm (by rw [← z]; exact List.mem_of_getElem? q1)
      have k := r.cell n a c q1 q2
      have nf : ∀ {P : Prop}, F' a = none ∧ P → upd F' p (.lst xs) a = none := fun z => by rw [upd_ne na]; exact z.1
      cases c with
      | lst ds => exact ⟨nf k, k.2.imp fun xs g => ⟨g.1, g.2.mono z2⟩⟩
      | dic kvs => exact ⟨nf k, k.2.imp fun xs g => ⟨g.1, g.2.mono z2⟩⟩
      | dit kvs => exact ⟨nf k, k.2.imp fun o' g => g.imp fun xs g => ⟨g.1, g.2.1.mono z2, g.2.2⟩⟩
      | tab x => exact ⟨nf k, k.2.1, k.2.2.imp fun ps g => ⟨g.1, g.2.1, fun pos cv q => (g.2.2 pos cv q).imp fun c z => ⟨z.1, z2 _ _ z.2⟩⟩⟩
      | ins C fs => exact ⟨nf k, k.2.imp fun dx g => g.imp fun xs g => ⟨g.1, g.2.mono z2 List.prefix_rfl⟩⟩
      | frz x => exact Rep.mono z2 k
theorem Rel.fresh {K : PySem.W.Frag} {w : World} {F H : Hp} {μ : List Addr} {S : Sto} (r : Rel K w F μ S H) {p : Addr} (h : H p = none) : F p = none ∧ p ∉ μ := ⟨r.le.free h, fun hm => r.there p hm h⟩
/-- from a rule that lays a new list -/
theorem tN_laid {K : PySem.W.Frag} {w : World} {H : Hp} {Q : VK} {F : Hp} {μ : List Addr} {S S' : Sto} {ds : List D} {xs : List V} {p : Addr} {H1 F1 : Hp} {μ1 : List Addr} (g : Grow F H F1 H1 μ μ1) (r1 : Rel K w F1 μ1 S' H1) (hp : H1 p = none) (ra : RepAll K w F1 ds xs)
    (k : ∀ F' μ' H' p xs, Grow F H F' H' μ μ' → Rel K w F' μ' S' H' → H' p = some (.lst xs) → F' p = none → p ∉ μ' → H p = none → RepAll K w F' ds xs → Q (.ref p) H') (r : Rel K w F μ S H) : Q (.ref p) (upd H1 p (.lst xs)) := by
  obtain ⟨f1, f2⟩ := r1.fresh hp
  have st : Step F1 H1 F1 (upd H1 p (.lst xs)) := ⟨Same.refl _, same_upd hp, r1.le.trans (same_upd hp), fun _ h1 h2 => absurd h2 h1⟩
  refine k F1 μ1 _ p xs (g.trans st.grow) (r1.step st) upd_same f1 f2 ?_ ra
  cases q : H p with
  | none => rfl
  | some o =>
    by_cases hm : p ∈ μ
    · exact absurd (g.p.subset hm) f2
    · rw [g.h p o q hm] at hp; cases hp
theorem mn_lst {es : List Expr} {ms : AM} (ha : MA X W es ms) : MN X W (.List es pos) (newR ms) :=
  PE.imp (pe_lst ha) fun σ H Q ⟨F, μ, ρ, S, h1, h2, o, S', h3, h4⟩ => by
    refine ⟨F, μ, ρ, S, h1, h2, ?_⟩
    unfold newR bindM at h3
    cases q : ms ρ S with
    | none => rw [q] at h3; cases h3
    | some r =>
      obtain ⟨o1, S1⟩ := r
      rw [q] at h3
      cases o1 with
      | ex c fs => cases h3; exact ⟨_, _, rfl, h4⟩
      | ok as =>
        refine ⟨.ok as, S1, rfl, fun F' μ' H' vs g r z => ?_⟩
        cases q2 : dsOf as with
        | none => simp [q2] at h3
        | some ds =>
          simp only [q2] at h3
          have ra := dsOf_rep z q2
          by_cases c : ds.length ≤ sizeLine
          · rw [if_pos c] at h3
            cases h3
            exact ⟨by rw [← ra.length]; exact c, fun p hp => tN_laid g r hp ra h4 h1⟩
          · rw [if_neg c] at h3; cases h3
theorem ms_own (i : Nat) {x : Str} {pos' : Pos} {m : NM} (hN : X.N.Nodup) (he : MN X W e m) (hi : X.N[i]? = some x := by rfl) (hx : Loc X.env.scope x := by first | exact Or.inl rfl | exact Or.inr rfl)
    (hs : swapsWith e (some (.Name x pos')) pos.line X.env = pure false := by rfl) (hf : X.fn x = true ∨ X.env.scope.names.lookup x = some .local := by first | exact .inl rfl | exact .inr rfl | assumption) : MS X W (.Assign [.Name x pos'] e pos) (ownM i m) :=
  PS.imp (ps_set hN hi hx he hs hf) fun D σ H ⟨B, F, μ, ρ, S, h1, fl, ρ', S', h2, h3⟩ => by
    refine ⟨F, μ, ρ, S, h1.rel, h1.fr, ?_⟩
    unfold ownM thenM at h2
    cases q : m ρ S with
    | none => rw [q] at h2; cases h2
    | some r =>
      obtain ⟨o1, S1⟩ := r
      rw [q] at h2
      cases o1 with
      | ex c fs => cases h2; exact ⟨_, _, rfl, fun F' μ' H' d g r z => h3 F' μ' σ H' g.f (h1.grow g r) d z⟩
      | ok ds =>
        refine ⟨.ok ds, S1, rfl, fun F' μ' H' p xs g r hp hF hm h0 ra => ?_⟩
        by_cases c : i < ρ.length
        · simp only [c, if_true] at h2
          cases h2
          have y := h1.grow g r
          refine h3 F' μ' _ H' g.f (y.own (h1.fresh h0) hm hF (by rw [hp]; exact fun z => nomatch z) ⟨hF, xs, hp, ra⟩ (fun j d e1 e2 => ?_) c)
          obtain ⟨a, g1, g2, g3, g4, g5⟩ := h1.fr.own j d e1
          rw [g1] at e2
          cases e2
          exact g4 h0
        · simp only [c, if_false] at h2; cases h2
end
end MM
namespace MM
open PySem PySem.Spec PyProof.Rows L2

/-! ### lists and dicts that are changed -/
def cellAt (ρ : Fr) (S : Sto) : R → Option Cell
  | .slot i => match ρ[i]? with
    | some (some (.own c)) => some c
    | _ => none
  | .loc n => S[n]?
  | .d _ => none
def putFr (ρ : Fr) (r : R) (c : Cell) : Fr := match r with
  | .slot i => ρ.set i (some (.own c))
  | _ => ρ
def putSto (S : Sto) (r : R) (c : Cell) : Sto := match r with
  | .loc n => S.set n c
  | _ => S
def liveC : Cell → Bool
  | .frz _ => false
  | _ => true
section
variable {K : PySem.W.Frag} {w : World} {W : WX} {F F' H H' : Hp} {μ μ' : List Addr} {S S' : Sto} {ρ : Fr} {σ : L2.St} {B : Bs}
theorem live_free {a : Addr} {c : Cell} (k : CellOk K w F μ H a c) (l : liveC c = true) : F a = none := by
  cases c with
  | frz x => cases l
  | lst ds => exact k.1
  | dic ds => exact k.1
  | dit ds => exact k.1
  | tab x => exact k.1
  | ins C ds => exact k.1
theorem RelFr.loc_put (fr : RelFr K w F μ H ρ σ) {n : Nat} {a : Addr} {o : HO} (hn : μ[n]? = some a) : RelFr K w F μ (upd H a o) ρ σ := by
  exact fr.grow (Grow.put o hn)
theorem StOk.mut (x : StOk K w B F μ ρ S σ H) {r : R} {v : V} {c : Cell} (h : RepR K w F μ σ r v) (e : cellAt ρ S r = some c) (l : liveC c = true) :
    ∃ a, v = .ref a ∧ CellOk K w F μ H a c ∧ ∀ c' o, CellOk K w F μ (upd H a o) a c' → StOk K w B F μ (putFr ρ r c') (putSto S r c') σ (upd H a o) := by
  cases r with
  | d y => cases e
  | loc n =>
    obtain ⟨a, h1, rfl⟩ := h
    have k := x.rel.cell n a c h1 e
    have hF := live_free k l
    exact ⟨a, rfl, k, fun c' o k' => ⟨x.rel.put h1 hF k', x.fr.loc_put h1, x.gr.trans (Grow.put o h1), x.ow⟩⟩
  | slot i =>
    unfold cellAt at e
    cases q : ρ[i]? with
    | none => simp [q] at e
    | some en =>
      cases en with
      | none => simp [q] at e
      | some en =>
        cases en with
        | r y => simp [q] at e
        | own c2 =>
          simp only [q, Option.some.injEq] at e
          subst e
          obtain ⟨a, h1, h2, h3, h4, h5⟩ := x.fr.own i c2 q
          have hv : σ[i]? = some (some v) := h
          rw [h1] at hv
          cases hv
          exact ⟨a, rfl, h5, fun c' o k' => x.owned q h1 k'⟩
end
/-- a list is changed in place -/
def mutL (r : R) (f : List D → Option (List D)) : SM := fun ρ S => match cellAt ρ S r with
  | some (.lst ds) => match f ds with
    | some es => some (.nx, putFr ρ r (.lst es), putSto S r (.lst es))
    | none => none
  | _ => none
/-- a receiver that is a list of our own to be changed -/
def isLst (r : R) : EM := fun ρ S => match cellAt ρ S r with
  | some (.lst _) => some (.ok r, S)
  | _ => none
def lstR (mo : EM) : EM := bindM mo isLst
def appD (a : R) (ds : List D) : Option (List D) := match a with
  | .d x => if ds.length < sizeLine then some (ds ++ [x]) else none
  | _ => none
def appM (mo me : EM) : SM := thenM (lstR mo) fun o => thenM me fun a => mutL o (appD a)
def setD (i a : R) (ds : List D) : Option (List D) := match i, a with
  | .d (.int k), .d x => (ixN ds.length k).map fun j => ds.set j x
  | _, _ => none
/-- o[i] = e for a list: e first -/
def setIxM (me mo mi : EM) : SM := thenM me fun a => thenM mo fun o => thenM mi fun i => mutL o (setD i a)
def popD (ds : List D) : Option (List D) := match ds[ds.length - 1]? with
  | some _ => some ds.dropLast
  | none => none
/-- o.pop() as a statement -/
def popM (mo : EM) : SM := thenM (lstR mo) fun o => mutL o popD
def insD (i a : R) (ds : List D) : Option (List D) := match i, a with
  | .d (.int k), .d x => if ds.length < sizeLine ∧ 0 ≤ k ∧ k < 2 ^ 63 then some (ds.take k.toNat ++ x :: ds.drop k.toNat) else none
  | _, _ => none
def insM (mo mi me : EM) : SM := thenM (lstR mo) fun o => thenM mi fun i => thenM me fun a => mutL o (insD i a)
section
variable {X : Cx} {W : WX} {e o i : Expr} {me mo mi : EM} {pos : Pos}
theorem flow_then2 {α β : Type} {K : PySem.W.Frag} {w : World} {En : Ends} {σ : L2.St} {H : Hp} {m : EM} {n : GM α} {Rb : L2.St → Hp → List Addr → α → β → Prop} {f : R → α → SM} (h : tS K w W (thenM m fun a => thenM n fun b => f a b) En σ H) :
    core K w (fun σ F μ => RepR K w F μ σ) W m σ H (fun x H1 => core K w Rb W n σ H1 fun y H2 => ∃ a b B F μ ρ S, StOk K w B F μ ρ S σ H2 ∧ RepR K w F μ σ a x ∧ Rb σ F μ b y ∧ flowAt K w W (f a b ρ S) B F En) := by
  refine (flow_then (Ra := fun σ F μ => RepR K w F μ σ) h).imp fun x H1 ⟨a, B, F, μ, ρ, S, h1, h2, fl, ρ', S', h3, h4⟩ => ?_
  refine ⟨F, μ, ρ, S, h1.rel, h1.fr, ?_⟩
  unfold thenM at h3
  cases q : n ρ S with
  | none => rw [q] at h3; cases h3
  | some r =>
    obtain ⟨o1, S1⟩ := r
    rw [q] at h3
    cases o1 with
    | ok b => exact ⟨.ok b, S1, rfl, fun F' μ' H' v g r z => ⟨a, b, B, F', μ', ρ, S1, h1.grow g r, h2.mono g.f g.p, z, flowAt.mono g.f ⟨fl, ρ', S', h3, h4⟩⟩⟩
    | ex c fs =>
      cases h3
      exact ⟨.ex c fs, _, rfl, fun F' μ' H' d g r z => h4 F' μ' σ H' g.f (h1.grow g r) d z⟩
theorem flow_then3 {K : PySem.W.Frag} {w : World} {En : Ends} {σ : L2.St} {H : Hp} {m n l : EM} {f : R → R → R → SM} (h : tS K w W (thenM m fun a => thenM n fun b => thenM l fun c => f a b c) En σ H) :
    tE K w W m σ H (fun x H1 => tE K w W n σ H1 fun y H2 => tE K w W l σ H2 fun z H3 => ∃ a b c B F μ ρ S, StOk K w B F μ ρ S σ H3 ∧ RepR K w F μ σ a x ∧ RepR K w F μ σ b y ∧ RepR K w F μ σ c z ∧ flowAt K w W (f a b c ρ S) B F En) := by
  refine (flow_then2 (Rb := fun σ F μ => RepR K w F μ σ) h).imp fun x H1 h => core.imp h fun y H2 ⟨a, b, B, F, μ, ρ, S, h1, h2, h2', fl, ρ', S', h3, h4⟩ => ?_
  refine ⟨F, μ, ρ, S, h1.rel, h1.fr, ?_⟩
  unfold thenM at h3
  cases q : l ρ S with
  | none => rw [q] at h3; cases h3
  | some r =>
    obtain ⟨o1, S1⟩ := r
    rw [q] at h3
    cases o1 with
    | ok c => exact ⟨.ok c, S1, rfl, fun F' μ' H' v g r z => ⟨a, b, c, B, F', μ', ρ, S1, h1.grow g r, h2.mono g.f g.p, h2'.mono g.f g.p, z, flowAt.mono g.f ⟨fl, ρ', S', h3, h4⟩⟩⟩
    | ex c fs =>
      cases h3
      exact ⟨.ex c fs, _, rfl, fun F' μ' H' d g r z => h4 F' μ' σ H' g.f (h1.grow g r) d z⟩
theorem flow_mutL {K : PySem.W.Frag} {w : World} {En : Ends} {σ : L2.St} {H F : Hp} {μ : List Addr} {ρ : Fr} {S : Sto} {B : Bs} {r : R} {v : V} {f : List D → Option (List D)} (x : StOk K w B F μ ρ S σ H) (h : RepR K w F μ σ r v) (k : flowAt K w W (mutL r f ρ S) B F En) :
    ∃ a xs ds es, v = .ref a ∧ H a = some (.lst xs) ∧ RepAll K w F ds xs ∧ f ds = some es ∧ ∀ ys, RepAll K w F es ys → En.nx σ (upd H a (.lst ys)) := by
  unfold mutL at k
  cases q : cellAt ρ S r with
  | none => simp only [q] at k; exact k.none_
  | some c =>
    cases c with
    | lst ds =>
      simp only [q] at k
      cases q2 : f ds with
      | none => simp only [q2] at k; exact k.none_
      | some es =>
        simp only [q2] at k
        obtain ⟨a, rfl, ⟨hF, xs, hx, ra⟩, put⟩ := x.mut h q rfl
        exact ⟨a, xs, ds, es, rfl, hx, ra, q2, fun ys ry => k.nx (put (.lst es) (.lst ys) ⟨hF, ys, upd_same, ry⟩)⟩
    | dic ds => simp only [q] at k; exact k.none_
    | dit ds => simp only [q] at k; exact k.none_
    | tab x => simp only [q] at k; exact k.none_
    | ins C ds => simp only [q] at k; exact k.none_
    | frz ds => simp only [q] at k; exact k.none_
theorem tyL {K : PySem.W.Frag} {H : Hp} {a : Addr} {xs : List V} (h : H a = some (.lst xs)) : tyV K "list" (.ref a) H := .inl ⟨rfl, _, SqL.of h⟩
theorem isLst_ok {K : PySem.W.Frag} {w : World} {σ : L2.St} {H : Hp} {Q : VK} (h : tE K w W (lstR mo) σ H Q) : tE K w W mo σ H (fun x H1 => tyV K "list" x H1 ∧ Q x H1) := by
  refine (core_bind (Ra := fun σ F μ => RepR K w F μ σ) h).imp fun x H1 ⟨r, F, μ, ρ, S, h1, h2, h3, h4⟩ => ?_
  unfold isLst at h4
  cases q : cellAt ρ S r with
  | none => simp only [q] at h4; exact h4.none_
  | some c =>
    cases c with
    | lst ds =>
      simp only [q] at h4
      have hx : ∃ a xs, x = .ref a ∧ H1 a = some (.lst xs) := by
        cases r with
        | d y => cases q
        | loc n =>
          obtain ⟨a, k1, rfl⟩ := h3
          obtain ⟨_, xs, k2, _⟩ := h1.cell n a _ k1 q
          exact ⟨a, xs, rfl, k2⟩
        | slot i =>
          unfold cellAt at q
          cases q1 : ρ[i]? with
          | none => simp [q1] at q
          | some en =>
            cases en with
            | none => simp [q1] at q
            | some en =>
              cases en with
              | r y => simp [q1] at q
              | own c2 =>
                simp only [q1, Option.some.injEq] at q
                subst q
                obtain ⟨a, k1, _, _, _, _, xs, k2, _⟩ := h2.own i _ q1
                have hv : σ[i]? = some (some x) := h3
                rw [k1] at hv
                cases hv
                exact ⟨a, xs, rfl, k2⟩
      obtain ⟨a, xs, rfl, hx⟩ := hx
      exact ⟨tyL hx, h4.ok .refl h1 h3⟩
    | dic ds => simp only [q] at h4; exact h4.none_
    | dit ds => simp only [q] at h4; exact h4.none_
    | tab x => simp only [q] at h4; exact h4.none_
    | ins C ds => simp only [q] at h4; exact h4.none_
    | frz ds => simp only [q] at h4; exact h4.none_
/-- o.append(e) -/
theorem ms_app {apos cpos : Pos} (ho : ME X W o mo) (he : ME X W e me) (hbase : attributeBase o "append" X.env (eval o X.env) = eval o X.env := by rfl)
    (hfew : ((backTo cpos (starEach [e] X.env)).all (fun x => !x.1) && (backToKw cpos (keywordEach [] X.env)).all (fun x => x.1.isSome) && decide ([e].length + ([] : List Keyword).length + (if ([] : List Keyword).isEmpty then 0 else 1) < 30)) = true := by rfl)
    (hline : (apos.endLine == cpos.line) = true := by rfl) (hs : starEach [e] X.env = (false, eval e X.env) :: starEach [] X.env := by rfl) (hplain : (backTo cpos (starEach [] X.env)).any (·.1) = false := by rfl)
    (hsw : swapsWith (.Call (.Attribute o "append" apos) [e] [] cpos) none pos.line X.env = pure false := by rfl) : MS X W (.Expr (.Call (.Attribute o "append" apos) [e] [] cpos) pos) (appM mo me) :=
  PS.imp (ps_expr (pe_bm PySem.F.plainAttrs_list PySem.F.slot_list_append PySem.F.type_list_append mt_append ho (pa_cons he pa_nil hs) hbase hfew hline hs hplain) hsw) fun En σ H h => by
    refine isLst_ok (flow_then2 (Rb := fun σ F μ => RepR X.K X.w F μ σ) h |>.imp fun x H1 h => ?_)
    exact core.imp h fun y H2 ⟨a, b, B, F, μ, ρ, S, h1, h2, h3, h4⟩ => by
      obtain ⟨p, xs, ds, es, rfl, hx, ra, hf, k⟩ := flow_mutL h1 h2 h4
      unfold appD at hf
      split at hf
      · rename_i z
        by_cases c : ds.length < sizeLine
        · rw [if_pos c] at hf
          cases hf
          exact ⟨p, xs, y, rfl, rfl, hx, by rw [← ra.length]; exact c, k _ (ra.append (.cons h3 .nil))⟩
        · rw [if_neg c] at hf; cases hf
      · cases hf
/-- o.pop() -/
theorem ms_pop {apos cpos : Pos} (ho : ME X W o mo) (hbase : attributeBase o "pop" X.env (eval o X.env) = eval o X.env := by rfl)
    (hline : (apos.endLine == cpos.line) = true := by rfl) (hsw : swapsWith (.Call (.Attribute o "pop" apos) [] [] cpos) none pos.line X.env = pure false := by rfl) : MS X W (.Expr (.Call (.Attribute o "pop" apos) [] [] cpos) pos) (popM mo) :=
  PS.imp (ps_expr (pe_bm0 PySem.F.plainAttrs_list PySem.F.slot_list_pop PySem.F.type_list_pop mt_pop ho hbase hline) hsw) fun En σ H h => by
    refine isLst_ok ((flow_then (Ra := fun σ F μ => RepR X.K X.w F μ σ) h).imp fun x H1 ⟨a, B, F, μ, ρ, S, h1, h2, h3⟩ => ?_)
    obtain ⟨p, xs, ds, es, rfl, hx, ra, hf, k⟩ := flow_mutL h1 h2 h3
    unfold popD at hf
    split at hf
    · rename_i d q
      cases hf
      obtain ⟨v, q2, _⟩ := ra.get q
      exact ⟨p, xs, v, rfl, rfl, hx, by rw [← ra.length]; exact q2, k _ ra.dropLast⟩
    · cases hf
/-- o[i] = e -/
theorem ms_setIx {p2 : Pos} (he : ME X W e me) (ho : ME X W o mo) (hi : ME X W i mi)
    (ha : ∀ v, assign (.Subscript o i p2) X.env v = (do
      let ov ← holding [v] (eval o X.env)
      let iv ← holding [v, ov] (eval i X.env)
      standAt p2
      holding [v, ov, iv] (setItem ov iv v)
      release [v, ov, iv] []) := by intro _; rfl) (hs : swapsWithSole [.Subscript o i p2] e pos.line X.env = pure false := by rfl) (hw : swappedStores [.Subscript o i p2] e X.env = pure none := by rfl)
    (h1 : (assignEach [.Subscript o i p2] X.env).map (·.2) = [assign (.Subscript o i p2) X.env] := by rfl) : MS X W (.Assign [.Subscript o i p2] e pos) (setIxM me mo mi) :=
  PS.imp (ps_asg he (pg_sub ho hi set_list ha) hs hw h1) fun En σ H h => (flow_then3 h).imp fun x H1 h => core.imp h fun y H2 h => core.imp h fun z H3 ⟨a, b, c, B, F, μ, ρ, S, h1, h2, h3, h4, h5⟩ => by
    obtain ⟨p, xs, ds, es, rfl, hx, ra, hf, k⟩ := flow_mutL h1 h3 h5
    unfold setD at hf
    split at hf
    · rename_i kk xx
      obtain ⟨j, q, rfl⟩ := Option.map_eq_some_iff.mp hf
      cases h4
      exact ⟨p, xs, kk, j, rfl, rfl, hx, by rw [← ra.length]; exact q, k _ (RepAll.set h2 j ra)⟩
    · cases hf
end
end MM
namespace MM
open PySem PySem.Spec PyProof.Rows L2

/-! ### what is walked -/
def YG (K : PySem.W.Frag) (w : World) (F : Hp) (ds : List D) : Nat → Hp → V → Hp → Prop := fun i H x H' =>
  ∃ d, ds[i]? = some d ∧ ∀ F2, Same F F2 → Same F2 H → ∃ F3, Step F2 H F3 H' ∧ Rep K w F3 d x
def GoodJ (K : PySem.W.Frag) (w : World) (F : Hp) (ds : List D) (J : It) : Prop := Walk J ds.length (fun H => Same F H) (YG K w F ds)
def iM (K : PySem.W.Frag) (w : World) (W : WX) (m : NM) : TI := fun σ H R => ∃ F μ ρ S, Rel K w F μ S H ∧ RelFr K w F μ H ρ σ ∧ ∃ o S', m ρ S = some (o, S') ∧ match o with
  | .ok ds => ∀ F' μ' H' J, Grow F H F' H' μ μ' → Rel K w F' μ' S' H' → GoodJ K w F' ds J → R J H'
  | .ex c fs => ∀ F' μ' H' d, Grow F H F' H' μ μ' → Rel K w F' μ' S' H' → ExD K w F' d fs → W (.ref (He.ga K c)) d σ H'
abbrev MI (X : Cx) (W : WX) (tg iter : Expr) (m : NM) : Prop := PI X tg iter (iM X.K X.w W m)
theorem PI_imp {X : Cx} {tg e : Expr} {t t' : TI} (h : PI X tg e t) (g : ∀ σ H R, t' σ H R → t σ H R) : PI X tg e t' := ⟨fun pins s σ H R I q => h.run pins s σ H R I (g σ H R q)⟩
section
variable {K : PySem.W.Frag} {w : World} {F F' H H' : Hp} {ds : List D} {xs : List V} {a : Addr}
theorem good_list (h : F a = some (.lst xs)) (r : RepAll K w F ds xs) : GoodJ K w F ds (Itl K a) := by
  unfold GoodJ
  rw [r.length]
  refine walk_list.mono (fun H e => SqL.of (e _ _ h)) fun i H x H' hi e ⟨h1, h2⟩ => ?_
  obtain ⟨d, q1, q2⟩ := r.get' h2
  subst h1
  exact ⟨d, q1, fun F2 e1 e2 => ⟨F2, Step.refl e2, q2.mono e1⟩⟩
theorem good_tup (h : SqT K F a xs) (r : RepAll K w F ds xs) : GoodJ K w F ds (Itt K a) := by
  unfold GoodJ
  rw [r.length]
  refine walk_tup.mono (fun H e => Same.seqT e h) fun i H x H' hi e ⟨h1, h2⟩ => ?_
  obtain ⟨d, q1, q2⟩ := r.get' h2
  subst h1
  exact ⟨d, q1, fun F2 e1 e2 => ⟨F2, Step.refl e2, q2.mono e1⟩⟩
def rngL (lo : Int) (n : Nat) : List D := (List.range n).map fun (i : Nat) => D.int (lo + (i : Int))
theorem good_range {lo : Int} {n : Nat} : GoodJ K w F (rngL lo n) (Itr lo n) := by
  unfold GoodJ
  have hl : (rngL lo n).length = n := by simp [rngL]
  rw [hl]
  refine walk_range.mono (fun _ _ => trivial) fun i H x H' hi e ⟨h1, h2⟩ => ?_
  subst h1 h2
  exact ⟨.int (lo + (i : Int)), by simp [rngL, hi], fun F2 e1 e2 => ⟨F2, Step.refl e2, .int _⟩⟩
/-- a new pair -/
theorem pair_step {F2 : Hp} {T : Addr} {x y : V} {d e : D} (le : Same F2 H) (hT : H T = none) (h1 : Rep K w F2 d x) (h2 : Rep K w F2 e y) : ∃ F3, Step F2 H F3 (upd H T (.tup [x, y])) ∧ Rep K w F3 (.tup [d, e]) (.ref T) := by
  have st := Step.new1 le hT (.tup [x, y])
  exact ⟨_, st, .tup (.inl (.inl upd_same)) (.cons (h1.mono st.f) (.cons (h2.mono st.f) .nil))⟩
def enumL (ds : List D) : List D := ds.mapIdx fun i d => D.tup [.int (i : Int), d]
theorem good_enum (h : F a = some (.lst xs)) (r : RepAll K w F ds xs) : GoodJ K w F (enumL ds) (Ite K a) := by
  unfold GoodJ
  have hl : (enumL ds).length = xs.length := by simp [enumL, r.length]
  rw [hl]
  refine walk_enum.mono (fun H e => SqL.of (e _ _ h)) fun i H x H' hi e ⟨T, u, v, h1, h2, h3, h4, h5⟩ => ?_
  obtain ⟨d, q1, q2⟩ := r.get' h5
  cases h4
  rw [h1, h3]
  exact ⟨.tup [.int (i : Int), d], by simp [enumL, q1], fun F2 e1 e2 => pair_step e2 h2 (.int _) (q2.mono e1)⟩
def zipL (ds es : List D) : List D := List.zipWith (fun d e => D.tup [d, e]) ds es
theorem good_zip {b : Addr} {ys : List V} {es : List D} (h : F a = some (.lst xs)) (r : RepAll K w F ds xs) (h' : F b = some (.lst ys)) (r' : RepAll K w F es ys) : GoodJ K w F (zipL ds es) (Itz K a b) := by
  unfold GoodJ
  have hl : (zipL ds es).length = min xs.length ys.length := by simp [zipL, r.length, r'.length]
  rw [hl]
  refine (walk_zip (K := K) (a := a) (b := b) (xs := xs) (ys := ys) rfl).mono (fun H e => ⟨SqL.of (e _ _ h), SqL.of (e _ _ h')⟩) fun i H x H' hi e ⟨T, u, v, h1, h2, h3, h4, h5⟩ => ?_
  obtain ⟨d, q1, q2⟩ := r.get' h4
  obtain ⟨d', q1', q2'⟩ := r'.get' h5
  rw [h1, h3]
  exact ⟨.tup [d, d'], by simp [zipL, List.getElem?_zipWith, q1, q1'], fun F2 e1 e2 => pair_step e2 h2 (q2.mono e1) (q2'.mono e1)⟩
theorem good_zipT {b : Addr} {ys : List V} {es : List D} (h : SqT K F a xs) (r : RepAll K w F ds xs) (h' : SqT K F b ys) (r' : RepAll K w F es ys) : GoodJ K w F (zipL ds es) (RZ.ItzT K a b) := by
  unfold GoodJ
  have hl : (zipL ds es).length = min xs.length ys.length := by simp [zipL, r.length, r'.length]
  rw [hl]
  refine ⟨fun i H hi e => ?_, fun H e => ⟨xs, ys, Same.seqT e h, Same.seqT e h', by omega⟩, fun i H x H' hi e ⟨T, u, v, h1, h2, h3, h4, h5⟩ => ?_⟩
  · have h1 : i < xs.length := by omega
    have h2 : i < ys.length := by omega
    exact ⟨xs, ys, xs[i], ys[i], Same.seqT e h, Same.seqT e h', by simp [h1], by simp [h2]⟩
  · obtain ⟨d, q1, q2⟩ := r.get' (h4 xs (Same.seqT e h))
    obtain ⟨d', q1', q2'⟩ := r'.get' (h5 ys (Same.seqT e h'))
    rw [h1, h3]
    exact ⟨.tup [d, d'], by simp [zipL, List.getElem?_zipWith, q1, q1'], fun F2 e1 e2 => pair_step e2 h2 (q2.mono e1) (q2'.mono e1)⟩
end
/-! ### the walks by their expressions -/
def seqR (r : R) : NM := fun _ S => match r with
  | .d (.lst ds) => some (.ok ds, S)
  | .d (.tup ds) => some (.ok ds, S)
  | _ => none
def iSeqM (me : EM) : NM := bindM me seqR
def rng1R (as : List R) : NM := fun _ S => match as with
  | [.d (.int j)] => if -(2 ^ 62) ≤ j ∧ j < 2 ^ 62 then some (.ok (rngL 0 j.toNat), S) else none
  | _ => none
def iRng1M (ms : AM) : NM := bindM ms rng1R
def rng2R (as : List R) : NM := fun _ S => match as with
  | [.d (.int i), .d (.int j)] => if -(2 ^ 62) ≤ i ∧ i < 2 ^ 62 ∧ -(2 ^ 62) ≤ j ∧ j < 2 ^ 62 then some (.ok (rngL i (j - i).toNat), S) else none
  | _ => none
def iRng2M (ms : AM) : NM := bindM ms rng2R
def enumR (as : List R) : NM := fun _ S => match as with
  | [.d (.lst ds)] => some (.ok (enumL ds), S)
  | _ => none
def iEnumM (ms : AM) : NM := bindM ms enumR
def zipR (as : List R) : NM := fun _ S => match as with
  | [.d (.lst ds), .d (.lst es)] => some (.ok (zipL ds es), S)
  | [.d (.tup ds), .d (.tup es)] => some (.ok (zipL ds es), S)
  | _ => none
def iZipM (ms : AM) : NM := bindM ms zipR
section
variable {X : Cx} {W : WX} {tg l a b c : Expr} {ml : EM} {ms : AM} {p pos : Pos}
def iBoth (K : PySem.W.Frag) (tl : TE) : TI := fun σ H R => tl σ H fun x H1 => ∃ a, x = .ref a ∧ ((∃ xs, SqL K H1 a xs ∧ R (Itl K a) H1) ∨ (∃ xs, SqT K H1 a xs ∧ R (Itt K a) H1))
theorem pi_both {tl : TE} (hl : PE X l tl) : PI X tg l (iBoth X.K tl) := by
  refine ⟨fun pins s σ H R I h => ?_⟩
  refine thn (hl.run pins s σ H _ I h) fun v s1 ⟨x, H1, I1, r1, q1⟩ => ?_
  obtain ⟨a, e, q⟩ := q1
  subst e
  cases r1
  have fp : ∀ b, b ∈ [s1.heap.objs.size] → FpOk X pins H1 b := fun b hb => by
    have e : b = s1.heap.objs.size := by simpa using hb
    subst e
    exact I1.fpOk (Nat.le_refl _) (I1.hok.fresh (Nat.le_refl _))
  rcases q with ⟨xs, hq, q⟩ | ⟨xs, hq, q⟩
  · obtain ⟨its, rv, p, hz⟩ := I1.list hq
    refine wpAny_pyIter_list p.isList ?_
    exact ⟨s1.heap.objs.size, [s1.heap.objs.size], _, _, H1, rfl, I1.kept (t' := s1.toks) fun b o e => Heap.get?_push_of_some _ e, turn_list a _, ⟨_, Heap.get?_push_size _ rfl, rfl, rfl⟩, fp, q⟩
  · obtain ⟨its, rv, p, hz⟩ := I1.tuple hq
    refine wpAny_pyIter_tuple (show s1.heap.IsTuple a its.toArray from p) ?_
    exact ⟨s1.heap.objs.size, [s1.heap.objs.size], _, _, H1, rfl, I1.kept (t' := s1.toks) fun b o e => Heap.get?_push_of_some _ e, turn_tuple a _, ⟨_, Heap.get?_push_size _ rfl, rfl, rfl⟩, fp, q⟩
theorem iM_bind {α β : Type} {K : PySem.W.Frag} {w : World} {Ra : L2.St → Hp → List Addr → α → β → Prop} {σ : L2.St} {H : Hp} {R : It → Hp → Prop} {m : GM α} {f : α → NM} (h : iM K w W (bindM m f) σ H R) :
    core K w Ra W m σ H (fun x H1 => ∃ a F μ ρ S, Rel K w F μ S H1 ∧ RelFr K w F μ H1 ρ σ ∧ Ra σ F μ a x ∧ ∃ o S', f a ρ S = some (o, S') ∧ match o with
      | .ok ds => ∀ F' μ' H' J, Grow F H1 F' H' μ μ' → Rel K w F' μ' S' H' → GoodJ K w F' ds J → R J H'
      | .ex c fs => ∀ F' μ' H' d, Grow F H1 F' H' μ μ' → Rel K w F' μ' S' H' → ExD K w F' d fs → W (.ref (He.ga K c)) d σ H') := by
  obtain ⟨F, μ, ρ, S, h1, h2, o, S', h3, h4⟩ := h
  refine ⟨F, μ, ρ, S, h1, h2, ?_⟩
  unfold bindM at h3
  cases q : m ρ S with
  | none => rw [q] at h3; cases h3
  | some r =>
    obtain ⟨o1, S1⟩ := r
    rw [q] at h3
    cases o1 with
    | ok a =>
      refine ⟨.ok a, S1, rfl, fun F' μ' H' v g r z => ⟨a, F', μ', ρ, S1, r, h2.grow g, z, o, S', h3, ?_⟩⟩
      cases o with
      | ok ds => exact fun F2 μ2 H2 J g2 => h4 F2 μ2 H2 J (g.trans g2)
      | ex c fs => exact fun F2 μ2 H2 J g2 => h4 F2 μ2 H2 J (g.trans g2)
    | ex c fs =>
      cases h3
      exact ⟨.ex c fs, _, rfl, h4⟩
theorem mi_seq (hl : ME X W l ml) : MI X W tg l (iSeqM ml) :=
  PI_imp (pi_both hl) fun σ H R h => (iM_bind (Ra := fun σ F μ => RepR X.K X.w F μ σ) h).imp fun x H1 ⟨r, F, μ, ρ, S, h1, h2, h3, o, S', h4, h5⟩ => by
    unfold seqR at h4
    split at h4
    · cases h4
      cases h3 with
      | lst hF ra => exact ⟨_, rfl, .inl ⟨_, SqL.of (h1.le _ _ hF), h5 F μ H1 _ .refl h1 (good_list hF ra)⟩⟩
    · cases h4
      cases h3 with
      | tup hF ra => exact ⟨_, rfl, .inr ⟨_, Same.seqT h1.le hF, h5 F μ H1 _ .refl h1 (good_tup hF ra)⟩⟩
    · cases h4
theorem mi_range1 (hm : X.mg "range" = none) (ha : MA X W [a] ms) (hg : Gl X "range" := by rfl) (hs : starEach [a] X.env = [(false, eval a X.env)] := by rfl) : MI X W tg (.Call (.Name "range" p) [a] [] pos) (iRng1M ms) :=
  PI_imp (pi_range1 hg hm ha hs) fun σ H R h => (iM_bind (Ra := fun σ F μ => RepRs X.K X.w F μ σ) h).imp fun x H1 ⟨r, F, μ, ρ, S, h1, h2, h3, o, S', h4, h5⟩ => by
    unfold rng1R at h4
    split at h4
    · rename_i j
      by_cases c : -(2 ^ 62) ≤ j ∧ j < 2 ^ 62
      · rw [if_pos c] at h4
        cases h4
        cases h3 with
        | cons q r => cases r; cases q; exact ⟨j, rfl, c.1, c.2, h5 F μ H1 _ .refl h1 good_range⟩
      · rw [if_neg c] at h4; cases h4
    · cases h4
theorem mi_enum {elts : List Expr} {kk : Nat} {tpos : Pos} (hm : X.mg "enumerate" = none) (ha : MA X W [a] ms) (hg : Gl X "enumerate" := by rfl) (hs : starEach [a] X.env = [(false, eval a X.env)] := by rfl) : MI X W (.Tuple elts kk tpos) (.Call (.Name "enumerate" p) [a] [] pos) (iEnumM ms) :=
  PI_imp (pi_enum hg hm ha hs) fun σ H R h => (iM_bind (Ra := fun σ F μ => RepRs X.K X.w F μ σ) h).imp fun x H1 ⟨r, F, μ, ρ, S, h1, h2, h3, o, S', h4, h5⟩ => by
    unfold enumR at h4
    split at h4
    · cases h4
      cases h3 with
      | cons q r =>
        cases r
        cases q with
        | lst hF ra => exact ⟨_, _, rfl, SqL.of (h1.le _ _ hF), h5 F μ H1 _ .refl h1 (good_enum hF ra)⟩
    · cases h4
theorem mi_zip {elts : List Expr} {kk : Nat} {tpos : Pos} (hm : X.mg "zip" = none) (ha : MA X W [a, b] ms) (hg : Gl X "zip" := by rfl) (hs : starEach [a, b] X.env = (false, eval a X.env) :: starEach [b] X.env := by rfl) (hpl : (backTo pos (starEach [b] X.env)).any (·.1) = false := by rfl) :
    MI X W (.Tuple elts kk tpos) (.Call (.Name "zip" p) [a, b] [] pos) (iZipM ms) :=
  PI_imp (RZ.pi_zipA hg hm ha hs hpl) fun σ H R h => (iM_bind (Ra := fun σ F μ => RepRs X.K X.w F μ σ) h).imp fun x H1 ⟨r, F, μ, ρ, S, h1, h2, h3, o, S', h4, h5⟩ => by
    unfold zipR at h4
    split at h4
    · cases h4
      cases h3 with
      | cons q r => cases r with
        | cons q' r =>
          cases r
          cases q with
          | lst hF ra => cases q' with
            | lst hF' ra' => exact ⟨_, _, _, _, rfl, .inl ⟨SqL.of (h1.le _ _ hF), SqL.of (h1.le _ _ hF'), h5 F μ H1 _ .refl h1 (good_zip hF ra hF' ra')⟩⟩
    · cases h4
      cases h3 with
      | cons q r => cases r with
        | cons q' r =>
          cases r
          cases q with
          | tup hF ra => cases q' with
            | tup hF' ra' => exact ⟨_, _, _, _, rfl, .inr ⟨Same.seqT h1.le hF, Same.seqT h1.le hF', h5 F μ H1 _ .refl h1 (good_zipT hF ra hF' ra')⟩⟩
    · cases h4
end
end MM
namespace MM
open PySem PySem.Spec PyProof.Rows L2

/-! ### targets -/
abbrev TgM := D → Fr → Option Fr
def nameT (i : Nat) : TgM := fun d ρ => if i < ρ.length then some (ρ.set i (some (.r (.d d)))) else none
def tgs : List TgM → List D → Fr → Option Fr
  | [], [], ρ => some ρ
  | t :: ts, d :: ds, ρ => (t d ρ).bind (tgs ts ds)
  | _, _, _ => none
def tupT (ts : List TgM) : TgM := fun d ρ => match d with
  | .tup ds => tgs ts ds ρ
  | _ => none
structure TOk (K : PySem.W.Frag) (w : World) (F : Hp) (μ : List Addr) (H : Hp) (sl : List Nat) (ρ ρ1 : Fr) (σ σ1 : L2.St) : Prop where
  fr : RelFr K w F μ H ρ1 σ1
  out : ∀ j, j ∉ sl → σ1[j]? = σ[j]?
  len : σ1.length = σ.length
  ow : ∀ (i : Nat) (c : Cell) (a : Addr), ρ1[i]? = some (some (.own c)) → σ1[i]? = some (some (.ref a)) → ρ[i]? = some (some (.own c)) ∧ σ[i]? = some (some (.ref a))
def gM (K : PySem.W.Frag) (w : World) (sl : List Nat) (t : TgM) : TG := fun v σ H Q => ∃ F μ ρ S d ρ1, Rel K w F μ S H ∧ RelFr K w F μ H ρ σ ∧ Rep K w F d v ∧ t d ρ = some ρ1 ∧ ∀ σ1, TOk K w F μ H sl ρ ρ1 σ σ1 → Q σ1 H
def gsM (K : PySem.W.Frag) (w : World) (sl : List Nat) (ts : List TgM) : TGs := fun vs σ H Q => ∃ F μ ρ S ds ρ1, Rel K w F μ S H ∧ RelFr K w F μ H ρ σ ∧ RepAll K w F ds vs ∧ tgs ts ds ρ = some ρ1 ∧ ∀ σ1, TOk K w F μ H sl ρ ρ1 σ σ1 → Q σ1 H
abbrev MG (X : Cx) (tg : Expr) (sl : List Nat) (t : TgM) : Prop := PG X tg (gM X.K X.w sl t)
abbrev MGs (X : Cx) (tg : List Expr) (sl : List Nat) (t : List TgM) : Prop := PGs X tg (gsM X.K X.w sl t)
theorem PG_imp {X : Cx} {e : Expr} {t t' : TG} (h : PG X e t) (g : ∀ v σ H Q, t' v σ H Q → t v σ H Q) : PG X e t' := ⟨fun pins s σ H v u Q I r q => h.run pins s σ H v u Q I r (g v σ H Q q)⟩
theorem PGs_imp {X : Cx} {e : List Expr} {t t' : TGs} (h : PGs X e t) (g : ∀ v σ H Q, t' v σ H Q → t v σ H Q) : PGs X e t' := ⟨fun pins s σ H v u Q I r q => h.run pins s σ H v u Q I r (g v σ H Q q)⟩
theorem TOk.refl {K : PySem.W.Frag} {w : World} {F H : Hp} {μ : List Addr} {ρ : Fr} {σ : L2.St} (h : RelFr K w F μ H ρ σ) : TOk K w F μ H [] ρ ρ σ σ := ⟨h, fun _ _ => rfl, rfl, fun _ _ _ a b => ⟨a, b⟩⟩
theorem TOk.trans {K : PySem.W.Frag} {w : World} {F H : Hp} {μ : List Addr} {sl sl' : List Nat} {ρ ρ1 ρ2 : Fr} {σ σ1 σ2 : L2.St} (a : TOk K w F μ H sl ρ ρ1 σ σ1) (b : TOk K w F μ H sl' ρ1 ρ2 σ1 σ2) : TOk K w F μ H (sl ++ sl') ρ ρ2 σ σ2 :=
  ⟨b.fr, fun j h => by
    rw [List.mem_append, not_or] at h
    rw [b.out j h.2, a.out j h.1], b.len.trans a.len, fun i c p h1 h2 => let ⟨g1, g2⟩ := b.ow i c p h1 h2; a.ow i c p g1 g2⟩
theorem set_frame {K : PySem.W.Frag} {w : World} {F H : Hp} {μ : List Addr} {ρ : Fr} {σ : L2.St} (x : RelFr K w F μ H ρ σ) {i : Nat} {d : D} {v : V} (h : Rep K w F d v) (hi : i < ρ.length) : TOk K w F μ H [i] ρ (ρ.set i (some (.r (.d d)))) σ (σ.set i (some v)) := by
  have hs : i < σ.length := by rw [← x.len]; exact hi
  refine ⟨⟨by simp [x.len], fun j y e => ?_, fun j cc e => ?_, fun j k cc dd a e1 e2 e3 e4 => ?_⟩, fun j hj => ?_, by simp, fun j cc a e1 e2 => ?_⟩
  · by_cases q : j = i
    · subst q
      rw [List.getElem?_set_self hi] at e; cases e
      exact ⟨v, List.getElem?_set_self hs, h⟩
    · rw [List.getElem?_set_ne (Ne.symm q)] at e ⊢
      exact x.r j y e
  · by_cases q : j = i
    · subst q
      rw [List.getElem?_set_self hi] at e; cases e
    · rw [List.getElem?_set_ne (Ne.symm q)] at e ⊢
      exact x.own j cc e
  · have n1 : j ≠ i := fun q => by subst q; rw [List.getElem?_set_self hi] at e1; cases e1
    have n2 : k ≠ i := fun q => by subst q; rw [List.getElem?_set_self hi] at e2; cases e2
    rw [List.getElem?_set_ne (Ne.symm n1)] at e1 e3
    rw [List.getElem?_set_ne (Ne.symm n2)] at e2 e4
    exact x.dist j k cc dd a e1 e2 e3 e4
  · have : j ≠ i := by simpa using hj
    rw [List.getElem?_set_ne (Ne.symm this)]
  · have n1 : j ≠ i := fun q => by subst q; rw [List.getElem?_set_self hi] at e1; cases e1
    rw [List.getElem?_set_ne (Ne.symm n1)] at e1 e2
    exact ⟨e1, e2⟩
section
variable {X : Cx} {pos : Pos}
theorem mg_name (i : Nat) {x : Str} (hN : X.N.Nodup) (hi : X.N[i]? = some x := by rfl) (hx : Loc X.env.scope x := by first | exact Or.inl rfl | exact Or.inr rfl) (hf : X.fn x = true ∨ X.env.scope.names.lookup x = some .local := by first | exact .inl rfl | exact .inr rfl | assumption) : MG X (.Name x pos) [i] (nameT i) :=
  PG_imp (pg_name hN hi hx hf) fun v σ H Q ⟨F, μ, ρ, S, d, ρ1, h1, h2, h3, h4, h5⟩ => by
    unfold nameT at h4
    by_cases c : i < ρ.length
    · rw [if_pos c] at h4
      cases h4
      exact h5 _ (set_frame h2 h3 c)
    · rw [if_neg c] at h4; cases h4
theorem mgs_nil : MGs X [] [] [] := PGs_imp pgs_nil fun vs σ H Q ⟨F, μ, ρ, S, ds, ρ1, h1, h2, h3, h4, h5⟩ => by
  cases ds with
  | nil =>
    cases h3
    cases h4
    exact ⟨rfl, h5 _ (.refl h2)⟩
  | cons d ds => cases h4
theorem mgs_cons {e : Expr} {es : List Expr} {sl sl' : List Nat} {t : TgM} {ts : List TgM} (h1 : MG X e sl t) (h2 : MGs X es sl' ts) (hs : (assignEach (e :: es) X.env).map (·.2) = assign e X.env :: (assignEach es X.env).map (·.2) := by rfl) : MGs X (e :: es) (sl ++ sl') (t :: ts) :=
  PGs_imp (pgs_cons h1 h2 hs) fun vs σ H Q ⟨F, μ, ρ, S, ds, ρ1, k1, k2, k3, k4, k5⟩ => by
    cases ds with
    | nil => cases k4
    | cons d ds =>
      cases k3 with
      | cons r rr =>
        unfold tgs at k4
        obtain ⟨ρ2, q1, q2⟩ := Option.bind_eq_some_iff.mp k4
        refine ⟨_, _, rfl, F, μ, ρ, S, d, ρ2, k1, k2, r, q1, fun σ1 T1 => ⟨F, μ, ρ2, S, ds, ρ1, k1, T1.fr, rr, q2, fun σ2 T2 => k5 σ2 (T1.trans T2)⟩⟩
theorem mg_tup {es : List Expr} {k : Nat} {sl : List Nat} {ts : List TgM} (hc : X.calm = true) (h : MGs X es sl ts) (hn : (assignEach es X.env).length = ts.length := by rfl) (hst : (assignEach es X.env).findIdx? (·.1) = none := by rfl) : MG X (.Tuple es k pos) sl (tupT ts) :=
  PG_imp (pg_tup hc h hn hst) fun v σ H Q ⟨F, μ, ρ, S, d, ρ1, h1, h2, h3, h4, h5⟩ => by
    unfold tupT at h4
    split at h4
    · rename_i ds
      cases h3 with
      | tup hF ra =>
        refine ⟨_, _, rfl, Same.seqT h1.le hF, ?_, F, μ, ρ, S, ds, ρ1, h1, h2, ra, h4, h5⟩
        have : ∀ (ts : List TgM) (ds : List D) (ρ ρ1 : Fr), tgs ts ds ρ = some ρ1 → ds.length = ts.length := by
          intro ts
          induction ts with
          | nil => intro ds ρ ρ1 h; cases ds with
            | nil => rfl
            | cons d ds => cases h
          | cons t ts ih => intro ds ρ ρ1 h; cases ds with
            | nil => cases h
            | cons d ds =>
              unfold tgs at h
              obtain ⟨ρ2, q1, q2⟩ := Option.bind_eq_some_iff.mp h
              exact congrArg Nat.succ (ih ds ρ2 ρ1 q2)
        rw [← ra.length]
        exact this ts ds ρ ρ1 h4
    · cases h4
end

/-! ### assignments by targets -/
def asgM (m : EM) (t : TgM) : SM := thenM m fun r ρ S => match r with
  | .d d => match t d ρ with
    | some ρ1 => some (.nx, ρ1, S)
    | none => none
  | _ => none
theorem StOk.tok {K : PySem.W.Frag} {w : World} {F H : Hp} {μ : List Addr} {sl : List Nat} {ρ ρ1 : Fr} {S : Sto} {σ σ1 : L2.St} {B : Bs} (x : StOk K w B F μ ρ S σ H) (t : TOk K w F μ H sl ρ ρ1 σ σ1) : StOk K w B F μ ρ1 S σ1 H :=
  ⟨x.rel, t.fr, x.gr, fun i c a h1 h2 => let ⟨g1, g2⟩ := t.ow i c a h1 h2; x.ow i c a g1 g2⟩
theorem ms_asg {X : Cx} {W : WX} {tg e : Expr} {me : EM} {sl : List Nat} {t : TgM} {pos : Pos} (he : ME X W e me) (hg : MG X tg sl t) (hs : swapsWithSole [tg] e pos.line X.env = pure false := by rfl) (hw : swappedStores [tg] e X.env = pure none := by rfl)
    (h1 : (assignEach [tg] X.env).map (·.2) = [assign tg X.env] := by rfl) : MS X W (.Assign [tg] e pos) (asgM me t) :=
  PS.imp (ps_asg he hg hs hw h1) fun En σ H h => (flow_then (Ra := fun σ F μ => RepR X.K X.w F μ σ) h).imp fun v H1 ⟨r, B, F, μ, ρ, S, h1, h2, h3⟩ => by
    split at h3
    · rename_i d
      cases q : t d ρ with
      | none => simp only [q] at h3; exact h3.none_
      | some ρ1 =>
        simp only [q] at h3
        exact ⟨F, μ, ρ, S, d, ρ1, h1.rel, h1.fr, h2, q, fun σ1 T => h3.nx (h1.tok T)⟩
    · exact h3.none_

/-! ### for -/
def loopM (t : TgM) (body : SM) : List D → SM
  | [] => nxM
  | d :: ds => fun ρ S => match t d ρ with
    | none => none
    | some ρ1 => match body ρ1 S with
      | some (.nx, ρ2, S2) => loopM t body ds ρ2 S2
      | some (.ct, ρ2, S2) => loopM t body ds ρ2 S2
      | some (.bk, ρ2, S2) => some (.nx, ρ2, S2)
      | some (.rt r, ρ2, S2) => some (.rt r, ρ2, S2)
      | some (.ex c fs, ρ2, S2) => some (.ex c fs, ρ2, S2)
      | none => none
def forM (mi : NM) (t : TgM) (body : SM) : SM := thenM mi (loopM t body)
theorem loop_step {K : PySem.W.Frag} {w : World} {W : WX} {t : TgM} {body : SM} {d : D} {ds : List D} {ρ ρ1 : Fr} {S : Sto} {B : Bs} {F : Hp} {En : Ends} (ht : t d ρ = some ρ1) (h : flowAt K w W (loopM t body (d :: ds) ρ S) B F En) :
    flowAt K w W (body ρ1 S) B F { En with nx := fun σ H => ∃ F' μ' ρ' S', StOk K w B F' μ' ρ' S' σ H ∧ Same F F' ∧ flowAt K w W (loopM t body ds ρ' S') B F' En, ct := fun σ H => ∃ F' μ' ρ' S', StOk K w B F' μ' ρ' S' σ H ∧ Same F F' ∧ flowAt K w W (loopM t body ds ρ' S') B F' En, bk := En.nx } := by
  obtain ⟨fl, ρ2, S2, h1, h2⟩ := h
  unfold loopM at h1
  simp only [ht] at h1
  cases q : body ρ1 S with
  | none => simp [q] at h1
  | some r =>
    obtain ⟨f2, ρ3, S3⟩ := r
    simp only [q] at h1
    refine ⟨f2, ρ3, S3, rfl, fun F' μ' σ' H' e x => ?_⟩
    cases f2 with
    | nx => exact ⟨F', μ', ρ3, S3, x, e, flowAt.mono e ⟨fl, ρ2, S2, h1, h2⟩⟩
    | ct => exact ⟨F', μ', ρ3, S3, x, e, flowAt.mono e ⟨fl, ρ2, S2, h1, h2⟩⟩
    | bk => cases h1; exact h2 F' μ' σ' H' e x
    | rt r => cases h1; exact h2 F' μ' σ' H' e x
    | ex c fs => cases h1; exact h2 F' μ' σ' H' e x
theorem ms_for {X : Cx} {W : WX} {tg iter : Expr} {mi : NM} {sl : List Nat} {t : TgM} {bd : List Stmt} {body : SM} {pos : Pos} (hp : PassesOwn (model X.prog X.w) X.A X.env X.xe) (hc : X.calm = true) (hi : MI X W tg iter mi) (hg : MG X tg sl t) (hb : MSs X W bd body)
    (hs : ∀ x, foldedSetIterable iter X.env x = pure x := by intro _; rfl) : MS X W (.For tg iter bd [] pos) (forM mi t body) :=
  PS.imp (ps_for hp hc hi hg hb hs) fun En σ H ⟨B, F, μ, ρ, S, h1, h2⟩ => by
    refine ⟨F, μ, ρ, S, h1.rel, h1.fr, ?_⟩
    obtain ⟨fl, ρ2, S2, h3, h4⟩ := h2
    unfold forM thenM at h3
    cases q : mi ρ S with
    | none => rw [q] at h3; cases h3
    | some r =>
      obtain ⟨o1, S1⟩ := r
      rw [q] at h3
      cases o1 with
      | ex c fs => cases h3; exact ⟨_, _, rfl, fun F' μ' H' d g r z => h4 F' μ' σ H' g.f (h1.grow g r) d z⟩
      | ok ds =>
        refine ⟨.ok ds, S1, rfl, fun F' μ' H' J g r gj => ?_⟩
        have y := h1.grow g r
        have fl0 : flowAt X.K X.w W (loopM t body ds ρ S1) B F' En := flowAt.mono g.f ⟨fl, ρ2, S2, h3, h4⟩
        refine for_it gj (fun i σ H => ∃ F2 μ2 ρ2 S2, StOk X.K X.w B F2 μ2 ρ2 S2 σ H ∧ Same F' F2 ∧ flowAt X.K X.w W (loopM t body (ds.drop i) ρ2 S2) B F2 En)
          ⟨F', μ', ρ, S1, y, Same.refl _, fl0⟩ (fun i σ H hi ⟨F2, μ2, ρ2, S2, k1, k2, k3⟩ => k2.trans k1.rel.le) ?_ ?_
        · rintro i x σ H H2 hi ⟨F2, μ2, ρ2, S2, k1, k2, k3⟩ ⟨d, hd, hF⟩
          obtain ⟨F3, st, rx⟩ := hF F2 k2 k1.rel.le
          have e : ds.drop i = d :: ds.drop (i + 1) := by
            rw [List.drop_eq_getElem_cons hi]
            congr 1
            rw [List.getElem?_eq_getElem hi] at hd
            exact Option.some.inj hd
          rw [e] at k3
          have y3 := k1.grow st.grow (k1.rel.step st)
          cases qt : t d ρ2 with
          | none =>
            obtain ⟨fl, _, _, h, _⟩ := k3
            unfold loopM at h
            simp [qt] at h
          | some ρ3 =>
            refine ⟨F3, μ2, ρ2, S2, d, ρ3, y3.rel, y3.fr, rx, qt, fun σ1 T => ?_⟩
            have ls := loop_step qt (flowAt.mono st.f k3)
            refine ⟨B, F3, μ2, ρ3, S2, y3.tok T, ?_⟩
            obtain ⟨f4, ρ4, S4, g1, g2⟩ := ls
            refine ⟨f4, ρ4, S4, g1, fun F5 μ5 σ5 H5 e x => ?_⟩
            have z := g2 F5 μ5 σ5 H5 e x
            cases f4 with
            | nx => obtain ⟨F6, μ6, ρ6, S6, a1, a2, a3⟩ := z; exact ⟨F6, μ6, ρ6, S6, a1, (k2.trans st.f).trans a2, a3⟩
            | ct => obtain ⟨F6, μ6, ρ6, S6, a1, a2, a3⟩ := z; exact ⟨F6, μ6, ρ6, S6, a1, (k2.trans st.f).trans a2, a3⟩
            | bk => exact z
            | rt r => exact z
            | ex c fs => exact z
        · rintro σ H ⟨F2, μ2, ρ2, S2, k1, k2, k3⟩
          rw [List.drop_length] at k3
          exact k3.nx k1

/-! ### while: the turns are counted down from a number of ours -/
def whileM (t : TM) (body : SM) : Nat → SM
  | 0 => fun _ _ => none
  | n + 1 => fun ρ S => match t ρ S with
    | some (.ok false, S1) => some (.nx, ρ, S1)
    | some (.ok true, S1) => match body ρ S1 with
      | some (.nx, ρ2, S2) => whileM t body n ρ2 S2
      | some (.ct, ρ2, S2) => whileM t body n ρ2 S2
      | some (.bk, ρ2, S2) => some (.nx, ρ2, S2)
      | some (.rt r, ρ2, S2) => some (.rt r, ρ2, S2)
      | some (.ex c fs, ρ2, S2) => some (.ex c fs, ρ2, S2)
      | none => none
    | some (.ex c fs, S1) => some (.ex c fs, ρ, S1)
    | none => none
/-- n: a bound for the turns, reckoned from the state ahead -/
def whlM (n : Fr → Sto → Nat) (t : TM) (body : SM) : SM := fun ρ S => whileM t body (n ρ S) ρ S
theorem ms_while {X : Cx} {W : WX} {c : Expr} {mt : TM} {bd : List Stmt} {body : SM} {pos : Pos} (n : Fr → Sto → Nat) (hp : PassesOwn (model X.prog X.w) X.A X.env X.xe) (hc : MT X W c mt) (hb : MSs X W bd body) : MS X W (.While c bd [] pos) (whlM n mt body) :=
  PS.imp (ps_while hp hc hb) fun En σ H ⟨B, F, μ, ρ, S, h1, h2⟩ => by
    refine ⟨fun m σ H => ∃ F2 μ2 ρ2 S2, StOk X.K X.w B F2 μ2 ρ2 S2 σ H ∧ flowAt X.K X.w W (whileM mt body m ρ2 S2) B F2 En, ⟨n ρ S, F, μ, ρ, S, h1, h2⟩, ?_⟩
    rintro m σ H ⟨F2, μ2, ρ2, S2, k1, fl, ρ', S', k2, k3⟩
    cases m with
    | zero => cases k2
    | succ m =>
      unfold whileM at k2
      refine ⟨F2, μ2, ρ2, S2, k1.rel, k1.fr, ?_⟩
      cases q : mt ρ2 S2 with
      | none => simp [q] at k2
      | some r =>
        obtain ⟨o, S3⟩ := r
        simp only [q] at k2
        cases o with
        | ex c fs => cases k2; exact ⟨_, _, rfl, fun F' μ' H' d g r z => k3 F' μ' σ H' g.f (k1.grow g r) d z⟩
        | ok b =>
          refine ⟨.ok b, S3, rfl, fun F' μ' H' v g r z => ?_⟩
          obtain rfl := z
          have y := k1.grow g r
          cases b with
          | false => cases k2; exact k3 F' μ' σ H' g.f y
          | true =>
            rw [if_pos rfl]
            refine ⟨fun σ H => ∃ F2 μ2 ρ2 S2, StOk X.K X.w B F2 μ2 ρ2 S2 σ H ∧ flowAt X.K X.w W (whileM mt body m ρ2 S2) B F2 En, fun σ' H' z => ⟨m, Nat.lt_succ_self _, z⟩, B, F', μ', ρ2, S3, y, ?_⟩
            simp only at k2
            cases qb : body ρ2 S3 with
            | none => simp [qb] at k2
            | some r2 =>
              obtain ⟨f2, ρ3, S4⟩ := r2
              simp only [qb] at k2
              refine ⟨f2, ρ3, S4, rfl, fun F5 μ5 σ5 H5 e x => ?_⟩
              cases f2 with
              | nx => exact ⟨F5, μ5, ρ3, S4, x, flowAt.mono (g.f.trans e) ⟨fl, ρ', S', k2, k3⟩⟩
              | ct => exact ⟨F5, μ5, ρ3, S4, x, flowAt.mono (g.f.trans e) ⟨fl, ρ', S', k2, k3⟩⟩
              | bk => cases k2; exact k3 F5 μ5 σ5 H5 (g.f.trans e) x
              | rt r => cases k2; exact k3 F5 μ5 σ5 H5 (g.f.trans e) x
              | ex c fs => cases k2; exact k3 F5 μ5 σ5 H5 (g.f.trans e) x
end MM
namespace MM
open PySem PySem.Spec PyProof.Rows L2

/-! ### list comprehensions -/
def wipeF (ρ : Fr) : List Nat → Fr
  | [] => ρ
  | v :: vs => (wipeF ρ vs).set v none
def yesT : TM := fun _ S => some (.ok true, S)
def lcL (vs : List Nat) (t : TgM) (tt : TM) (te : EM) : List D → List D → NM
  | [], acc => fun _ S => some (.ok acc, S)
  | d :: ds, acc => fun ρ S => match t d (wipeF ρ vs) with
    | none => none
    | some ρ1 => match tt ρ1 S with
      | some (.ok false, S1) => lcL vs t tt te ds acc ρ S1
      | some (.ok true, S1) => match te ρ1 S1 with
        | some (.ok (.d x), S2) => if acc.length < sizeLine then lcL vs t tt te ds (acc ++ [x]) ρ S2 else none
        | _ => none
      | _ => none
def lcM (mi : NM) (vs : List Nat) (t : TgM) (tt : TM) (te : EM) : NM := bindM mi fun ds => lcL vs t tt te ds []
theorem wipeF_length (ρ : Fr) : ∀ vs : List Nat, (wipeF ρ vs).length = ρ.length
  | [] => rfl
  | v :: vs => by unfold wipeF; rw [List.length_set, wipeF_length ρ vs]
theorem wipe_at (σ : L2.St) : ∀ (vs : List Nat) (j : Nat), (wipe σ vs)[j]? = if j ∈ vs then (if j < σ.length then some none else none) else σ[j]?
  | [], j => by simp [wipe]
  | v :: vs, j => by
    unfold wipe
    by_cases h : j = v
    · subst h
      by_cases hl : j < σ.length
      · rw [List.getElem?_set_self (by rw [wipe_length]; exact hl), if_pos List.mem_cons_self, if_pos hl]
      · rw [List.getElem?_eq_none (by rw [List.length_set, wipe_length]; omega), if_pos List.mem_cons_self, if_neg hl]
    · rw [List.getElem?_set_ne (Ne.symm h), wipe_at σ vs j]
      by_cases hm : j ∈ vs
      · rw [if_pos hm, if_pos (List.mem_cons_of_mem _ hm)]
      · rw [if_neg hm, if_neg (by simp [h, hm])]
theorem wipeF_at (σ : Fr) : ∀ (vs : List Nat) (j : Nat), (wipeF σ vs)[j]? = if j ∈ vs then (if j < σ.length then some none else none) else σ[j]?
  | [], j => by simp [wipeF]
  | v :: vs, j => by
    unfold wipeF
    by_cases h : j = v
    · subst h
      by_cases hl : j < σ.length
      · rw [List.getElem?_set_self (by rw [wipeF_length]; exact hl), if_pos List.mem_cons_self, if_pos hl]
      · rw [List.getElem?_eq_none (by rw [List.length_set, wipeF_length]; omega), if_pos List.mem_cons_self, if_neg hl]
    · rw [List.getElem?_set_ne (Ne.symm h), wipeF_at σ vs j]
      by_cases hm : j ∈ vs
      · rw [if_pos hm, if_pos (List.mem_cons_of_mem _ hm)]
      · rw [if_neg hm, if_neg (by simp [h, hm])]
theorem wipe_same {σ σ2 : L2.St} {vs sl : List Nat} (out : ∀ j, j ∉ sl → σ2[j]? = (wipe σ vs)[j]?) (len : σ2.length = (wipe σ vs).length) (sub : ∀ j ∈ sl, j ∈ vs) : wipe σ2 vs = wipe σ vs := by
  rw [wipe_length] at len
  refine List.ext_getElem? fun j => ?_
  rw [wipe_at, wipe_at, len]
  by_cases h : j ∈ vs
  · rw [if_pos h, if_pos h]
  · rw [if_neg h, if_neg h, out j (fun z => h (sub j z)), wipe_at, if_neg h]
section
variable {K : PySem.W.Frag} {w : World} {F F' H H' : Hp} {μ μ' : List Addr} {S S' : Sto} {ρ : Fr} {σ : L2.St}
theorem RelFr.wipe (x : RelFr K w F μ H ρ σ) (vs : List Nat) : RelFr K w F μ H (wipeF ρ vs) (L2.wipe σ vs) := by
  have get : ∀ {j : Nat} {e : Ent}, (wipeF ρ vs)[j]? = some (some e) → j ∉ vs ∧ ρ[j]? = some (some e) := fun {j e} h => by
    rw [wipeF_at] at h
    by_cases hm : j ∈ vs
    · rw [if_pos hm] at h
      split at h <;> cases h
    · rw [if_neg hm] at h; exact ⟨hm, h⟩
  refine ⟨by rw [wipeF_length, L2.wipe_length, x.len], fun i y e => ?_, fun i c e => ?_, fun i j c d a e1 e2 e3 e4 => ?_⟩
  · obtain ⟨h1, h2⟩ := get e
    obtain ⟨v, h3, h4⟩ := x.r i y h2
    exact ⟨v, by rw [wipe_at, if_neg h1]; exact h3, h4⟩
  · obtain ⟨h1, h2⟩ := get e
    obtain ⟨a, h3, h4⟩ := x.own i c h2
    exact ⟨a, by rw [wipe_at, if_neg h1]; exact h3, h4⟩
  · obtain ⟨h1, h2⟩ := get e1
    obtain ⟨h3, h4⟩ := get e2
    rw [wipe_at, if_neg h1] at e3
    rw [wipe_at, if_neg h3] at e4
    exact x.dist i j c d a h2 h4 e3 e4
/-- an object that is none of ours is changed -/
theorem CellOk.other {a p : Addr} {o : HO} {c : Cell} (n : a ≠ p) (k : CellOk K w F μ H a c) : CellOk K w F μ (upd H p o) a c := by
  cases c with
  | lst ds => obtain ⟨g1, xs, g2, g⟩ := k; exact ⟨g1, xs, by rw [upd_ne n]; exact g2, g⟩
  | dic kvs => obtain ⟨g1, xs, g2, g⟩ := k; exact ⟨g1, xs, by rw [upd_ne n]; exact g2, g⟩
  | dit kvs => obtain ⟨g1, o', xs, g2, g⟩ := k; exact ⟨g1, o', xs, by rw [upd_ne n]; exact g2, g⟩
  | tab x => obtain ⟨g1, e, ps, g2, g⟩ := k; exact ⟨g1, e, ps, by rw [upd_ne n]; exact g2, g⟩
  | ins C fs => obtain ⟨g1, dx, xs, g2, g⟩ := k; exact ⟨g1, dx, xs, by rw [upd_ne n]; exact g2, g⟩
  | frz x => exact k
theorem Rel.other (r : Rel K w F μ S H) {p : Addr} {o : HO} (hF : F p = none) (hm : p ∉ μ) : Rel K w F μ S (upd H p o) :=
  ⟨fun b u q => by rw [upd_ne (fun z => by rw [z, hF] at q; cases q)]; exact r.le b u q, r.nd, r.len, fun a ha => by
    rw [upd_ne (fun z => hm (by rw [← z]; exact ha))]; exact r.there a ha, fun n a c h1 h2 => (r.cell n a c h1 h2).other (fun z => hm (by rw [← z]; exact List.mem_of_getElem? h1))⟩
theorem RelFr.other (x : RelFr K w F μ H ρ σ) {p : Addr} {o : HO} (no : ∀ (j : Nat) (d : Cell), ρ[j]? = some (some (.own d)) → σ[j]? ≠ some (some (.ref p))) : RelFr K w F μ (upd H p o) ρ σ := by
  refine ⟨x.len, x.r, fun i c e => ?_, x.dist⟩
  obtain ⟨a, h1, h2, h3, h4, h5⟩ := x.own i c e
  have n : a ≠ p := fun z => no i c e (by rw [← z]; exact h1)
  exact ⟨a, h1, h2, h3, by rw [upd_ne n]; exact h4, h5.other n⟩
end
theorem Grow.back {F F' H H' : Hp} {μ μ' : List Addr} (g : Grow F H F' H' μ μ') {p : Addr} (h : H' p = none) (m : p ∉ μ') : H p = none := by
  cases q : H p with
  | none => rfl
  | some o =>
    by_cases hm : p ∈ μ
    · exact absurd (g.p.subset hm) m
    · rw [g.h p o q hm] at h; cases h
abbrev noW : WX := fun _ _ _ _ => False
theorem MTs_nil {X : Cx} {W : WX} : PTs X [] (tT X.K X.w W yesT) := ⟨fun pins s σ H Q I ⟨F, μ, ρ, S, h1, h2, h3⟩ => pts_nil.run pins s σ H Q I (h3.ok .refl h1 rfl)⟩
section
variable {X : Cx} {W : WX} {elt tg iter : Expr} {ifs : List Expr} {scope : Scope} {own : List (Str × Nat)} {pos : Pos} {mi : NM} {sl : List Nat} {t : TgM} {mt : TM} {me : EM}
theorem tLc_ok {K : PySem.W.Frag} {w : World} {vs : List Nat} {σ : L2.St} {H : Hp} {Q : VK} (sub : ∀ j ∈ sl, j ∈ vs) (h : tN K w W (lcM mi vs t mt me) σ H Q) :
    tLc (iM K w W mi) (gM K w sl t) (tT K w noW mt) (tE K w noW me) vs σ H Q := by
  obtain ⟨F0, μ0, ρ, S0, h1, h2, o, S', h3, h4⟩ := h
  refine ⟨F0, μ0, ρ, S0, h1, h2, ?_⟩
  unfold lcM bindM at h3
  cases q : mi ρ S0 with
  | none => rw [q] at h3; cases h3
  | some r =>
    obtain ⟨o1, S1⟩ := r
    rw [q] at h3
    cases o1 with
    | ex c fs => cases h3; exact ⟨_, _, rfl, h4⟩
    | ok ds =>
      refine ⟨.ok ds, S1, rfl, fun F1 μ1 H1 J g1 r1 gj D hD => ?_⟩
      obtain ⟨f1, m1⟩ := r1.fresh hD
      have fr1 := h2.grow g1
      have noD : ∀ (j : Nat) (d : Cell), ρ[j]? = some (some (.own d)) → σ[j]? ≠ some (some (.ref D)) := fun j d e1 e2 => by
        obtain ⟨a, k1, _, _, k4, _⟩ := fr1.own j d e1
        rw [k1] at e2
        cases e2
        exact k4 hD
      refine lc_it gj (fun i H => ∃ F μ S acc xs, Rel K w F μ S H ∧ Same F1 F ∧ RelFr K w F μ H ρ σ ∧ H D = some (.lst xs) ∧ F D = none ∧ D ∉ μ ∧ RepAll K w F acc xs ∧ Grow F1 H1 F H μ1 μ ∧ lcL vs t mt me (ds.drop i) acc ρ S = some (o, S'))
        ⟨F1, μ1, S1, [], [], r1.other f1 m1, Same.refl _, fr1.other noD, upd_same, f1, m1, .nil, ⟨Same.refl _, List.prefix_rfl, fun a u e _ => same_upd hD a u e, fun _ a b => absurd b a, fun a b c => absurd b c⟩, h3⟩
        (fun i H hi ⟨F, μ, S, acc, xs, k1, k2, _⟩ => k2.trans k1.le) ?_ ?_
      · rintro i x H H2 hi ⟨F, μ, S, acc, xs, k1, k2, k3, k4, k5, k6, k7, k8, k9⟩ ⟨d, hd, hF⟩
        obtain ⟨F3, st, rx⟩ := hF F k2 k1.le
        have e : ds.drop i = d :: ds.drop (i + 1) := by
          rw [List.drop_eq_getElem_cons hi]
          congr 1
          rw [List.getElem?_eq_getElem hi] at hd
          exact Option.some.inj hd
        rw [e] at k9
        unfold lcL at k9
        have j1 := k1.step st
        have j3 := k3.grow st.grow
        have j4 := st.h _ _ k4
        have j5 : F3 D = none := by
          cases qq : F3 D with
          | none => rfl
          | some u =>
            have := st.new D (by rw [qq]; exact fun z => nomatch z) k5
            rw [this] at k4; cases k4
        have j8 := k8.trans st.grow
        cases qt : t d (wipeF ρ vs) with
        | none => simp [qt] at k9
        | some ρ1 =>
          simp only [qt] at k9
          refine ⟨F3, μ, wipeF ρ vs, S, d, ρ1, j1, j3.wipe vs, rx, qt, fun σ2 T => ⟨wipe_same T.out T.len sub, ?_⟩⟩
          refine ⟨F3, μ, ρ1, S, j1, T.fr, ?_⟩
          cases qb : mt ρ1 S with
          | none => simp [qb] at k9
          | some rb =>
            obtain ⟨ob, S2⟩ := rb
            simp only [qb] at k9
            cases ob with
            | ex c fs => simp at k9
            | ok b =>
              refine ⟨.ok b, S2, rfl, fun F4 μ4 H4 v g4 r4 z => ?_⟩
              obtain rfl := z
              have i4 : H4 D = some (.lst xs) := g4.h _ _ j4 k6
              have i5 : F4 D = none := by
                cases qq : F4 D with
                | none => rfl
                | some u =>
                  have := g4.nf D (by rw [qq]; exact fun z => nomatch z) j5 k6
                  rw [this] at j4; cases j4
              have i6 : D ∉ μ4 := fun hm => by rw [g4.nm D hm k6] at j4; cases j4
              have i8 := j8.trans g4
              have s4 : Same F1 F4 := (k2.trans st.f).trans g4.f
              have i7 := k7.mono (st.f.trans g4.f)
              cases b with
              | false =>
                simp only at k9
                exact ⟨F4, μ4, S2, acc, xs, r4, s4, j3.grow g4, i4, i5, i6, i7, i8, k9⟩
              | true =>
                rw [if_pos rfl]
                simp only at k9
                refine ⟨F4, μ4, ρ1, S2, r4, T.fr.grow g4, ?_⟩
                cases qe : me ρ1 S2 with
                | none => simp [qe] at k9
                | some re =>
                  obtain ⟨oe, S3⟩ := re
                  simp only [qe] at k9
                  cases oe with
                  | ex c fs => simp at k9
                  | ok y =>
                    refine ⟨.ok y, S3, rfl, fun F5 μ5 H5 v5 g5 r5 z5 => ?_⟩
                    cases y with
                    | loc n => simp at k9
                    | slot n => simp at k9
                    | d y =>
                      simp only at k9
                      by_cases cl : acc.length < sizeLine
                      · rw [if_pos cl] at k9
                        have l4 : H5 D = some (.lst xs) := g5.h _ _ i4 i6
                        have l5 : F5 D = none := by
                          cases qq : F5 D with
                          | none => rfl
                          | some u =>
                            have := g5.nf D (by rw [qq]; exact fun z => nomatch z) i5 i6
                            rw [this] at i4; cases i4
                        have l6 : D ∉ μ5 := fun hm => by rw [g5.nm D hm i6] at i4; cases i4
                        have l8 := i8.trans g5
                        have l7 := i7.mono g5.f
                        refine ⟨xs, l4, by rw [← i7.length]; exact cl, F5, μ5, S3, acc ++ [y], xs ++ [v5], r5.other l5 l6, s4.trans g5.f, ((j3.grow g4).grow g5).other noD, upd_same, l5, l6, l7.append (.cons z5 .nil), ?_, k9⟩
                        exact ⟨l8.f, l8.p, fun a u e hm => by
                          rw [upd_ne (fun z => by rw [z, hD] at e; cases e)]; exact l8.h a u e hm, l8.nf, l8.nm⟩
                      · rw [if_neg cl] at k9; cases k9
      · rintro H ⟨F, μ, S, acc, xs, k1, k2, k3, k4, k5, k6, k7, k8, k9⟩
        rw [List.drop_length] at k9
        cases k9
        refine h4 F μ H D xs (g1.trans k8) k1 k4 k5 k6 ?_ k7
        exact g1.back hD m1
/-- [e for x in xs if t], a new list -/
theorem mn_lc {own : List (Str × Nat)} (hc : X.calm = true) (hN : X.N.Nodup) (hi : MI X W tg iter mi) (ok : BlkOk X.N X.env.scope scope own) (sub : ∀ j ∈ sl, j ∈ own.map (·.2))
    (hg : ∀ (s : Shared) (H : Hp) (C : Addr) (cl : List (Str × Addr)) (fp : List Addr), MG (X.blk s H scope (compEnvC scope cl C X.env) fp) tg sl t)
    (ht : ∀ (s : Shared) (H : Hp) (C : Addr) (cl : List (Str × Addr)) (fp : List Addr), PTs (X.blk s H scope (compEnvC scope cl C X.env) fp) ifs (tT X.K X.w noW mt))
    (he : ∀ (s : Shared) (H : Hp) (C : Addr) (cl : List (Str × Addr)) (fp : List Addr), ME (X.blk s H scope (compEnvC scope cl C X.env) fp) noW elt me) (hs : ∀ x, foldedSetIterable iter X.env x = pure x := by intro _; rfl) :
    MN X W (.ListComp elt [⟨tg, iter, ifs, 0⟩] scope pos) (lcM mi (own.map (·.2)) t mt me) :=
  PE.imp (pe_lc hc hN hi ok hg ht he hs) fun σ H Q h => tLc_ok sub h
theorem setNew {i : Nat} {m : NM} {K : PySem.W.Frag} {w : World} {En : Ends} {σ : L2.St} {H : Hp} (h : tS K w W (setM i (ofNew m)) En σ H) : tN K w W m σ H (fun x H1 => gName i x σ H1 En.nx) := by
  obtain ⟨B, F, μ, ρ, S, h1, fl, ρ', S', h2, h3⟩ := h
  refine ⟨F, μ, ρ, S, h1.rel, h1.fr, ?_⟩
  unfold setM thenM ofNew bindM at h2
  cases q : m ρ S with
  | none => rw [q] at h2; cases h2
  | some r =>
    obtain ⟨o1, S1⟩ := r
    rw [q] at h2
    cases o1 with
    | ex c fs => cases h2; exact ⟨_, _, rfl, fun F' μ' H' d g r z => h3 F' μ' σ H' g.f (h1.grow g r) d z⟩
    | ok ds =>
      refine ⟨.ok ds, _, rfl, fun F' μ' H' p xs g r hp hF hm h0 ra => ?_⟩
      by_cases c : i < ρ.length
      · simp only [litM, setR, closedR, c, true_and, if_true] at h2
        cases h2
        obtain ⟨z1, z2⟩ := Step.fz r.le hp hF
        have gr : Grow F H (upd F' p (.lst xs)) H' μ μ' := ⟨g.f.trans z2, g.p, g.h, fun a q1 q2 q3 => by
          by_cases e : a = p
          · rw [e]; exact h0
          · rw [upd_ne e] at q1; exact g.nf a q1 q2 q3, g.nm⟩
        have rr : Rel K w (upd F' p (.lst xs)) μ' S' H' := ⟨z1, r.nd, r.len, r.there, fun n a c q1 q2 => by
          have na : a ≠ p := fun z => hm (by rw [← z]; exact List.mem_of_getElem? q1)
          have k := r.cell n a c q1 q2
          have nf : ∀ {P : Prop}, F' a = none ∧ P → upd F' p (.lst xs) a = none := fun z => by rw [upd_ne na]; exact z.1
          cases c with
          | lst ds => exact ⟨nf k, k.2.imp fun xs g => ⟨g.1, g.2.mono z2⟩⟩
          | dic kvs => exact ⟨nf k, k.2.imp fun xs g => ⟨g.1, g.2.mono z2⟩⟩
          | dit kvs => exact ⟨nf k, k.2.imp fun o' g => g.imp fun xs g => ⟨g.1, g.2.1.mono z2, g.2.2⟩⟩
          | tab x => exact ⟨nf k, k.2.1, k.2.2.imp fun ps g => ⟨g.1, g.2.1, fun pos cv q => (g.2.2 pos cv q).imp fun c z => ⟨z.1, z2 _ _ z.2⟩⟩⟩
          | ins C fs => exact ⟨nf k, k.2.imp fun dx g => g.imp fun xs g => ⟨g.1, g.2.mono z2 List.prefix_rfl⟩⟩
          | frz x => exact Rep.mono z2 k⟩
        have y := h1.grow gr rr
        exact h3 _ μ' _ H' gr.f (y.set (r := .d (.lst ds)) (Rep.lst upd_same (ra.mono z2)) rfl c)
      · simp only [litM, setR, closedR, c, and_false, if_false] at h2; cases h2
theorem ms_lcG {i : Nat} {y : Str} {py spos : Pos} {own : List (Str × Nat)} {m : SM} (hc : X.calm = true) (hN : X.N.Nodup) (hi : MI X W tg iter mi) (ok : BlkOk X.N X.env.scope scope own) (sub : ∀ j ∈ sl, j ∈ own.map (·.2))
    (hg : ∀ (s : Shared) (H : Hp) (C : Addr) (cl : List (Str × Addr)) (fp : List Addr), MG (X.blk s H scope (compEnvC scope cl C X.env) fp) tg sl t)
    (ht : ∀ (s : Shared) (H : Hp) (C : Addr) (cl : List (Str × Addr)) (fp : List Addr), PTs (X.blk s H scope (compEnvC scope cl C X.env) fp) ifs (tT X.K X.w noW mt))
    (he : ∀ (s : Shared) (H : Hp) (C : Addr) (cl : List (Str × Addr)) (fp : List Addr), ME (X.blk s H scope (compEnvC scope cl C X.env) fp) noW elt me)
    (to : ∀ En σ H, tS X.K X.w W m En σ H → tN X.K X.w W (lcM mi (own.map (·.2)) t mt me) σ H (fun x H1 => gName i x σ H1 En.nx))
    (hy : X.N[i]? = some y := by rfl) (hyl : X.env.scope.names.lookup y = some .local := by rfl) (hk : X.env.scope.kind = .function := by rfl) (hl : (py.line == pos.line) = true := by rfl) (ha : (scope.names.any fun (n, k) => n == y && (k == .local || k == .cell)) = false := by decide +kernel)
    (hs : ∀ x, foldedSetIterable iter X.env x = pure x := by intro _; rfl) : MS X W (.Assign [.Name y py] (.ListComp elt [⟨tg, iter, ifs, 0⟩] scope pos) spos) m :=
  PS.imp (ps_setLc hc hN hy hyl (sw_true hk hyl hl ha) hi ok hg ht he hs) fun En σ H h => tLc_ok sub (to En σ H h)
end
end MM
namespace MM
open PySem PySem.Spec PyProof.Rows L2

/-! ### defs -/
def spM (K : PySem.W.Frag) (w : World) (n : Nat) (m : FM) : Sp := fun vs H Q E => ∃ F μ S rs, Rel K w F μ S H ∧ RepRs K w F μ [] rs vs ∧ rs.length = n ∧ ∃ o S', m rs S = some (o, S') ∧ match o with
  | .ok r => ∀ F' μ' H' v, Grow F H F' H' μ μ' → Rel K w F' μ' S' H' → RepR K w F' μ' [] r v → Q v H'
  | .ex c fs => ∀ F' μ' H' d, Grow F H F' H' μ μ' → Rel K w F' μ' S' H' → ExD K w F' d fs → E (.ref (He.ga K c)) d H'
theorem spM_len {K : PySem.W.Frag} {w : World} {n : Nat} {m : FM} (vs : List V) (H : Hp) (Q : VK) (E : XK) (h : spM K w n m vs H Q E) : vs.length = n := by
  obtain ⟨F, μ, S, rs, h1, h2, h3, _⟩ := h
  rw [← h2.length, h3]
/-- a def by its name: level, number of parameters, what it reckons -/
structure Cl (P : Program) (w : World) (K : PySem.W.Frag) (mg : Str → Option Value) (base : Heap) (k : Nat) (x : Str) (n : Nat) (m : FM) : Prop where
  ex : ∃ (f : Addr) (fd : FuncData) (ps : List Str), FnOk P w K mg base (L2.CX P w) k f fd ps (spM K w n m) ∧ mg x = some (.ref f) ∧ PySem.W.keepIn K (.ref f) = true ∧ Binds K fd ps []
def closedRs (rs : List R) : Bool := rs.all closedR
def appF (f : FM) (rs : List R) : EM := fun _ S => if closedRs rs = true then f rs S else none
section
variable {X : Cx} {W : WX} {e : Expr} {es : List Expr} {ms : AM} {pos p : Pos}
theorem RepRs.closed {K : PySem.W.Frag} {w : World} {F : Hp} {μ : List Addr} {σ τ : L2.St} : ∀ {rs : List R} {vs : List V}, RepRs K w F μ σ rs vs → closedRs rs = true → RepRs K w F μ τ rs vs
  | _, _, .nil, _ => .nil
  | _, _, .cons h r, c => by
    unfold closedRs at c
    rw [List.all_cons, Bool.and_eq_true] at c
    exact .cons (h.closed c.1 τ) (RepRs.closed r c.2)
theorem app_ok {f : FM} {n : Nat} {σ : L2.St} {H : Hp} {Q : VK} {vs : List V} {as : List R} {F : Hp} {μ : List Addr} {ρ : Fr} {S : Sto} (h1 : Rel X.K X.w F μ S H) (h3 : RepRs X.K X.w F μ σ as vs) (hn : as.length = n)
    (h4 : coreAt X.K X.w (fun σ F μ => RepR X.K X.w F μ σ) W (appF f as ρ S) F μ σ H Q) : spM X.K X.w n f vs H Q (fun cls d H => W cls d σ H) := by
  unfold appF at h4
  by_cases c : closedRs as = true
  · rw [if_pos c] at h4
    obtain ⟨o, S', q1, q2⟩ := h4
    refine ⟨F, μ, S, as, h1, h3.closed c, hn, o, S', q1, ?_⟩
    cases o with
    | ok r =>
      refine fun F' μ' H' v g rl z => q2 F' μ' H' v g rl ?_
      cases r with
      | d x => exact z
      | loc m => exact z
      | slot i => have : ([] : L2.St)[i]? = some (some v) := z; simp at this
    | ex c fs => exact q2
  · rw [if_neg c] at h4; exact h4.none_
def callN (n : Nat) (f : FM) (ms : AM) : EM := bindM ms fun as => fun ρ S => if as.length = n then appF f as ρ S else none
theorem me_call {k j n : Nat} {x : Str} {f : FM} (c : Cl X.prog X.w X.K X.mg X.base k x n f) (hr : Room j X.A) (hk : k ≤ j) (tk : Takes X W) (ha : MA X W (e :: es) ms) (hg : Gl X x := by rfl) (hdb : (x == ("__debug__" : Str)) = false := by decide)
    (he : starEach (e :: es) X.env = (false, eval e X.env) :: starEach es X.env := by rfl) (hpl : (backTo pos (starEach es X.env)).any (·.1) = false := by rfl) : ME X W (.Call (.Name x p) (e :: es) [] pos) (callN n f ms) := by
  obtain ⟨a, fd, ps, F, hm, hkp, hb⟩ := c.ex
  refine PE.imp (pe_callS F (hr.mono hk) hg hm hkp hb (fun σ => passAt tk σ) ha hdb he hpl) fun σ H Q h => (core_bind (Ra := fun σ F μ => RepRs X.K X.w F μ σ) h).imp fun x H1 ⟨as, F, μ, ρ, S, h1, h2, h3, h4⟩ => ?_
  by_cases c : as.length = n
  · simp only [c, if_true] at h4
    exact app_ok h1 h3 c h4
  · simp only [c, if_false] at h4; exact h4.none_
/-- f(): nothing is let out -/
def call0 (f : FM) : EM := fun _ S => match f [] S with
  | some (.ok r, S') => some (.ok r, S')
  | _ => none
end

/-! ### values frozen -/
def frzCell : Cell → Option D
  | .lst ds => some (.lst ds)
  | .dic kvs => some (.dic kvs)
  | .dit kvs => some (.dit kvs)
  | _ => none
/-- a field that is a cell is frozen; the fields' data -/
def frzFs : List (Str × R) → Sto → Option (List (Str × D) × Sto)
  | [], S => some ([], S)
  | (x, .d d) :: r, S => (frzFs r S).map fun p => ((x, d) :: p.1, p.2)
  | (x, .loc n) :: r, S => match S[n]? with
    | some c => match frzCell c with
      | some d => (frzFs r (S.set n (.frz d))).map fun p => ((x, d) :: p.1, p.2)
      | none => none
    | none => none
  | _, _ => none
def frzR (r : R) : EM := fun _ S => match r with
  | .d x => some (.ok (.d x), S)
  | .loc n => match S[n]? with
    | some (.frz x) => some (.ok (.d x), S)
    | some (.ins C fs) => match frzFs fs S with
      | some (gs, S') => some (.ok (.d (.obj C gs)), S'.set n (.frz (.obj C gs)))
      | none => none
    | some c => match frzCell c with
      | some d => some (.ok (.d d), S.set n (.frz d))
      | none => none
    | none => none
  | .slot _ => none
def frzM (m : EM) : EM := bindM m frzR
section
variable {K : PySem.W.Frag} {w : World} {W : WX} {F F' H H' : Hp} {μ μ' : List Addr} {S S' : Sto} {ρ : Fr} {σ : L2.St}
theorem cell_freeze (r : Rel K w F μ S H) {n : Nat} {a : Addr} {c : Cell} {d : D} (hn : μ[n]? = some a) (hc : S[n]? = some c) (hd : frzCell c = some d) :
    ∃ F', Grow F H F' H μ μ ∧ Rel K w F' μ (S.set n (.frz d)) H ∧ Rep K w F' d (.ref a) := by
  have k := r.cell n a c hn hc
  cases c with
  | lst ds =>
    cases hd
    obtain ⟨hF, xs, hx, ra⟩ := k
    have z := (Step.fz r.le hx hF).2
    have rep : Rep K w (upd F a (.lst xs)) (.lst ds) (.ref a) := .lst upd_same (ra.mono z)
    exact ⟨_, Grow.freeze _ hn hF, r.freeze hn hF hx rep, rep⟩
  | dic ds =>
    cases hd
    obtain ⟨hF, xs, hx, ra⟩ := k
    have z := (Step.fz r.le hx hF).2
    have rep : Rep K w (upd F a (.dK xs)) (.dic ds) (.ref a) := .dic upd_same (ra.mono z)
    exact ⟨_, Grow.freeze _ hn hF, r.freeze hn hF hx rep, rep⟩
  | dit ds =>
    cases hd
    obtain ⟨hF, o', xs, hx, ra, z1, z2, z3⟩ := k
    have z := (Step.fz r.le hx hF).2
    have rep : Rep K w (upd F a (dxt a o' xs)) (.dit ds) (.ref a) := .dit upd_same (ra.mono z) z1 z2 z3
    exact ⟨_, Grow.freeze _ hn hF, r.freeze hn hF hx rep, rep⟩
  | ins C ds => cases hd
  | tab x => cases hd
  | frz x => cases hd
theorem fs_freeze : ∀ {fs : List (Str × R)} {vs : List (Str × V)} {F : Hp} {S S' : Sto} {gs : List (Str × D)}, Rel K w F μ S H → RepFR K w F μ fs vs → frzFs fs S = some (gs, S') →
    ∃ F', Grow F H F' H μ μ ∧ Rel K w F' μ S' H ∧ RepFs K w F' gs vs
  | [], _, F, S, S', gs, r, .nil, e => by
    cases e
    exact ⟨F, .refl, r, .nil⟩
  | (x, .d d) :: fs, _, F, S, S', gs, r, .cons h q, e => by
    unfold frzFs at e
    obtain ⟨p, h1, h2⟩ := Option.map_eq_some_iff.mp e
    cases h2
    obtain ⟨F', g, r', q'⟩ := fs_freeze r q h1
    exact ⟨F', g, r', .cons (Rep.mono g.f h) q'⟩
  | (x, .loc n) :: fs, _, F, S, S', gs, r, .cons h q, e => by
    unfold frzFs at e
    cases hc : S[n]? with
    | none => simp [hc] at e
    | some c =>
      cases hd : frzCell c with
      | none => simp [hc, hd] at e
      | some d =>
        simp only [hc, hd] at e
        obtain ⟨p, h1, h2⟩ := Option.map_eq_some_iff.mp e
        cases h2
        obtain ⟨a, ha, rfl⟩ := h
        obtain ⟨F1, g1, r1, rep1⟩ := cell_freeze r ha hc hd
        obtain ⟨F', g, r', q'⟩ := fs_freeze r1 (q.mono g1.f List.prefix_rfl) h1
        exact ⟨F', g1.trans g, r', .cons (Rep.mono g.f rep1) q'⟩
  | (x, .slot n) :: fs, _, F, S, S', gs, r, .cons h q, e => by cases e
/-- frzFs keeps cells that are no list, no dict -/
theorem frzFs_keep : ∀ {fs : List (Str × R)} {S S' : Sto} {gs : List (Str × D)} {n : Nat} {C : Str} {hs : List (Str × R)}, frzFs fs S = some (gs, S') → S[n]? = some (.ins C hs) → S'[n]? = some (.ins C hs)
  | [], S, S', gs, n, C, hs, e, h => by cases e; exact h
  | (x, .d d) :: fs, S, S', gs, n, C, hs, e, h => by
    unfold frzFs at e
    obtain ⟨p, h1, h2⟩ := Option.map_eq_some_iff.mp e
    cases h2
    exact frzFs_keep h1 h
  | (x, .loc m) :: fs, S, S', gs, n, C, hs, e, h => by
    unfold frzFs at e
    cases hc : S[m]? with
    | none => simp [hc] at e
    | some c =>
      cases hd : frzCell c with
      | none => simp [hc, hd] at e
      | some d =>
        simp only [hc, hd] at e
        obtain ⟨p, h1, h2⟩ := Option.map_eq_some_iff.mp e
        cases h2
        refine frzFs_keep h1 ?_
        have : m ≠ n := fun z => by subst z; rw [hc] at h; cases h; cases hd
        rw [List.getElem?_set_ne this]
        exact h
  | (x, .slot m) :: fs, S, S', gs, n, C, hs, e, h => by cases e
theorem frz_ok (r : Rel K w F μ S H) {x : R} {v : V} {y : R} (h : RepR K w F μ σ x v) (e : frzR x ρ S = some (.ok y, S')) : ∃ F', Grow F H F' H μ μ ∧ Rel K w F' μ S' H ∧ RepR K w F' μ σ y v := by
  unfold frzR at e
  cases x with
  | d d => cases e; exact ⟨F, .refl, r, h⟩
  | slot i => cases e
  | loc n =>
    obtain ⟨a, ha, rfl⟩ := h
    simp only at e
    cases hc : S[n]? with
    | none => simp [hc] at e
    | some c =>
      have go : ∀ {d : D}, frzCell c = some d → y = .d d → S' = S.set n (.frz d) → ∃ F', Grow F H F' H μ μ ∧ Rel K w F' μ S' H ∧ RepR K w F' μ σ y (.ref a) := fun {d} hd e1 e2 => by
        obtain ⟨F', g, r', rep⟩ := cell_freeze r ha hc hd
        subst e1 e2
        exact ⟨F', g, r', rep⟩
      cases c with
      | frz x =>
        simp only [hc] at e
        cases e
        exact ⟨F, .refl, r, r.cell n a _ ha hc⟩
      | ins C fs =>
        simp only [hc] at e
        cases hf : frzFs fs S with
        | none => simp [hf] at e
        | some p =>
          obtain ⟨gs, S1⟩ := p
          simp only [hf] at e
          cases e
          obtain ⟨hF, dx, vs, hx, ra⟩ := r.cell n a _ ha hc
          obtain ⟨F1, g1, r1, q1⟩ := fs_freeze r ra hf
          have hF1 : F1 a = none := by
            have k := r1.cell n a _ ha (frzFs_keep hf hc)
            exact k.1
          have z := (Step.fz r1.le hx hF1).2
          have rep : Rep K w (upd F1 a (.ins (He.ga K C) dx vs)) (.obj C gs) (.ref a) := .obj upd_same (q1.mono z)
          exact ⟨_, g1.trans (Grow.freeze _ ha hF1), r1.freeze ha hF1 hx rep, rep⟩
      | lst ds => simp only [hc, frzCell] at e; cases e; exact go rfl rfl rfl
      | dic ds => simp only [hc, frzCell] at e; cases e; exact go rfl rfl rfl
      | dit ds => simp only [hc, frzCell] at e; cases e; exact go rfl rfl rfl
      | tab x => simp only [hc, frzCell] at e; cases e
theorem frzR_ok {x : R} {ρ : Fr} {S : Sto} {c : Str} {fs : List (Str × D)} : frzR x ρ S ≠ some (.ex c fs, S') := by
  intro e
  unfold frzR at e
  cases x with
  | d d => cases e
  | slot i => cases e
  | loc n =>
    simp only at e
    split at e
    · cases e
    · split at e <;> cases e
    · split at e <;> cases e
    · cases e
end
theorem me_frz {X : Cx} {W : WX} {e : Expr} {m : EM} (h : ME X W e m) : ME X W e (frzM m) := PE.imp h fun σ H Q q => (core_bind (Ra := fun σ F μ => RepR X.K X.w F μ σ) q).imp fun x H1 ⟨a, F, μ, ρ, S, h1, h2, h3, o, S', h4, h5⟩ => by
  cases o with
  | ex c fs => exact absurd h4 frzR_ok
  | ok y =>
    obtain ⟨F', g, r, rep⟩ := frz_ok h1 h3 h4
    exact h5 F' μ H1 x g r rep
end MM
namespace MM
open PySem PySem.Spec PyProof.Rows L2

/-! ### a def as a function -/
/-- what a body's end hands back; keep: the store as it is left, else cut back to its length at the entry -/
def finM (keep : Bool) (n : Nat) (r : R) (S' : Sto) : Option (Out R × Sto) := match keep with
  | true => if closedR r = true then some (.ok r, S') else none
  | false => match r with
    | .d x => if ((S'.take n).all (cellLoc n)) = true then some (.ok (.d x), S'.take n) else none
    | _ => none
def finX (keep : Bool) (n : Nat) (c : Str) (fs : List (Str × D)) (S' : Sto) : Option (Out R × Sto) := match keep with
  | true => some (.ex c fs, S')
  | false => if ((S'.take n).all (cellLoc n)) = true then some (.ex c fs, S'.take n) else none
def frame0 (rs : List R) (nl : Nat) : Fr := rs.map (fun r => some (.r r)) ++ List.replicate nl none
def funM (keep : Bool) (np nl : Nat) (body : SM) : FM := fun rs S => if rs.length = np ∧ closedRs rs = true then match body (frame0 rs nl) S with
  | some (.nx, _, S') => finM keep S.length (.d .non) S'
  | some (.rt r, _, S') => finM keep S.length r S'
  | some (.ex c fs, _, S') => finX keep S.length c fs S'
  | _ => none
  else none
section
variable {K : PySem.W.Frag} {w : World} {W : WX} {F F' H H' : Hp} {μ μ' : List Addr} {S S' : Sto} {ρ : Fr} {σ : L2.St} {B : Bs}
theorem repRs_get {τ : L2.St} : ∀ {rs : List R} {vs : List V} {i : Nat} {r : R}, RepRs K w F μ τ rs vs → rs[i]? = some r → ∃ v, vs[i]? = some v ∧ RepR K w F μ τ r v
  | _, _, _, _, .nil, e => by simp at e
  | _, _, 0, _, .cons h _, e => by simp at e; subst e; exact ⟨_, rfl, h⟩
  | _, _, i + 1, r, .cons _ q, e => by
    obtain ⟨v, h1, h2⟩ := repRs_get (i := i) (r := r) q (by simpa using e)
    exact ⟨v, by simpa using h1, h2⟩
theorem frame_start {rs : List R} {vs : List V} {N : List Str} {nl : Nat} (rel : Rel K w F μ S H) (h : RepRs K w F μ [] rs vs) (hN : N.length = rs.length + nl) : RelFr K w F μ H (frame0 rs nl) (L2.start N vs) := by
  have hl := h.length
  have own : ∀ (i : Nat) (c : Cell), (frame0 rs nl)[i]? ≠ some (some (.own c)) := fun i c e => by
    unfold frame0 at e
    by_cases q : i < rs.length
    · rw [List.getElem?_append_left (by simpa using q), List.getElem?_map] at e
      cases z : rs[i]? with
      | none => rw [z] at e; cases e
      | some r => rw [z] at e; cases e
    · rw [List.getElem?_append_right (by simpa using Nat.le_of_not_lt q)] at e
      obtain ⟨_, e2⟩ := List.getElem?_eq_some_iff.mp e
      simp at e2
  refine ⟨?_, fun i y e => ?_, fun i c e => absurd e (own i c), fun i j c d a e => absurd e (own i c)⟩
  · simp [frame0, L2.start, hN, hl]
  · unfold frame0 at e
    by_cases q : i < rs.length
    · rw [List.getElem?_append_left (by simpa using q), List.getElem?_map] at e
      cases z : rs[i]? with
      | none => rw [z] at e; cases e
      | some r =>
        rw [z] at e
        cases e
        obtain ⟨v, h1, h2⟩ := repRs_get h z
        refine ⟨v, ?_, h2⟩
        have hv : i < vs.length := by rw [← hl]; exact q
        unfold L2.start
        rw [List.getElem?_append_left (by simpa using hv), List.getElem?_map, h1]
        rfl
    · rw [List.getElem?_append_right (by simpa using Nat.le_of_not_lt q)] at e
      obtain ⟨_, e2⟩ := List.getElem?_eq_some_iff.mp e
      simp at e2
end
section
variable {P : Program} {w : World} {K : PySem.W.Frag} {mg : Str → Option Value} {base : Heap}
/-- what a body may lean on -/
abbrev XOf (P : Program) (w : World) (K : PySem.W.Frag) (mg : Str → Option Value) (base : Heap) (N : List Str) (qual : Str) (scope : Scope) (f : Addr) (cdv : Value) (A : Around) (outer : List Env) (s : Shared) (H : Hp) (E : XK) : Cx := cxOf (L2.CX P w) P w K mg base N qual scope f cdv A outer s H E
theorem fun_tS {keep : Bool} {N : List Str} {np nl : Nat} {m : SM} {vs : List V} {H : Hp} {Q : VK} {E : XK} (hN : N.length = np + nl) (h : spM K w np (funM keep np nl m) vs H Q E) :
    tS K w (fun cls d _ H => E cls d H) m { nx := fun _ H' => Q .non H', rt := Q } (L2.start N vs) H := by
  obtain ⟨F0, μ0, S0, rs, h1, h2, h3, o, S', h4, h5⟩ := h
  unfold funM at h4
  by_cases c : rs.length = np ∧ closedRs rs = true
  · rw [if_pos c] at h4
    have fr := frame_start (N := N) (nl := nl) h1 h2 (by rw [h3]; exact hN)
    refine ⟨⟨F0, H, μ0⟩, F0, μ0, frame0 rs nl, S0, ⟨h1, fr, .refl, fun i cc a e _ => ?_⟩, ?_⟩
    · obtain ⟨p, _, _, _, _, _⟩ := fr.own i cc e
      unfold frame0 at e
      by_cases q : i < rs.length
      · rw [List.getElem?_append_left (by simpa using q), List.getElem?_map] at e
        cases z : rs[i]? with
        | none => rw [z] at e; cases e
        | some r => rw [z] at e; cases e
      · rw [List.getElem?_append_right (by simpa using Nat.le_of_not_lt q)] at e
        obtain ⟨_, e2⟩ := List.getElem?_eq_some_iff.mp e
        simp at e2
    · -- the end
      have cut : ∀ {F' : Hp} {μ' : List Addr} {S1 : Sto} {H' : Hp}, Grow F0 H F' H' μ0 μ' → Rel K w F' μ' S1 H' → ((S1.take S0.length).all (cellLoc S0.length)) = true → Grow F0 H F' H' μ0 μ0 ∧ Rel K w F' μ0 (S1.take S0.length) H' := fun {F' μ' S1 H'} g r hc => by
        have r2 := r.cut S0.length hc
        have e : μ'.take S0.length = μ0 := by
          obtain ⟨t, e⟩ := g.p
          rw [← e, ← h1.len]
          simp
        rw [e] at r2
        exact ⟨⟨g.f, List.prefix_rfl, g.h, g.nf, fun a q1 q2 => absurd q1 q2⟩, r2⟩
      have fin : ∀ {r : R} {S1 : Sto}, finM keep S0.length r S1 = some (o, S') → ∀ {F' : Hp} {μ' : List Addr} {σ' : L2.St} {H' : Hp} {v : V}, Grow F0 H F' H' μ0 μ' → Rel K w F' μ' S1 H' → RepR K w F' μ' σ' r v → Q v H' := fun {r S1} e {F' μ' σ' H' v} g rl z => by
        cases keep with
        | true =>
          simp only [finM] at e
          by_cases cc : closedR r = true
          · rw [if_pos cc] at e; cases e
            exact h5 F' μ' H' v g rl (z.closed cc [])
          · rw [if_neg cc] at e; cases e
        | false =>
          simp only [finM] at e
          split at e
          · rename_i d
            by_cases cc : ((S1.take S0.length).all (cellLoc S0.length)) = true
            · rw [if_pos cc] at e; cases e
              obtain ⟨g2, r2⟩ := cut g rl cc
              exact h5 F' μ0 H' v g2 r2 z
            · rw [if_neg cc] at e; cases e
          · cases e
      cases q : m (frame0 rs nl) S0 with
      | none => simp [q] at h4
      | some r1 =>
        obtain ⟨fl, ρ1, S1⟩ := r1
        simp only [q] at h4
        refine ⟨fl, ρ1, S1, rfl, fun F' μ' σ' H' e x => ?_⟩
        cases fl with
        | nx => exact fin h4 x.gr x.rel (show RepR K w F' μ' σ' (.d .non) .non from .non)
        | rt r => exact fun v z => fin h4 x.gr x.rel z
        | bk => simp at h4
        | ct => simp at h4
        | ex cn fs =>
          intro d hd
          simp only at h4
          cases keep with
          | true => simp only [finX] at h4; cases h4; exact h5 F' μ' H' d x.gr x.rel hd
          | false =>
            simp only [finX] at h4
            by_cases cc : ((S1.take S0.length).all (cellLoc S0.length)) = true
            · rw [if_pos cc] at h4; cases h4
              obtain ⟨g2, r2⟩ := cut x.gr x.rel cc
              exact h5 F' μ0 H' d g2 r2 hd
            · rw [if_neg cc] at h4; cases h4
  · rw [if_neg c] at h4; cases h4
theorem fn_m {keep : Bool} {x qual : Str} {params : Arguments} {body : List Stmt} {scope : Scope} {f : Addr} {fd : FuncData} {N ps : List Str} {k nl : Nat} {m : SM} (F : FunD K x qual params body scope [] [] f fd) (S : FnScope N ps scope) (hN : N.length = ps.length + nl)
    (hb : ∀ (cdv : Value) (A : Around) (outer : List Env) (s : Shared) (H : Hp) (E : XK), Room k (A.deeper (envOfC qual scope s.heap.objs.size f cdv)) → Takes (XOf P w K mg base N qual scope f cdv A outer s H E) (fun cls d _ H => E cls d H) →
      PassesOwn (model P w) (A.deeper (envOfC qual scope s.heap.objs.size f cdv)) (envOfC qual scope s.heap.objs.size f cdv) (XOf P w K mg base N qual scope f cdv A outer s H E).xe →
      MSs (XOf P w K mg base N qual scope f cdv A outer s H E) (fun cls d _ H => E cls d H) body m) :
    FnOk P w K mg base (L2.CX P w) (k + 1) f fd ps (spM K w ps.length (funM keep ps.length nl m)) := by
  refine F.ok S (fun vs H Q E h => spM_len vs H Q E h) fun cdv A outer s H vs Q E hr h => ?_
  exact ⟨_, hb cdv A outer s H E hr (takes_of rfl rfl rfl rfl) (passes_of rfl), fun_tS hN h⟩
end

/-! ### raise -/
def raiseM (c : Str) : SM := fun ρ S => some (.ex c [], ρ, S)
section
variable {X : Cx} {W : WX} {pos : Pos}
/-- an own class over ValueError without __init__ -/
structure Exc (X : Cx) (x : Str) : Prop where
  q : PySem.W.excIn X.K (He.ga X.K x) He.veBase "ValueError.__new__" = true
  g : X.mg x = some (.ref (He.ga X.K x))
  k : PySem.W.keepIn X.K (.ref (He.ga X.K x)) = true
  b : PySem.W.subIn X.K (.ref (He.ga X.K x)) (.type "BaseException") = some true
  t : PySem.W.typeIn X.K (.ref (He.ga X.K x)) = some (.type "type")
theorem pmk_own0 {x : Str} {p : Pos} (e : Exc X x) (hg : Gl X x) (hdb : (x == ("__debug__" : Str)) = false := by decide) : PMk X (.Call (.Name x p) [] [] pos) (fun _ H Q => Q (.ref (He.ga X.K x)) none H) := by
  intro pins s σ H Q I h
  refine wpAny_Call_Name_kw (ld_glob I hg e.g ?_ hdb)
  refine PySem.W.callWith_K0 I.kIn e.k ?_
  show wpAny _ _ (call (.ref (He.ga X.K x)) []) _ _ _
  obtain ⟨bm, N, nm, qn, bs, hdct, sn, sub, ab, col, dd, k0, k1, k2, k3, k5, mN, hC, hN, hni, T⟩ := exc_obj I.kIn e.q
  refine wpAny_call_exc_subT F.excBase_ValueError T hC hN hni (fun h' e2 hm => ?_) (by show 0 ≤ sizeLine; omega)
  exact mk_of I hm (raises_own e.b e.t) h (I.hok.gone hm.new)
theorem ms_raise {x : Str} {p pos2 : Pos} (e : Exc X x) (tk : Takes X W) (hc : X.calm = true := by rfl) (hg : Gl X x := by rfl) (hdb : (x == ("__debug__" : Str)) = false := by decide) : MS X W (.Raise (some (.Call (.Name x p) [] [] pos)) none pos2) (raiseM x) :=
  PS.imp (ps_raise hc tk (pmk_own0 e hg hdb)) fun En σ H ⟨B, F, μ, ρ, S, h1, fl, ρ', S', h2, h3⟩ => by
    cases h2
    exact h3 F μ σ H (Same.refl _) h1 none (.inl ⟨rfl, rfl⟩)
end
end MM
namespace MM
open PySem PySem.Spec PyProof.Rows L2

/-! ### instances -/
def makeM (C : Str) (n : Nat) (f : FM) (ms : AM) : EM := bindM ms fun as => fun _ S => if closedRs as = true ∧ as.length + 1 = n then
    match f (.loc S.length :: as) (S ++ [.ins C []]) with
    | some (.ok (.d .non), S') => some (.ok (.loc S.length), S')
    | some (.ex c fs, S') => some (.ex c fs, S')
    | _ => none
  else none
def getFld (C f : Str) (r : R) (S : Sto) : Option R := match r with
  | .d (.obj D fs) => if D = C then (fs.lookup f).map .d else none
  | .loc n => match S[n]? with
    | some (.ins D fs) => if D = C then fs.lookup f else none
    | some (.frz (.obj D fs)) => if D = C then (fs.lookup f).map .d else none
    | _ => none
  | _ => none
def fldR (C f : Str) (r : R) : EM := fun _ S => match getFld C f r S with
  | some x => if closedR x = true then some (.ok x, S) else none
  | none => none
def fldM (C f : Str) (mo : EM) : EM := bindM mo (fldR C f)
def putFM (C f : Str) (a o : R) : SM := fun ρ S => match o with
  | .loc n => match S[n]? with
    | some (.ins D fs) => if D = C ∧ fs.length < 1000 ∧ closedR a = true then some (.nx, ρ, S.set n (.ins D (putR f a fs))) else none
    | _ => none
  | _ => none
def sfldM (C f : Str) (me mo : EM) : SM := thenM me fun a => thenM mo fun o => putFM C f a o
/-- an instance of the class whose fields have not this name -/
def isIns (C m : Str) (r : R) : EM := fun _ S => match r with
  | .d (.obj D fs) => if D = C ∧ fs.lookup m = none then some (.ok r, S) else none
  | .loc n => match S[n]? with
    | some (.ins D fs) => if D = C ∧ fs.lookup m = none then some (.ok r, S) else none
    | some (.frz (.obj D fs)) => if D = C ∧ fs.lookup m = none then some (.ok (.d (.obj D fs)), S) else none
    | _ => none
  | _ => none
def methO (C m : Str) (n : Nat) (f : FM) (mo : EM) (ms : AM) : EM := bindM (bindM mo (isIns C m)) fun o => bindM ms fun as => fun ρ S => if as.length + 1 = n then appF f (o :: as) ρ S else none
section
variable {X : Cx} {W : WX} {e o : Expr} {es : List Expr} {ms : AM} {mo me : EM} {pos p apos pos' : Pos}
theorem run_makeS {CX : CXT} {k : Nat} {C f : Addr} {fd : FuncData} {ps : List Str} {sp : Sp} {E : XK} {pins : List (Addr × Obj)} {σ : L2.St} {H : Hp} {s : Shared} {Q : VK} {us : List Value} {vs : List V} (M : Mk X.K C f) (F : FnOk X.prog X.w X.K X.mg X.base CX k f fd ps sp) (hr : Room (k + 1) X.A) (hb : Binds X.K fd ps [])
    (hx : PassesAt CX X σ E) (I : Inv X pins σ H s) (r : Vals vs us)
    (h : ∀ x dx, H x = none → H dx = none → dx ≠ x → sp (.ref x :: vs) (upd (upd H dx (.own x)) x (.ins C dx [])) (fun v H2 => v = .non ∧ Q (.ref x) H2) E) :
    wpAny (model X.prog X.w) X.A (call (.ref C) us) (EP X pins σ Q) X.xe s := by
  have hq := h (s.heap.objs.size + 1) s.heap.objs.size (I.hok.fresh (Nat.le_succ _)) (I.hok.fresh (Nat.le_refl _)) (Nat.ne_of_lt (Nat.lt_succ_self _))
  have I2 := Inv.made (C := C) I
  have r2 : Vals (V.ref (s.heap.objs.size + 1) :: vs) (Value.ref (s.heap.objs.size + 1) :: us) := .cons rfl r
  have hl : ((Value.ref (s.heap.objs.size + 1) :: us) ++ []).length = ps.length := by
    have e := r2.length
    rw [F.len _ _ _ _ hq] at e
    simpa using e.symm
  have hb2 := hb _ (Value.ref (s.heap.objs.size + 1) :: us) I2.kIn hl
  rw [List.append_nil] at hb2
  refine wpAny_call (make_map (f := f) I.kIn M.makes M.init (beq_iff_eq.mp M.fn) (codeAny_mono (F.run _ X.stack _ _ ⟨Value.ref (s.heap.objs.size + 1) :: us, []⟩ (Value.ref (s.heap.objs.size + 1) :: us) _ _ E (hr.make C us [])
    (I2.env0.make C us []) hb2 r2 hq) fun r s' hq' => ?_))
  cases r with
  | error e => exact hx pins _ _ e s' I2 hq'
  | ok fl =>
    cases fl with
    | ret u =>
      obtain ⟨v, H', I3, rv, ev, q3⟩ := I2.after hq'
      subst ev
      exact ⟨rv, ⟨V.ref (s.heap.objs.size + 1), H', I3, rfl, q3⟩⟩
    | next => exact False.elim hq'
    | brk => exact False.elim hq'
    | cont => exact False.elim hq'
/-- a class: made by __init__ -/
structure ClM (P : Program) (w : World) (K : PySem.W.Frag) (mg : Str → Option Value) (base : Heap) (k : Nat) (x : Str) (n : Nat) (m : FM) : Prop where
  ex : ∃ (f : Addr) (fd : FuncData) (ps : List Str), FnOk P w K mg base (L2.CX P w) k f fd ps (spM K w n m) ∧ mg x = some (.ref (He.ga K x)) ∧ Mk K (He.ga K x) f ∧ Binds K fd ps []
theorem make_ok {C : Str} {n : Nat} {f : FM} {σ : L2.St} {H F : Hp} {μ : List Addr} {S : Sto} {as : List R} {vs : List V} {Q : VK} (h1 : Rel X.K X.w F μ S H) (h3 : RepRs X.K X.w F μ σ as vs)
    (h4 : coreAt X.K X.w (fun σ F μ => RepR X.K X.w F μ σ) W ((if closedRs as = true ∧ as.length + 1 = n then
    match f (.loc S.length :: as) (S ++ [.ins C []]) with
    | some (.ok (.d .non), S') => some (.ok (R.loc S.length), S')
    | some (.ex c fs, S') => some (.ex c fs, S')
    | _ => none
  else none) : Option (Out R × Sto)) F μ σ H Q) : ∀ x dx, H x = none → H dx = none → dx ≠ x → spM X.K X.w n f (.ref x :: vs) (upd (upd H dx (.own x)) x (.ins (He.ga X.K C) dx [])) (fun v H2 => v = .non ∧ Q (.ref x) H2) (fun cls d H => W cls d σ H) := by
  intro x dx hx hdx hne
  by_cases c : closedRs as = true ∧ as.length + 1 = n
  · rw [if_pos c] at h4
    have st : Step F H F (upd H dx (.own x)) := ⟨Same.refl _, same_upd hdx, h1.le.trans (same_upd hdx), fun _ q1 q2 => absurd q2 q1⟩
    have r1 := h1.step st
    have hx1 : upd H dx (.own x) x = none := by rw [upd_ne (Ne.symm hne)]; exact hx
    have hF : F x = none := h1.le.free hx
    have r2 := r1.alloc (o := .ins (He.ga X.K C) dx []) (c := .ins C []) hx1 ⟨hF, dx, [], upd_same, .nil⟩
    have g2 := (st.grow (μ := μ)).trans (Grow.alloc r1 (.ins (He.ga X.K C) dx []) hx1)
    have hloc : RepR X.K X.w F (μ ++ [x]) [] (.loc S.length) (.ref x) := ⟨x, by rw [← h1.len]; simp, rfl⟩
    refine ⟨F, μ ++ [x], S ++ [.ins C []], .loc S.length :: as, r2, .cons hloc ((h3.closed c.1).mono (Same.refl _) (List.prefix_append _ _)), by rw [List.length_cons]; exact c.2, ?_⟩
    obtain ⟨o, S', q1, q2⟩ := h4
    split at q1
    · rename_i S1 q
      cases q1
      refine ⟨.ok (.d .non), S', q, fun F' μ' H' v g r z => ?_⟩
      cases z
      exact ⟨rfl, q2 F' μ' H' (.ref x) (g2.trans g) r ⟨x, get_of_prefix g.p (by rw [← h1.len]; simp), rfl⟩⟩
    · rename_i cn fs S1 q
      cases q1
      exact ⟨.ex cn fs, S', q, fun F' μ' H' d g r z => q2 F' μ' H' d (g2.trans g) r z⟩
    · cases q1
  · rw [if_neg c] at h4; exact h4.none_
theorem me_make {k j n : Nat} {x : Str} {f : FM} (c : ClM X.prog X.w X.K X.mg X.base k x n f) (hr : Room j X.A) (hk : k + 1 ≤ j) (tk : Takes X W) (ha : MA X W (e :: es) ms) (hg : Gl X x := by rfl) (hdb : (x == ("__debug__" : Str)) = false := by decide)
    (he : starEach (e :: es) X.env = (false, eval e X.env) :: starEach es X.env := by rfl) (hpl : (backTo pos (starEach es X.env)).any (·.1) = false := by rfl) : ME X W (.Call (.Name x p) (e :: es) [] pos) (makeM x n f ms) := by
  obtain ⟨a, fd, ps, F, hm, M, hb⟩ := c.ex
  refine ⟨fun pins s σ H Q I h => ?_⟩
  refine wpAny_Call_Name_kw (ld_glob I hg hm ?_ hdb)
  refine PySem.W.callWith_K (h₀ := X.base) I.ok.mod.kin M.kp (thn (ha.run pos pins s σ H _ I (core_bind (Ra := fun σ F μ => RepRs X.K X.w F μ σ) h)) fun us s1 ⟨vs, H1, I1, r, as, F1, μ, ρ, S, h1, h2, h3, h4⟩ => ⟨I1.kIn, ?_⟩) he hpl
  exact run_makeS M F (hr.mono hk) hb (passAt tk σ) I1 r (make_ok h1 h3 h4)

/-! fields -/
/-- facts of a class -/
structure FldOk (K : PySem.W.Frag) (C f : Str) : Prop where
  c : Cls K (He.ga K C)
  n : NoAttr K (He.ga K C) f
theorem getFld_ok {K : PySem.W.Frag} {w : World} {C f : Str} {F H : Hp} {μ : List Addr} {S : Sto} {σ : L2.St} {r x : R} {v : V} (h1 : Rel K w F μ S H) (h3 : RepR K w F μ σ r v) (h : getFld C f r S = some x) :
    ∃ a dx fs u, v = .ref a ∧ H a = some (.ins (He.ga K C) dx fs) ∧ fs.lookup f = some u ∧ RepR K w F μ [] x u := by
  have ob : ∀ {D : Str} {fs : List (Str × MM.D)} {v : V}, Rep K w F (.obj D fs) v → (if D = C then (fs.lookup f).map R.d else none) = some x → ∃ a dx fs u, v = .ref a ∧ H a = some (.ins (He.ga K C) dx fs) ∧ fs.lookup f = some u ∧ RepR K w F μ [] x u := fun {D fs v} hh e => by
    by_cases c : D = C
    · rw [if_pos c] at e
      subst c
      obtain ⟨d, e1, rfl⟩ := Option.map_eq_some_iff.mp e
      cases hh with
      | obj hF hr =>
        obtain ⟨u, g1, g2⟩ := hr.get e1
        exact ⟨_, _, _, u, rfl, h1.le _ _ hF, g1, g2⟩
    · rw [if_neg c] at e; cases e
  cases r with
  | slot i => cases h
  | d d =>
    unfold getFld at h
    cases d with
    | obj D fs => exact ob h3 h
    | _ => cases h
  | loc n =>
    obtain ⟨a, ha, rfl⟩ := h3
    unfold getFld at h
    simp only at h
    cases q : S[n]? with
    | none => simp [q] at h
    | some c =>
      have k := h1.cell n a c ha q
      cases c with
      | ins D fs =>
        simp only [q] at h
        by_cases c : D = C
        · rw [if_pos c] at h
          subst c
          obtain ⟨hF, dx, vs, g1, g2⟩ := k
          obtain ⟨u, g3, g4⟩ := g2.get h
          exact ⟨a, dx, vs, u, rfl, g1, g3, g4⟩
        · rw [if_neg c] at h; cases h
      | frz d =>
        cases d with
        | obj D fs => simp only [q] at h; exact ob k h
        | _ => simp [q] at h
      | _ => simp [q] at h
theorem me_fld {C f : Str} (c : FldOk X.K C f) (he : ME X W e me) (hb : attributeBase e f X.env (eval e X.env) = eval e X.env := by rfl) : ME X W (.Attribute e f pos) (fldM C f me) :=
  PE.imp (pe_fld he hb) fun σ H Q h => (core_bind (Ra := fun σ F μ => RepR X.K X.w F μ σ) h).imp fun x H1 ⟨r, F, μ, ρ, S, h1, h2, h3, h4⟩ => by
    unfold fldR at h4
    cases q : getFld C f r S with
    | none => simp only [q] at h4; exact h4.none_
    | some y =>
      simp only [q] at h4
      by_cases cl : closedR y = true
      · rw [if_pos cl] at h4
        obtain ⟨a, dx, fs, u, rfl, g1, g2, g3⟩ := getFld_ok h1 h3 q
        exact ⟨a, _, dx, fs, u, rfl, g1, c.c, c.n, g2, h4.ok .refl h1 (g3.closed cl σ)⟩
      · rw [if_neg cl] at h4; exact h4.none_
theorem ms_fld {C f : Str} (c : FldOk X.K C f) (ho : ME X W o mo) (he : ME X W e me) (hs : swapsWith e (some (.Attribute o f pos')) pos.line X.env = pure false := by rfl) : MS X W (.Assign [.Attribute o f pos'] e pos) (sfldM C f me mo) :=
  PS.imp (ps_fld ho he hs) fun En σ H h => (flow_then2 (Rb := fun σ F μ => RepR X.K X.w F μ σ) h).imp fun x H1 h => core.imp h fun y H2 ⟨a, b, B, F, μ, ρ, S, h1, h2, h3, h4⟩ => by
    unfold putFM at h4
    cases b with
    | d d => exact h4.none_
    | slot i => exact h4.none_
    | loc n =>
      simp only at h4
      cases q : S[n]? with
      | none => simp only [q] at h4; exact h4.none_
      | some cc =>
        cases cc with
        | ins D fs =>
          simp only [q] at h4
          by_cases cl : D = C ∧ fs.length < 1000 ∧ closedR a = true
          · rw [if_pos cl] at h4
            obtain ⟨p, hp, rfl⟩ := h3
            obtain ⟨rfl, hl, hc⟩ := cl
            obtain ⟨hF, dx, vs, g1, g2⟩ := h1.rel.cell n p _ hp q
            refine ⟨p, _, dx, vs, rfl, g1, c.c, c.n, by rw [← g2.length]; exact hl, h4.nx (μ := μ) ?_⟩
            exact ⟨h1.rel.put hp hF ⟨hF, dx, _, upd_same, g2.put (h2.closed hc [])⟩, h1.fr.loc_put hp, h1.gr.trans (Grow.put _ hp), h1.ow⟩
          · rw [if_neg cl] at h4; exact h4.none_
        | _ => simp only [q] at h4; exact h4.none_
/-! methods -/
structure ClO (P : Program) (w : World) (K : PySem.W.Frag) (mg : Str → Option Value) (base : Heap) (k : Nat) (C m : Str) (n : Nat) (f : FM) : Prop where
  ex : ∃ (g : Addr) (fd : FuncData) (ps : List Str), FnOk P w K mg base (L2.CX P w) k g fd ps (spM K w n f) ∧ Cls K (He.ga K C) ∧ Meth K (He.ga K C) m g ∧ Binds K fd ps []
theorem isIns_ok {K : PySem.W.Frag} {w : World} {C m : Str} {F H : Hp} {μ : List Addr} {S : Sto} {σ : L2.St} {ρ : Fr} {r : R} {v : V} {o : Out R} {S' : Sto} (h1 : Rel K w F μ S H) (h3 : RepR K w F μ σ r v) (h : isIns C m r ρ S = some (o, S')) :
    S' = S ∧ ∃ y a dx fs, o = .ok y ∧ RepR K w F μ σ y v ∧ closedR y = true ∧ v = .ref a ∧ H a = some (.ins (He.ga K C) dx fs) ∧ fs.lookup m = none := by
  cases r with
  | slot i => cases h
  | d d =>
    unfold isIns at h
    cases d with
    | obj D fs =>
      simp only at h
      by_cases c : D = C ∧ fs.lookup m = none
      · rw [if_pos c] at h
        cases h
        obtain ⟨rfl, hl⟩ := c
        cases h3 with
        | obj hF hr => exact ⟨rfl, _, _, _, _, rfl, .obj hF hr, rfl, rfl, h1.le _ _ hF, hr.none hl⟩
      · rw [if_neg c] at h; cases h
    | _ => cases h
  | loc n =>
    obtain ⟨a, ha, rfl⟩ := h3
    unfold isIns at h
    simp only at h
    cases q : S[n]? with
    | none => simp [q] at h
    | some c =>
      have k := h1.cell n a c ha q
      cases c with
      | ins D fs =>
        simp only [q] at h
        by_cases c : D = C ∧ fs.lookup m = none
        · rw [if_pos c] at h
          cases h
          obtain ⟨rfl, hl⟩ := c
          obtain ⟨hF, dx, vs, g1, g2⟩ := k
          exact ⟨rfl, _, a, dx, vs, rfl, ⟨a, ha, rfl⟩, rfl, rfl, g1, g2.none hl⟩
        · rw [if_neg c] at h; cases h
      | frz d =>
        cases d with
        | obj D fs =>
          simp only [q] at h
          by_cases c : D = C ∧ fs.lookup m = none
          · rw [if_pos c] at h
            cases h
            obtain ⟨rfl, hl⟩ := c
            have k' : Rep K w F (.obj D fs) (.ref a) := k
            cases k' with
            | obj hF hr => exact ⟨rfl, _, a, _, _, rfl, .obj hF hr, rfl, rfl, h1.le _ _ hF, hr.none hl⟩
          · rw [if_neg c] at h; cases h
        | _ => simp [q] at h
      | _ => simp [q] at h
theorem run_fnS' {CX : CXT} {k : Nat} {f : Addr} {fd : FuncData} {ps : List Str} {sp : Sp} {E : XK} {pins : List (Addr × Obj)} {σ : L2.St} {H : Hp} {s : Shared} {Q : VK} {us : List Value} {vs : List V} (F : FnOk X.prog X.w X.K X.mg X.base CX k f fd ps sp) (hr : Room k X.A) (hb : Binds X.K fd ps []) (hx : PassesAt CX X σ E)
    (I : Inv X pins σ H s) (r : Vals vs us) (h : sp vs H Q E) : wpAny (model X.prog X.w) X.A (call (.ref f) us) (EP X pins σ Q) X.xe s := by
  have hl : (us ++ []).length = ps.length := by rw [List.append_nil, ← r.length]; exact F.len _ _ _ _ h
  have hb2 := hb s us I.kIn hl
  rw [List.append_nil] at hb2
  refine wpAny_call (codeAny_mono (F.run X.A X.stack s H ⟨us, []⟩ us vs Q E hr I.env0 hb2 r h) fun r s' hq => ?_)
  cases r with
  | error e => exact hx pins H s e s' I hq
  | ok fl =>
    cases fl with
    | ret u => exact I.after hq
    | next => exact False.elim hq
    | brk => exact False.elim hq
    | cont => exact False.elim hq
theorem me_meth {k j n : Nat} {C m : Str} {f : FM} {pl : Sem Bool} (c : ClO X.prog X.w X.K X.mg X.base k C m n f) (hr : Room j X.A) (hk : k ≤ j) (tk : Takes X W) (ho : ME X W o mo) (ha : MA X W (e :: es) ms)
    (hst : starEach (e :: es) X.env = (false, eval e X.env) :: starEach es X.env := by rfl) (hpl : (backTo pos (starEach es X.env)).any (·.1) = false := by rfl)
    (ht : eval (.Call (.Attribute o m apos) (e :: es) [] pos) X.env = (do
      let ov ← eval o X.env
      standAt apos.atName
      let (f, first) ← holding [ov] (getMethod ov m pl)
      callWith pos f first (backTo pos (starEach (e :: es) X.env)) (backToKw pos (keywordEach [] X.env))) := by rfl) :
    ME X W (.Call (.Attribute o m apos) (e :: es) [] pos) (methO C m n f mo ms) := by
  obtain ⟨g, fd, ps, F, hc, hm, hb⟩ := c.ex
  refine ⟨fun pins s σ H Q I h => ?_⟩
  have h' := core_bin (Ra := fun σ F μ => RepR X.K X.w F μ σ) (Rb := fun σ F μ => RepRs X.K X.w F μ σ) monoR h
  have h'' := core_bind (Ra := fun σ F μ => RepR X.K X.w F μ σ) h'
  refine PySem.W.methodCall_KW (pl := pl) (thn (ho.run pins s σ H _ I h'') fun u s1 ⟨x, H1, I1, rx, r, F1, μ1, ρ1, S1, h1, h2, h3, oo, S2, h4, h5⟩ => ?_) ht
  obtain ⟨rfl, y, a, dx, fs, rfl, h6, h7, rfl, h8, h9⟩ := isIns_ok h1 h3 h4
  obtain rfl : u = Value.ref a := rx
  have h10 := h5 F1 μ1 H1 (.ref a) .refl h1 h6
  refine getmeth_ok I1 h8 hc hm h9 ?_
  refine PySem.W.callWith_K (first := [.ref a]) (h₀ := X.base) I.ok.mod.kin hm.kp (thn (ha.run pos pins s1 σ H1 _ I1 h10) fun us s2 ⟨vs, H2, I2, r2, a1, b1, F2, μ2, ρ2, S2, k1, k2, k3, k4, k5⟩ => ⟨I2.kIn, ?_⟩) hst hpl
  by_cases cl : b1.length + 1 = n
  · rw [if_pos cl] at k5
    exact run_fnS' (us := .ref a :: us) (vs := .ref a :: vs) F (hr.mono hk) hb (passAt tk σ) I2 (.cons rfl r2) (app_ok k1 (.cons k3 k4) cl k5)
  · rw [if_neg cl] at k5; exact k5.none_
theorem me_meth0 {k j : Nat} {C m : Str} {f : FM} {pl : Sem Bool} (c : ClO X.prog X.w X.K X.mg X.base k C m 1 f) (hr : Room j X.A) (hk : k ≤ j) (tk : Takes X W) (ho : ME X W o mo)
    (ht : eval (.Call (.Attribute o m apos) [] [] pos) X.env = (do
      let ov ← eval o X.env
      standAt apos.atName
      let (f, first) ← holding [ov] (getMethod ov m pl)
      callWith pos f first (backTo pos (starEach [] X.env)) (backToKw pos (keywordEach [] X.env))) := by rfl) :
    ME X W (.Call (.Attribute o m apos) [] [] pos) (methO C m 1 f mo nilA) := by
  obtain ⟨g, fd, ps, F, hc, hm, hb⟩ := c.ex
  refine ⟨fun pins s σ H Q I h => ?_⟩
  have h'' := core_bind (Ra := fun σ F μ => RepR X.K X.w F μ σ) (core_bind (Ra := fun σ F μ => RepR X.K X.w F μ σ) h)
  refine PySem.W.methodCall_KW (pl := pl) (thn (ho.run pins s σ H _ I h'') fun u s1 ⟨x, H1, I1, rx, r, F1, μ1, ρ1, S1, h1, h2, h3, oo, S2, h4, h5⟩ => ?_) ht
  obtain ⟨rfl, y, a, dx, fs, rfl, h6, h7, rfl, h8, h9⟩ := isIns_ok h1 h3 h4
  obtain rfl : u = Value.ref a := rx
  obtain ⟨b1, F2, μ2, ρ2, S2, k1, k2, k3, k4⟩ := h5 F1 μ1 H1 (.ref a) .refl h1 h6
  refine getmeth_ok I1 h8 hc hm h9 ?_
  have k5 : coreAt X.K X.w (fun σ F μ => RepR X.K X.w F μ σ) W (appF f [b1] ρ2 S2) F2 μ2 σ H1 Q := by
    simpa [bindM, nilA] using k4
  exact PySem.W.callWith_K0 (first := [.ref a]) I1.kIn hm.kp (run_fnS' (us := [.ref a]) (vs := [.ref a]) F (hr.mono hk) hb (passAt tk σ) I1 (.cons rfl .nil) (app_ok k1 (.cons k3 .nil) rfl k5))
end
end MM
namespace MM
open PySem PySem.Spec PyProof.Rows L2

/-! ### the frozen heap grows by what stands there -/
section
variable {K : PySem.W.Frag} {w : World} {W : WX} {F F' H H' : Hp} {μ μ' : List Addr} {S S' : Sto} {ρ : Fr} {σ : L2.St} {B : Bs}
theorem CellOk.fz {a p : Addr} {c : Cell} {o : HO} (na : a ≠ p) (z : Same F (upd F p o)) (k : CellOk K w F μ H a c) : CellOk K w (upd F p o) μ H a c := by
  have nf : ∀ {P : Prop}, F a = none ∧ P → upd F p o a = none := fun z => by rw [upd_ne na]; exact z.1
  cases c with
  | lst ds => exact ⟨nf k, k.2.imp fun xs g => ⟨g.1, g.2.mono z⟩⟩
  | dic kvs => exact ⟨nf k, k.2.imp fun xs g => ⟨g.1, g.2.mono z⟩⟩
  | dit kvs => exact ⟨nf k, k.2.imp fun o' g => g.imp fun xs g => ⟨g.1, g.2.1.mono z, g.2.2⟩⟩
  | tab x => exact ⟨nf k, k.2.1, k.2.2.imp fun ps g => ⟨g.1, g.2.1, fun pos cv q => (g.2.2 pos cv q).imp fun c z' => ⟨z'.1, z _ _ z'.2⟩⟩⟩
  | ins C fs => exact ⟨nf k, k.2.imp fun dx g => g.imp fun xs g => ⟨g.1, g.2.mono z List.prefix_rfl⟩⟩
  | frz x => exact Rep.mono z k
theorem Rel.fzOut (r : Rel K w F μ S H) {p : Addr} {o : HO} (hp : H p = some o) (hF : F p = none) (hm : p ∉ μ) : Rel K w (upd F p o) μ S H := by
  obtain ⟨z1, z2⟩ := Step.fz r.le hp hF
  exact ⟨z1, r.nd, r.len, r.there, fun n a c q1 q2 => (r.cell n a c q1 q2).fz (fun z => hm (by rw [← z]; exact List.mem_of_getElem? q1)) z2⟩
/-- an object that stands there becomes a cell -/
theorem Rel.join (r : Rel K w F μ S H) {p : Addr} {c : Cell} (hm : p ∉ μ) (ht : H p ≠ none) (k : CellOk K w F μ H p c) : Rel K w F (μ ++ [p]) (S ++ [c]) H := by
  have st : Step F H F H := Step.refl r.le
  refine ⟨r.le, ?_, by simp [r.len], fun a ha => ?_, fun n a d h1 h2 => ?_⟩
  · refine List.nodup_append.mpr ⟨r.nd, by simp, fun a ha b hb e => hm ?_⟩
    have : b = p := by simpa using hb
    rw [← this, ← e]; exact ha
  · rcases List.mem_append.mp ha with h | h
    · exact r.there a h
    · have : a = p := by simpa using h
      rw [this]; exact ht
  · by_cases hn : n < μ.length
    · rw [List.getElem?_append_left hn] at h1
      rw [List.getElem?_append_left (by rw [← r.len]; exact hn)] at h2
      exact (r.cell n a d h1 h2).step st (r.there a (List.mem_of_getElem? h1)) (List.prefix_append _ _)
    · have h3 := (List.getElem?_eq_some_iff.mp h1).1
      have e : n = μ.length := by simp at h3; omega
      subst e
      rw [List.getElem?_append_right (Nat.le_refl _)] at h1
      rw [r.len, List.getElem?_append_right (Nat.le_refl _)] at h2
      simp at h1 h2
      subst h1 h2
      exact k.step st ht (List.prefix_append _ _)
/-- a frame's own list is frozen -/
theorem StOk.frz (x : StOk K w B F μ ρ S σ H) {i : Nat} {c : Cell} {d : D} (e : ρ[i]? = some (some (.own c))) (hd : frzCell c = some d) : ∃ F', Same F F' ∧ StOk K w B F' μ (ρ.set i (some (.r (.d d)))) S σ H := by
  obtain ⟨p, h1, h2, h3, h4, h5⟩ := x.fr.own i c e
  have hi : i < ρ.length := (List.getElem?_eq_some_iff.mp e).1
  have h0 : B.H p = none := x.ow i c p e h1
  have go : ∀ o, H p = some o → Rep K w (upd F p o) d (.ref p) → ∃ F', Same F F' ∧ StOk K w B F' μ (ρ.set i (some (.r (.d d)))) S σ H := fun o ho rep => by
    obtain ⟨z1, z2⟩ := Step.fz x.rel.le ho h3
    have own' : ∀ {j : Nat} {cc : Cell}, (ρ.set i (some (.r (.d d))))[j]? = some (some (.own cc)) → j ≠ i ∧ ρ[j]? = some (some (.own cc)) := fun {j cc} q => by
      have n : j ≠ i := fun z => by subst z; rw [List.getElem?_set_self hi] at q; cases q
      rw [List.getElem?_set_ne (Ne.symm n)] at q
      exact ⟨n, q⟩
    refine ⟨upd F p o, z2, x.rel.fzOut ho h3 h2, ⟨by simp [x.fr.len], fun j y q => ?_, fun j cc q => ?_, fun j k cc dd a q1 q2 q3 q4 => ?_⟩, ?_, fun j cc a q1 q2 => ?_⟩
    · by_cases n : j = i
      · subst n
        rw [List.getElem?_set_self hi] at q; cases q
        exact ⟨_, h1, rep⟩
      · rw [List.getElem?_set_ne (Ne.symm n)] at q
        exact (x.fr.r j y q).imp fun v g => ⟨g.1, g.2.mono z2 List.prefix_rfl⟩
    · obtain ⟨n, q'⟩ := own' q
      obtain ⟨a, g1, g2, g3, g4, g5⟩ := x.fr.own j cc q'
      have na : a ≠ p := fun z => n (x.fr.dist j i cc c a q' e g1 (by rw [z]; exact h1))
      exact ⟨a, g1, g2, by rw [upd_ne na]; exact g3, g4, g5.fz na z2⟩
    · exact x.fr.dist j k cc dd a (own' q1).2 (own' q2).2 q3 q4
    · refine ⟨x.gr.f.trans z2, x.gr.p, x.gr.h, fun a q1 q2 q3 => ?_, x.gr.nm⟩
      by_cases na : a = p
      · rw [na]; exact h0
      · rw [upd_ne na] at q1; exact x.gr.nf a q1 q2 q3
    · exact x.ow j cc a (own' q1).2 q2
  cases c with
  | lst ds =>
    cases hd
    obtain ⟨_, xs, g1, g2⟩ := h5
    have z2 := (Step.fz x.rel.le g1 h3).2
    exact go _ g1 (.lst upd_same (g2.mono z2))
  | dic ds =>
    cases hd
    obtain ⟨_, xs, g1, g2⟩ := h5
    have z2 := (Step.fz x.rel.le g1 h3).2
    exact go _ g1 (.dic upd_same (g2.mono z2))
  | dit ds =>
    cases hd
    obtain ⟨_, o', xs, g1, g2, y1, y2, y3⟩ := h5
    have z2 := (Step.fz x.rel.le g1 h3).2
    exact go _ g1 (.dit upd_same (g2.mono z2) y1 y2 y3)
  | ins C ds => cases hd
  | tab x => cases hd
  | frz y => cases hd
end
/-- ahead of a statement: the frame's own list, or the cell that the name holds, is frozen -/
def frzS (i : Nat) : SM := fun ρ S => match ρ[i]? with
  | some (some (.own c)) => match frzCell c with
    | some d => some (.nx, ρ.set i (some (.r (.d d))), S)
    | none => none
  | some (some (.r (.loc n))) => match frzR (.loc n) ρ S with
    | some (.ok y, S') => some (.nx, ρ.set i (some (.r y)), S')
    | _ => none
  | _ => none
theorem StOk.reset {K : PySem.W.Frag} {w : World} {B : Bs} {F H : Hp} {μ : List Addr} {ρ : Fr} {S : Sto} {σ : L2.St} (x : StOk K w B F μ ρ S σ H) {i : Nat} {r y : R} (e : ρ[i]? = some (some (.r r))) (h : ∀ v, RepR K w F μ [] r v → RepR K w F μ [] y v) : StOk K w B F μ (ρ.set i (some (.r y))) S σ H := by
  have hi : i < ρ.length := (List.getElem?_eq_some_iff.mp e).1
  have own' : ∀ {j : Nat} {cc : Cell}, (ρ.set i (some (.r y)))[j]? = some (some (.own cc)) → ρ[j]? = some (some (.own cc)) := fun {j cc} q => by
    have n : j ≠ i := fun z => by subst z; rw [List.getElem?_set_self hi] at q; cases q
    rw [List.getElem?_set_ne (Ne.symm n)] at q
    exact q
  refine ⟨x.rel, ⟨by simp [x.fr.len], fun j z q => ?_, fun j cc q => x.fr.own j cc (own' q), fun j k cc dd a q1 q2 q3 q4 => x.fr.dist j k cc dd a (own' q1) (own' q2) q3 q4⟩, x.gr, fun j cc a q1 q2 => x.ow j cc a (own' q1) q2⟩
  by_cases n : j = i
  · subst n
    rw [List.getElem?_set_self hi] at q; cases q
    obtain ⟨v, g1, g2⟩ := x.fr.r j r e
    exact ⟨v, g1, h v g2⟩
  · rw [List.getElem?_set_ne (Ne.symm n)] at q
    exact x.fr.r j z q
section
variable {X : Cx} {W : WX} {sts : List Stmt} {m : SM} {e o : Expr} {me mo : EM} {pos p apos cpos : Pos} {es : List Expr} {ms : AM}
theorem tS_frz {K : PySem.W.Frag} {w : World} {i : Nat} {En : Ends} {σ : L2.St} {H : Hp} (h : tS K w W (seqM (frzS i) m) En σ H) : tS K w W m En σ H := by
  obtain ⟨B, F, μ, ρ, S, h1, fl, ρ', S', h2, h3⟩ := h
  unfold seqM frzS at h2
  cases q : ρ[i]? with
  | none => simp [q] at h2
  | some oe =>
    cases oe with
    | none => simp [q] at h2
    | some en =>
      cases en with
      | own c =>
        cases hd : frzCell c with
        | none => simp [q, hd] at h2
        | some d =>
          simp only [q, hd] at h2
          obtain ⟨F', e, x⟩ := h1.frz q hd
          exact ⟨B, F', μ, _, S, x, fl, ρ', S', h2, fun F2 μ2 σ2 H2 e2 => h3 F2 μ2 σ2 H2 (e.trans e2)⟩
      | r y =>
        cases y with
        | d d => simp [q] at h2
        | slot j => simp [q] at h2
        | loc n =>
          cases hf : frzR (.loc n) ρ S with
          | none => simp [q, hf] at h2
          | some rs =>
            obtain ⟨oo, S1⟩ := rs
            cases oo with
            | ex c fs => exact absurd hf frzR_ok
            | ok y =>
              simp only [q, hf] at h2
              obtain ⟨v, g1, g2⟩ := h1.fr.r i _ q
              obtain ⟨F', g, r, rep⟩ := frz_ok (σ := []) h1.rel g2 hf
              have x := h1.grow g r
              have x2 : StOk K w B F' μ (ρ.set i (some (.r y))) S1 σ H := x.reset q fun u hu => by
                obtain ⟨a, k1, rfl⟩ := hu
                obtain ⟨a', k2, rfl⟩ := g2
                rw [k1] at k2; cases k2
                exact rep
              exact ⟨B, F', μ, _, S1, x2, fl, ρ', S', h2, fun F2 μ2 σ2 H2 e2 => h3 F2 μ2 σ2 H2 (g.f.trans e2)⟩
theorem ms_frz (i : Nat) {st : Stmt} (h : MS X W st m) : MS X W st (seqM (frzS i) m) := PS.imp h fun En σ H q => tS_frz q
/-! a new list becomes a cell -/
def locOf (m : NM) : EM := fun ρ S => match m ρ S with
  | some (.ok ds, S') => some (.ok (.loc S'.length), S' ++ [.lst ds])
  | some (.ex c fs, S') => some (.ex c fs, S')
  | none => none
theorem me_loc {m : NM} (h : MN X W e m) : ME X W e (locOf m) := PE.imp h fun σ H Q ⟨F, μ, ρ, S, h1, h2, o, S', h3, h4⟩ => by
  refine ⟨F, μ, ρ, S, h1, h2, ?_⟩
  unfold locOf at h3
  cases q : m ρ S with
  | none => simp [q] at h3
  | some r =>
    obtain ⟨o1, S1⟩ := r
    simp only [q] at h3
    cases o1 with
    | ex c fs => cases h3; exact ⟨_, _, rfl, h4⟩
    | ok ds =>
      cases h3
      refine ⟨.ok ds, S1, rfl, fun F' μ' H' p xs g r hp hF hm h0 ra => ?_⟩
      have r2 := r.join hm (by rw [hp]; exact fun z => nomatch z) (c := .lst ds) ⟨hF, xs, hp, ra⟩
      refine h4 F' (μ' ++ [p]) H' (.ref p) ⟨g.f, g.p.trans (List.prefix_append _ _), g.h, g.nf, fun a q1 q2 => ?_⟩ r2 ⟨p, by rw [← r.len]; simp, rfl⟩
      rcases List.mem_append.mp q1 with k | k
      · exact g.nm a k q2
      · have : a = p := by simpa using k
        rw [this]; exact h0
/-! try: .. except: .., where nothing is raised -/
def thruM (m : SM) : SM := fun ρ S => match m ρ S with
  | some (.ex _ _, _, _) => none
  | r => r
theorem takesBlk {s : Shared} {H : Hp} {scope : Scope} {cenv : Env} {fp : List Addr} : Takes (X.blk s H scope cenv fp) noW := fun u s' ⟨a, B, sI, pins, σ, H, cls, d, e, I, nb, up, sky, na, os, ag, w⟩ => w.elim
/-! isinstance by an own class -/
def isCF (C : Str) : List D → Option D
  | [.obj D _, .gl E] => if D = C ∧ E = C then some (.bl true) else none
  | _ => none
/-! methods of texts -/
def isStrR (r : R) : EM := fun _ S => match r with
  | .d (.str x) => some (.ok (.d (.str x)), S)
  | _ => none
def strR (mo : EM) : EM := bindM mo isStrR
theorem ret_meth {f : D → List D → Option D} {σ : L2.St} {H : Hp} {Q : VK} {x : V} {xs : List V} {a : R} {as : List R} {F : Hp} {μ : List Addr} {ρ : Fr} {S : Sto} (h1 : Rel X.K X.w F μ S H) (h2 : RelFr X.K X.w F μ H ρ σ) (h0 : RepR X.K X.w F μ σ a x) (h3 : RepRs X.K X.w F μ σ as xs)
    (h4 : coreAt X.K X.w (fun σ F μ => RepR X.K X.w F μ σ) W (retO f a as ρ S) F μ σ H Q) : rMt X.K X.w f x xs H Q := by
  unfold retO at h4
  cases q0 : peek ρ S a with
  | none => simp only [q0] at h4; exact h4.none_
  | some d =>
    cases q : peeks ρ S as with
    | none => simp only [q0, q] at h4; exact h4.none_
    | some ds =>
      simp only [q0, q] at h4
      cases q3 : f d ds with
      | none => simp only [q3] at h4; exact h4.none_
      | some g =>
        simp only [q3] at h4
        exact ⟨F, d, ds, g, h1.le, peek_rep h1 h2 h0 q0, peeks_rep h1 h2 h3 q, q3, fun F' H' v st r => h4.ok st.grow (h1.step st) r⟩
theorem me_strm {m : Str} {id : String} {f : D → List D → Option D} (slot : Slot "str" m id) (hty : typeOf (.builtin id) = pure (.type "method_descriptor")) (hm : MtR X id (rMt X.K X.w f)) (ho : ME X W o mo) (ha : MA X W (e :: es) ms)
    (hbase : attributeBase o m X.env (eval o X.env) = eval o X.env := by rfl)
    (hfew : ((backTo cpos (starEach (e :: es) X.env)).all (fun x => !x.1) && (backToKw cpos (keywordEach [] X.env)).all (fun x => x.1.isSome) && decide ((e :: es).length + ([] : List Keyword).length + (if ([] : List Keyword).isEmpty then 0 else 1) < 30)) = true := by rfl)
    (hline : (apos.endLine == cpos.line) = true := by rfl) (hs : starEach (e :: es) X.env = (false, eval e X.env) :: starEach es X.env := by rfl) (hplain : (backTo cpos (starEach es X.env)).any (·.1) = false := by rfl) :
    ME X W (.Call (.Attribute o m apos) (e :: es) [] cpos) (methM f (strR mo) ms) :=
  PE.imp (pe_bm PySem.F.plainAttrs_str slot hty hm ho ha hbase hfew hline hs hplain) fun σ H Q h => by
    have h' := core_bin (Ra := fun σ F μ => RepR X.K X.w F μ σ) (Rb := fun σ F μ => RepRs X.K X.w F μ σ) monoR h
    refine (core_bind (Ra := fun σ F μ => RepR X.K X.w F μ σ) h').imp fun x H1 ⟨r, F, μ, ρ, S, h1, h2, h3, o, S', h4, h5⟩ => ?_
    unfold isStrR at h4
    split at h4
    · cases h4
      cases h3
      refine ⟨rfl, core.imp (h5 F μ H1 _ .refl h1 (.str _)) fun y H2 ⟨a, b, F, μ, ρ, S, k1, k2, k3, k4, k5⟩ => ret_meth k1 k2 k3 k4 k5⟩
    · cases h4
theorem me_split (ho : ME X W o mo) (ha : MA X W (e :: es) ms)
    (hbase : attributeBase o "split" X.env (eval o X.env) = eval o X.env := by rfl)
    (hfew : ((backTo cpos (starEach (e :: es) X.env)).all (fun x => !x.1) && (backToKw cpos (keywordEach [] X.env)).all (fun x => x.1.isSome) && decide ((e :: es).length + ([] : List Keyword).length + (if ([] : List Keyword).isEmpty then 0 else 1) < 30)) = true := by rfl)
    (hline : (apos.endLine == cpos.line) = true := by rfl) (hs : starEach (e :: es) X.env = (false, eval e X.env) :: starEach es X.env := by rfl) (hplain : (backTo cpos (starEach es X.env)).any (·.1) = false := by rfl) :
    ME X W (.Call (.Attribute o "split" apos) (e :: es) [] cpos) (methM splitF (strR mo) ms) := me_strm PySem.F.slot_str_split PySem.F.type_str_split mm_split ho ha hbase hfew hline hs hplain
theorem me_join (ho : ME X W o mo) (ha : MA X W (e :: es) ms)
    (hbase : attributeBase o "join" X.env (eval o X.env) = eval o X.env := by rfl)
    (hfew : ((backTo cpos (starEach (e :: es) X.env)).all (fun x => !x.1) && (backToKw cpos (keywordEach [] X.env)).all (fun x => x.1.isSome) && decide ((e :: es).length + ([] : List Keyword).length + (if ([] : List Keyword).isEmpty then 0 else 1) < 30)) = true := by rfl)
    (hline : (apos.endLine == cpos.line) = true := by rfl) (hs : starEach (e :: es) X.env = (false, eval e X.env) :: starEach es X.env := by rfl) (hplain : (backTo cpos (starEach es X.env)).any (·.1) = false := by rfl) :
    ME X W (.Call (.Attribute o "join" apos) (e :: es) [] cpos) (methM joinF (strR mo) ms) := me_strm PySem.F.slot_str_join PySem.F.type_str_join mm_join ho ha hbase hfew hline hs hplain
/-! f-strings -/
def fmtR (r : R) : EM := fun _ S => match r with
  | .d (.str y) => if y.length ≤ sizeLine then some (.ok (.d (.str y)), S) else none
  | .d (.int i) => if i.natAbs.log2 < 1920 then some (.ok (.d (.str (toString i))), S) else none
  | _ => none
def fmtM (m : EM) : EM := bindM m fmtR
def jsM : List EM → Str → EM
  | [], acc => litM (.str acc)
  | t :: ts, acc => bindM t fun r ρ S => match r with
    | .d (.str y) => if (acc ++ y).length ≤ sizeLine then jsM ts (acc ++ y) ρ S else none
    | _ => none
/-! the own == -/
def eqO (m : FM) (d e : D) : Option D := match m [.d d, .d e] [] with
  | some (.ok (.d (.bl b)), []) => some (.bl b)
  | _ => none
end
end MM
namespace MM
open PySem PySem.Spec PyProof.Rows L2

theorem un65 {k : Nat} {A : Around} (r : Room k A) : A.units + 65 < cLine := by have := r.un; omega
theorem plainIx (b : Expr) (h : PlainIx b := by intro _ _; rfl) : PlainIx b := h
theorem glb {X : Cx} {x : Str} {d : D} (h : ∃ v u, X.mg x = some u ∧ RelV v u ∧ ∀ (w : World) (F : Hp), Rep X.K w F d v) : Glb X x d := ⟨let ⟨v, u, h1, h2, h3⟩ := h; ⟨v, u, h1, h2, fun F => h3 X.w F⟩⟩
theorem boot_len : bootBuiltins "len" = some (.builtin "len") := by decide +kernel
theorem boot_max : bootBuiltins "max" = some (.builtin "max") := by decide +kernel
theorem boot_min : bootBuiltins "min" = some (.builtin "min") := by decide +kernel
theorem boot_any : bootBuiltins "any" = some (.builtin "any") := by decide +kernel
theorem boot_all : bootBuiltins "all" = some (.builtin "all") := by decide +kernel
theorem boot_isinstance : bootBuiltins "isinstance" = some (.builtin "isinstance") := by decide +kernel
theorem boot_int : bootBuiltins "int" = some (.type "int") := by decide +kernel
theorem boot_str : bootBuiltins "str" = some (.type "str") := by decide +kernel
theorem boot_bool : bootBuiltins "bool" = some (.type "bool") := by decide +kernel
theorem boot_list : bootBuiltins "list" = some (.type "list") := by decide +kernel
theorem boot_tuple : bootBuiltins "tuple" = some (.type "tuple") := by decide +kernel
/-! comprehension scopes by computation -/
def blkB (N : List Str) (sc scope : Scope) (own : List (Str × Nat)) : Bool :=
  decide (scope.kind = .function) && ((scope.names.all fun y => decide (scope.names.lookup y.1 = some y.2)) && ((own.all fun p => decide (N[p.2]? = some p.1)) &&
    ((scope.names.all fun y => decide (y.2 = .free → sc.names.lookup y.1 = some .cell ∨ sc.names.lookup y.1 = some .free)) && (scope.names.all fun y => decide (y.2 = .local ∨ y.2 = .cell → y.1 ∈ own.map (·.1) ∨ y.1 ∉ N)))))
theorem blk_of {N : List Str} {sc scope : Scope} {own : List (Str × Nat)} (h : blkB N sc scope own = true) : BlkOk N sc scope own := by
  unfold blkB at h
  simp only [Bool.and_eq_true, List.all_eq_true] at h
  obtain ⟨h1, h2, h3, h4, h5⟩ := h
  exact ⟨of_decide_eq_true h1, fun y hy => of_decide_eq_true (h2 y hy), fun p hp => of_decide_eq_true (h3 p hp), fun y hy => of_decide_eq_true (h4 y hy), fun y hy => of_decide_eq_true (h5 y hy)⟩
/-! facts -/
theorem cst_str {K : PySem.W.Frag} {mg : Str → Option Value} {x z : Str} (h : ∃ t, mg x = some (.str z t)) : ∃ v u, mg x = some u ∧ RelV v u ∧ ∀ (w : World) (F : Hp), Rep K w F (.str z) v := by
  obtain ⟨t, e⟩ := h
  exact ⟨.str z, _, e, ⟨t, rfl⟩, fun _ _ => .str z⟩
theorem cst_int {K : PySem.W.Frag} {mg : Str → Option Value} {x : Str} {z : Int} (h : ∃ t, mg x = some (.int z t)) : ∃ v u, mg x = some u ∧ RelV v u ∧ ∀ (w : World) (F : Hp), Rep K w F (.int z) v := by
  obtain ⟨t, e⟩ := h
  exact ⟨.int z, _, e, ⟨t, rfl⟩, fun _ _ => .int z⟩
def dvD : He.Dv → Option D
  | .non => some .non
  | .bl b => some (.bl b)
  | .int i => some (.int i)
  | .str x => some (.str x)
  | _ => none
def dvDs : List He.Dv → Option (List D)
  | [] => some []
  | x :: r => match dvD x, dvDs r with
    | some d, some ds => some (d :: ds)
    | _, _ => none
theorem dv_rep {K : PySem.W.Frag} {w : World} {F : Hp} : ∀ {vs : List He.Dv} {ds : List D}, dvDs vs = some ds → RepAll K w F ds (vs.map (He.Dv.v K))
  | [], _, e => by cases e; exact .nil
  | x :: r, ds, e => by
    unfold dvDs at e
    cases q1 : dvD x with
    | none => simp [q1] at e
    | some d =>
      cases q2 : dvDs r with
      | none => simp [q1, q2] at e
      | some es =>
        simp only [q1, q2, Option.some.injEq] at e
        subst e
        refine .cons ?_ (dv_rep q2)
        cases x with
        | non => cases q1; exact .non
        | bl b => cases q1; exact .bl b
        | int i => cases q1; exact .int i
        | str x => cases q1; exact .str x
        | _ => cases q1
theorem cst_tup {K : PySem.W.Frag} {mg : Str → Option Value} {x : Str} {vs : List He.Dv} {ds : List D} (h : mg x = some (.ref (He.ga K x))) (t : He.tupB K x vs = true) (e : dvDs vs = some ds := by rfl) : ∃ v u, mg x = some u ∧ RelV v u ∧ ∀ (w : World) (F : Hp), Rep K w F (.tup ds) v :=
  ⟨.ref (He.ga K x), _, h, rfl, fun w F => .tup (He.tupB_ok t F) (dv_rep e)⟩
theorem exAt {l : List Bool} (h : l.all id = true) (i : Nat) {b : Bool} (e : l[i]? = some b := by rfl) : b = true := List.all_eq_true.mp h b (List.mem_of_getElem? e)
structure ExcF (K : PySem.W.Frag) (mg : Str → Option Value) (x : Str) : Prop where
  q : PySem.W.excIn K (He.ga K x) He.veBase "ValueError.__new__" = true ∧ PySem.W.keepIn K (.ref (He.ga K x)) = true ∧ PySem.W.subIn K (.ref (He.ga K x)) (.type "BaseException") = some true ∧ PySem.W.typeIn K (.ref (He.ga K x)) = some (.type "type")
  g : mg x = some (.ref (He.ga K x))
theorem excF_ok {K : PySem.W.Frag} {mg : Str → Option Value} {x : Str} (q : PySem.W.excIn K (He.ga K x) He.veBase "ValueError.__new__" = true ∧ PySem.W.keepIn K (.ref (He.ga K x)) = true ∧ PySem.W.subIn K (.ref (He.ga K x)) (.type "BaseException") = some true ∧ PySem.W.typeIn K (.ref (He.ga K x)) = some (.type "type"))
    (g : mg x = some (.ref (He.ga K x))) : ExcF K mg x := ⟨q, g⟩
theorem ExcF.to {X : Cx} {x : Str} (e : ExcF X.K X.mg x) : Exc X x := ⟨e.q.1, e.g, e.q.2.1, e.q.2.2.1, e.q.2.2.2⟩
section
variable {X : Cx} {W : WX} {e o i : Expr} {me mo mi : EM} {pos apos cpos p : Pos} {es : List Expr} {ms : AM}
def negD : D → Option D
  | .int i => some (.int (-i))
  | _ => none
def negM (m : EM) : EM := op1M negD m
theorem me_neg (he : ME X W e me) : ME X W (.UnaryOp .USub e pos) (negM me) := PE.imp (pe_un un_neg he) fun σ H Q h => (core_bind (Ra := fun σ F μ => RepR X.K X.w F μ σ) h).imp fun x H1 ⟨a, F, μ, ρ, S, h1, h2, h3, h4⟩ => by
  unfold ret1 at h4
  cases q1 : peek ρ S a with
  | none => simp only [q1] at h4; exact h4.none_
  | some d =>
    simp only [q1] at h4
    cases q2 : negD d with
    | none => simp only [q2] at h4; exact h4.none_
    | some g =>
      simp only [q2] at h4
      unfold negD at q2
      split at q2
      · cases q2
        exact ⟨_, (peek_rep h1 h2 h3 q1).int, h4.ok .refl h1 (.int _)⟩
      · cases q2
/-- list(e), a new list -/
def newLR (as : List R) : NM := fun ρ S => match peeks ρ S as with
  | some ds => match listF ds with
    | some (.lst es) => some (.ok es, S)
    | _ => none
  | none => none
def newLM (ms : AM) : NM := bindM ms newLR
end
end MM
namespace MM
open PySem PySem.Spec PyProof.Rows L2

/-- what is wanted of a new list, from here -/
def newAt (K : PySem.W.Frag) (w : World) (W : WX) (res : Option (Out (List D) × Sto)) (F : Hp) (μ : List Addr) (σ : L2.St) (H : Hp) (Q : VK) : Prop := ∃ o S', res = some (o, S') ∧ match o with
  | .ok ds => ∀ F' μ' H' p xs, Grow F H F' H' μ μ' → Rel K w F' μ' S' H' → H' p = some (.lst xs) → F' p = none → p ∉ μ' → H p = none → RepAll K w F' ds xs → Q (.ref p) H'
  | .ex c fs => ∀ F' μ' H' d, Grow F H F' H' μ μ' → Rel K w F' μ' S' H' → ExD K w F' d fs → W (.ref (He.ga K c)) d σ H'
section
variable {K : PySem.W.Frag} {w : World} {W : WX} {F F' H H' : Hp} {μ μ' : List Addr} {S S' : Sto} {ρ : Fr} {σ : L2.St}
theorem newAt.mono {res : Option (Out (List D) × Sto)} {Q : VK} (g : Grow F H F' H' μ μ') (h : newAt K w W res F μ σ H Q) : newAt K w W res F' μ' σ H' Q := by
  obtain ⟨o, S', h1, h2⟩ := h
  refine ⟨o, S', h1, ?_⟩
  cases o with
  | ok a =>
    refine fun F2 μ2 H2 p xs a1 a2 a3 a4 a5 a6 a7 => h2 F2 μ2 H2 p xs (g.trans a1) a2 a3 a4 a5 ?_ a7
    have hm : p ∉ μ := fun z => a5 (a1.p.subset (g.p.subset z))
    cases q : H p with
    | none => rfl
    | some o => rw [g.h p o q hm] at a6; cases a6
  | ex c fs => exact fun F2 μ2 H2 v a1 a3 a4 => h2 F2 μ2 H2 v (g.trans a1) a3 a4
/-- a list laid now -/
theorem newAt.laid {ds : List D} {xs : List V} {Q : VK} {p : Addr} (h : newAt K w W (some (.ok ds, S)) F μ σ H Q) (r : Rel K w F μ S H) (hp : H p = none) (ra : RepAll K w F ds xs) : Q (.ref p) (upd H p (.lst xs)) := by
  obtain ⟨o, S', h1, h2⟩ := h
  cases h1
  obtain ⟨f1, f2⟩ := r.fresh hp
  have st : Step F H F (upd H p (.lst xs)) := ⟨Same.refl _, same_upd hp, r.le.trans (same_upd hp), fun _ h1 h2 => absurd h2 h1⟩
  exact h2 F μ _ p xs st.grow (r.step st) upd_same f1 f2 hp ra
theorem newAt.none_ {P : Prop} {Q : VK} (h : newAt K w W none F μ σ H Q) : P := by
  obtain ⟨o, S', h1, h2⟩ := h
  cases h1
end
/-- a + b, a new list -/
def catR (a b : R) : NM := fun ρ S => match peek ρ S a, peek ρ S b with
  | some (.lst x), some (.lst y) => if x.length + y.length ≤ sizeLine then some (.ok (x ++ y), S) else none
  | _, _ => none
def catM (ma mb : EM) : NM := bindM ma fun a => bindM mb fun b => catR a b
section
variable {X : Cx} {W : WX} {a b e o : Expr} {ma mb me mo : EM} {pos p apos cpos : Pos} {es : List Expr} {ms : AM}
/-- o.split(e), a new list -/
def splitR (o : R) (as : List R) : NM := fun ρ S => match peek ρ S o, peeks ρ S as with
  | some d, some ds => match splitF d ds with
    | some (.lst es) => some (.ok es, S)
    | _ => none
  | _, _ => none
def splitM (mo : EM) (ms : AM) : NM := bindM (strR mo) fun o => bindM ms fun as => splitR o as
end
end MM
namespace MM
open PySem PySem.Spec PyProof.Rows L2

/-! ### an own exception whose __init__ keeps one field -/
def spX (C : Addr) (f : Str) : Sp := fun vs H Q _ => ∃ (a : Addr) (y : V), vs = [.ref a, y] ∧ H a = some (exo a C none) ∧ ∀ dx, H dx = none → dx ≠ a → Q .non (upd (upd H dx (exd dx [(f, y)])) a (exo a C (some dx)))
theorem fn_x {P : Program} {w : World} {K : PySem.W.Frag} {mg : Str → Option Value} {base : Heap} {CX : CXT} {k : Nat} {qual f : Str} {params : Arguments} {body : List Stmt} {scope : Scope} {g C : Addr} {fd : FuncData} {N ps : List Str} {p1 p2 p3 p4 : Pos} (F : FunD K "__init__" qual params body scope [] [] g fd) (S : FnScope N ps scope)
    (hps : ps.length = 2) (T : OexC K C) (hno : PySem.W.findIn K (.ref C) f = some none) {self arg : Str} (hN : N = [self, arg]) (hb : body = [.Assign [.Attribute (.Name self p1) f p2] (.Name arg p3) p4])
    (v1 : scope.names.lookup self = some .local) (v2 : scope.names.lookup arg = some .local) (d1 : (self == ("__debug__" : Str)) = false) (d2 : (arg == ("__debug__" : Str)) = false) (d3 : (self == ("__classdict__" : Str)) = false) (d4 : (arg == ("__classdict__" : Str)) = false)
    (hs : ∀ (cdv : Value) (A : Around) (outer : List Env) (s : Shared) (H : Hp) (E : XK), swapsWith (.Name arg p3) (some (.Attribute (.Name self p1) f p2)) p4.line (XOf P w K mg base N qual scope g cdv A outer s H E).env = pure false) :
    FnOk P w K mg base CX (k + 1) g fd ps (spX C f) := by
  subst hN hb
  refine F.ok S (fun vs H Q E h => ?_) fun cdv A outer s H vs Q E hr h => ⟨_, pss_one (ps_ost (pe_var (i := 0) rfl (.inl v1) d1 d3) (pe_var (i := 1) rfl (.inl v2) d2 d4) (hs cdv A outer s H E)), ?_⟩
  · obtain ⟨a, y, rfl, _⟩ := h
    rw [hps]; rfl
  · obtain ⟨a, y, rfl, ea, q⟩ := h
    exact ⟨y, rfl, .ref a, rfl, a, C, rfl, T, hno, .inl ⟨ea, fun dx n ne => q dx n ne⟩⟩
/-- an own exception class: name, field -/
structure ClX (P : Program) (w : World) (K : PySem.W.Frag) (mg : Str → Option Value) (base : Heap) (k : Nat) (x f : Str) : Prop where
  ex : ∃ (g : Addr) (fd : FuncData) (ps : List Str), FnOk P w K mg base (L2.CX P w) k g fd ps (spX (He.ga K x) f) ∧ mg x = some (.ref (He.ga K x)) ∧ OexC K (He.ga K x) ∧ PySem.W.findIn K (.ref (He.ga K x)) "__init__" = some (some (.ref g)) ∧ PySem.W.typeIn K (.ref g) = some (.type "function") ∧ Binds K fd ps []
def raise1R (c f : Str) (r : R) : SM := fun ρ S => match r with
  | .d x => some (.ex c [(f, x)], ρ, S)
  | _ => none
def raise1M (c f : Str) (m : EM) : SM := thenM m (raise1R c f)
section
variable {X : Cx} {W : WX} {e : Expr} {me : EM} {p pos pos2 : Pos}
theorem ms_raise1 {k j : Nat} {x f : Str} (c : ClX X.prog X.w X.K X.mg X.base k x f) (hr : Room j X.A) (hk : k + 1 ≤ j) (tk : Takes X W) (he : ME X W e me) (hc : X.calm = true := by rfl) (hg : Gl X x := by rfl) (hdb : (x == ("__debug__" : Str)) = false := by decide)
    (hst : starEach [e] X.env = (false, eval e X.env) :: starEach [] X.env := by rfl) (hpl : (backTo pos (starEach [] X.env)).any (·.1) = false := by rfl) : MS X W (.Raise (some (.Call (.Name x p) [e] [] pos)) none pos2) (raise1M x f me) := by
  obtain ⟨g, fd, ps, F, hm, T, iC, tI, hb⟩ := c.ex
  refine PS.imp (ps_raise hc tk (pmk_oex T iC tI F (hr.mono hk) hb .nil passL hg hm (pa_cons he pa_nil hst) hdb hst hpl)) fun En σ H h => ?_
  refine (flow_then (Ra := fun σ F μ => RepR X.K X.w F μ σ) h).imp fun v H1 ⟨r, B, F, μ, ρ, S, h1, h2, h3⟩ => ?_
  unfold raise1R at h3
  cases r with
  | loc n => exact h3.none_
  | slot n => exact h3.none_
  | d x' =>
    refine ⟨by show 1 ≤ 1000; omega, fun a ha => ⟨a, v, rfl, upd_same, fun dx hdx hne => ⟨rfl, dx, [(f, v)], upd_same, ?_, ?_, ?_⟩⟩⟩
    · rw [upd_ne hne, upd_same]
    · rw [upd_ne hne] at hdx; exact hdx
    · have hd0 : H1 dx = none := by rw [upd_ne hne] at hdx; exact hdx
      -- the heap behind is the old one and the dict
      have eH : upd (del (upd (upd (upd H1 a (exo a (He.ga X.K x) none)) dx (exd dx [(f, v)])) a (exo a (He.ga X.K x) (some dx))) a) dx (.xd [(f, v)]) = upd H1 dx (.xd [(f, v)]) := by
        funext b
        by_cases h1 : b = dx
        · rw [h1, upd_same, upd_same]
        · rw [upd_ne h1, upd_ne h1]
          by_cases h2 : b = a
          · rw [h2, del_same, ha]
          · rw [del_ne h2, upd_ne h2, upd_ne h1, upd_ne h2]
      rw [eH]
      have st := Step.new1 h1.rel.le hd0 (.xd [(f, v)])
      obtain ⟨fl, ρ', S', k1, k2⟩ := h3
      cases k1
      exact k2 _ μ σ _ st.f (h1.grow st.grow (h1.rel.step st)) (some dx) (.inr ⟨dx, [(f, v)], rfl, upd_same, .cons (Rep.mono st.f h2) .nil⟩)
end
end MM
namespace MM
open PySem PySem.Spec PyProof.Rows L2

/-! ### except clauses, with a name or without -/
/-- a clause: the class, the name's slot, the suite's reading -/
structure Clause where
  c : Value
  nm : Option Nat
  ts : Addr → Value → Option Addr → TS
/-- the ends of a suite whose name is unbound behind it -/
def offE (i : Nat) (En : Ends) : Ends := { nx := fun τ H' => En.nx (τ.set i none) H', rt := En.rt, bk := fun τ H' => En.bk (τ.set i none) H', ct := fun τ H' => En.ct (τ.set i none) H' }
def runC (cl : Clause) (a : Addr) (cls : Value) (d : Option Addr) (En : Ends) (σ : L2.St) (H : Hp) : Prop := match cl.nm with
  | none => cl.ts a cls d En σ H
  | some i => cl.ts a cls d (offE i En) (σ.set i (some (.ref a))) H
def wCl (K : PySem.W.Frag) (Wout : WX) (En : Ends) : List Clause → WX
  | [] => Wout
  | cl :: r => fun cls d σ H => ∃ b, PySem.W.exmOne K cls cl.c = some b ∧ (b = true → ∀ a, H a = none → runC cl a cls d En σ H) ∧ (b = false → wCl K Wout En r cls d σ H)
inductive HdsN (X : Cx) : List ExceptHandler → List Clause → Prop
  | nil : HdsN X [] []
  | cons {x : Str} {c : Value} {ts : Addr → Value → Option Addr → TS} {b0 : Stmt} {suite : List Stmt} {np pos' : Pos} {hds : List ExceptHandler} {l : List Clause} (hc : Names X x c)
      (hsu : ∀ (a : Addr) (oe : Obj) (cls : Value) (d : Option Addr) (pn : List (Addr × Obj)), Zc cls d oe → (∃ vs, oe.data = .fields vs) → PSs (X.suite a ((a, oe) :: pn)) (b0 :: suite) (ts a cls d)) (r : HdsN X hds l) :
      HdsN X (.ExceptHandler (some (.Name x np)) none (b0 :: suite) pos' :: hds) (⟨c, none, ts⟩ :: l)
  | consAs {x n : Str} {i : Nat} {c : Value} {ts : Addr → Value → Option Addr → TS} {b0 : Stmt} {suite : List Stmt} {np pos' : Pos} {hds : List ExceptHandler} {l : List Clause} (hi : X.N[i]? = some n) (hln : X.env.kindOf n = some .local) (hc : Names X x c)
      (hsu : ∀ (a : Addr) (oe : Obj) (cls : Value) (d : Option Addr) (pn : List (Addr × Obj)), Zc cls d oe → (∃ vs, oe.data = .fields vs) → PSs (X.suite a ((a, oe) :: pn)) (b0 :: suite) (ts a cls d)) (r : HdsN X hds l) :
      HdsN X (.ExceptHandler (some (.Name x np)) (some n) (b0 :: suite) pos' :: hds) (⟨c, some i, ts⟩ :: l)
section
variable {X : Cx} {body : List Stmt} {h0 : ExceptHandler} {hds : List ExceptHandler} {l : List Clause} {pos : Pos} {tb : WX → TS} {Wout : WX}
theorem ps_tryN (hs : X.stack = X.env :: X.outer) (hf : X.env.frame = some X.env.locals) (hN : X.N.Nodup) (tk : Takes X Wout)
    (hb : ∀ (W : WX) (pn : List (Addr × Obj)) (xe : Value → Shared → Prop), Takes (X.tr pn xe) W → PassesOwn (model X.prog X.w) X.A X.env xe → PSs (X.tr pn xe) body (tb W))
    (hh : HdsN X (h0 :: hds) l) : PS X (.Try body (h0 :: hds) [] [] pos) (fun En σ H => tb (wCl X.K Wout En l) En σ H) := by
  refine ⟨fun pins s σ H En I h => ?_⟩
  have ok := I.ok
  have hfr : X.A.frames = some (X.env :: X.outer) := by rw [ok.frames, hs]
  refine wpAny_Try_except ?_
  have hbody := (hb (wCl X.K Wout En l) (X.pn ++ pins) (fun e s1 => wpAny (model X.prog X.w) X.A (noteFrame e X.env) (fun _ s2 => wpAny (model X.prog X.w) X.A (setFlight e none) (fun _ s3 =>
    wpAny (model X.prog X.w) X.A (handleBy e X.env (h0 :: hds)) (SP X pins En) X.xe s3) X.xe s2) X.xe s1) (fun u s' xx => ?_) PassesOwn.looking).run [] s σ H En (I.toTry _) h
  · refine wpAny_mono hbody (fun f s1 hsp => ?_) (fun e s1 he => he)
    cases f with
    | next => obtain ⟨τ, H2, J, q⟩ := hsp; exact wpAny_execs_nil ⟨τ, H2, J.ofTry ok, q⟩
    | brk => obtain ⟨τ, H2, J, q⟩ := hsp; exact ⟨τ, H2, J.ofTry ok, q⟩
    | cont => obtain ⟨τ, H2, J, q⟩ := hsp; exact ⟨τ, H2, J.ofTry ok, q⟩
    | ret u => obtain ⟨v, τ, H2, J, rv, q⟩ := hsp; exact ⟨v, τ, H2, J.ofTry ok, rv, q⟩
  · -- what is caught
    obtain ⟨a, B, sI, pins2, τ, H2, cls, d, rfl, J0, nb, up, sky, na, os, ag, w⟩ := xx
    have J : Inv X pins τ H2 sI := J0.ofTry ok
    have sky2 : Sky B (X.env :: X.outer) a (Zc cls d) X.env.locals s'.heap := by rw [← hs]; exact sky
    show wpAny (model X.prog X.w) X.A (noteFrame (.ref a) X.env) _ _ _
    refine Sky.land Zc.steady hfr hf sky2 fun h3 fl3 up3 => ?_
    have J3 : Inv X pins τ H2 { s' with heap := h3 } := J.landed nb fl3.1 (up.trans up3) os ag
    obtain ⟨oe3, vs3, he3, hz3, hd3⟩ := fl3.there
    have nfr : a ∉ frs (X.env :: X.outer) := fun hm => by
      obtain ⟨_, o2, e2, hnf⟩ := fl3.2.2.1.mem hm
      rw [he3] at e2
      cases e2
      exact hnf _ hd3
    have nL : a ≠ X.env.locals := fun z => nfr (List.mem_filterMap.mpr ⟨X.env, List.mem_cons_self, by rw [hf, z]⟩)
    have nF : a ∉ X.fs := fun hm => by
      obtain ⟨e, he, q⟩ := List.mem_filterMap.mp hm
      exact nfr (List.mem_filterMap.mpr ⟨e, List.mem_cons_of_mem _ he, q⟩)
    have S3 := J3.suite he3 hd3 na nL nF
    have LT : PySem.W.Looks (model X.prog X.w) h3 (typeOf (.ref a)) cls := fun A Q E s k q => wpAny_typeOf_ref (k _ _ he3) (by rw [hz3.1]; exact q)
    have test : ∀ {x : Str} {c : Value} {np : Pos} {Q : Value → Shared → Prop} {E : Value → Shared → Prop}, Names X x c → Q c { s' with heap := h3 } → wpAny (model X.prog X.w) (X.A.mark (some (.ref a))) (eval (.Name x np) X.env) Q E { s' with heap := h3 } := fun {x c np Q E} hc q => by
      obtain ⟨hg, hdbg, hm | ⟨hm, hv, hnn⟩⟩ := hc
      · exact ld_glob (X := X.suite a ((a, oe3) :: (X.pn ++ pins))) S3 hg hm q hdbg
      · exact ld_blt (X := X.suite a ((a, oe3) :: (X.pn ++ pins))) S3 hg hm hv q hnn hdbg
    have go : ∀ {hds' : List ExceptHandler} {l' : List Clause}, HdsN X hds' l' → wCl X.K Wout En l' cls d τ H2 → wpAny (model X.prog X.w) X.A (handleBy (.ref a) X.env hds') (SP X pins En) X.xe { s' with heap := h3 } := by
      intro hds' l' hk
      induction hk with
      | nil =>
        intro w
        refine wpAny_handleBy_nil ?_
        obtain ⟨k1, k2, k3, oe, vs, T, oT, ts', he, hz, hd, h1, hr⟩ := id fl3
        unfold PySem.passOn
        refine wpAny_bind (wpAny_field he hd h1 ?_)
        rw [if_neg (show ¬ ((Value.ref T == Value.none) = true) from by simp)]
        have fin : wpAny (model X.prog X.w) X.A (setFlight (.ref a) X.env.frame) (fun _ s4 => wpAny (model X.prog X.w) X.A (throw (.ref a) : Sem Flow) (SP X pins En) X.xe s4) X.xe { s' with heap := h3 } := by
          rw [hf]
          refine HandSPX.setFlight_upZ fl3 fun h4 hh4 up4 => wpAny_throw (tk _ _ ?_)
          exact ⟨a, B, sI, pins, τ, H2, cls, d, rfl, J, nb, (up.trans up3).trans up4, .inr (.inr (by rw [hs]; exact hh4)), na, os, ag, w⟩
        first
          | exact wpAny_bind (wpAny_pure (wpAny_bind fin))
          | exact wpAny_bind fin
      | @cons x c ts b0 suite np pos' hds2 l2 hc hsu r ih =>
        intro w
        obtain ⟨b, hb1, hyes, hno⟩ := w
        have LM := PySem.W.exm_one (M := model X.prog X.w) (J3.kIn) LT hb1
        refine wpAny_handleBy_cons (codeAny_handlers_test (test hc (LM.here ?_))) (by intro q; cases q)
        cases b with
        | true =>
          refine codeAny_handlers_suite (HandSPX.lands_againZ fl3 fun h4 fl4 up4 => ?_)
          have J4 : Inv X pins τ H2 { s' with heap := h4 } := J.landed nb fl4.1 ((up.trans up3).trans up4) os ag
          obtain ⟨oe4, vs4, he4, hz4, hd4⟩ := fl4.there
          have S4 := J4.suite he4 hd4 na nL nF
          refine wpAny_mono ((hsu a oe4 cls d (X.pn ++ pins) hz4 ⟨_, hd4⟩).run [] _ _ H2 _ S4 (hyes rfl a na)) (fun f s6 hsp => ?_) (fun _ _ z => False.elim z)
          cases f with
          | next => obtain ⟨τ6, H6, S6, q6⟩ := hsp; exact ⟨_, _, S6.unsuite ok, q6⟩
          | brk => obtain ⟨τ6, H6, S6, q6⟩ := hsp; exact ⟨_, _, S6.unsuite ok, q6⟩
          | cont => obtain ⟨τ6, H6, S6, q6⟩ := hsp; exact ⟨_, _, S6.unsuite ok, q6⟩
          | ret u => obtain ⟨v6, τ6, H6, S6, r6, q6⟩ := hsp; exact ⟨_, _, _, S6.unsuite ok, r6, q6⟩
        | false => exact ih (hno rfl)
      | @consAs x n i c ts b0 suite np pos' hds2 l2 hi hln hc hsu r ih =>
        intro w
        obtain ⟨b, hb1, hyes, hno⟩ := w
        have hloc : Loc X.env.scope n := .inl hln
        have LM := PySem.W.exm_one (M := model X.prog X.w) (J3.kIn) LT hb1
        refine wpAny_handleBy_cons (codeAny_handlers_test (test hc (LM.here ?_))) (by intro q; cases q)
        cases b with
        | true =>
          refine codeAny_handlers_suite_as (HandSPX.lands_againZ fl3 fun h4 fl4 up4 => ?_)
          have J4 : Inv X pins τ H2 { s' with heap := h4 } := J.landed nb fl4.1 ((up.trans up3).trans up4) os ag
          obtain ⟨oe4, vs4, he4, hz4, hd4⟩ := fl4.there
          have S4 := J4.suite he4 hd4 na nL nF
          refine store_ok (X := X.suite a ((a, oe4) :: (X.pn ++ pins))) (v := .ref a) S4 hN hi hloc rfl (fun s5 S5 => ?_) (.inr hln)
          refine wpAny_mono ((hsu a oe4 cls d (X.pn ++ pins) hz4 ⟨_, hd4⟩).run [] s5 _ H2 _ S5 (hyes rfl a na)) (fun f s6 hsp => ?_) (fun _ _ z => False.elim z)
          have off : ∀ {τ6 : L2.St} {H6 : Hp} {Q : Shared → Prop}, Inv (X.suite a ((a, oe4) :: (X.pn ++ pins))) [] τ6 H6 s6 → (∀ s7, Inv X pins (τ6.set i none) H6 s7 → Q s7) →
              wpAny (model X.prog X.w) X.A (do bindName X.env n .none; unbindBehindTheSuite X.env n pos') (fun _ s7 => Q s7) X.xe s6 := fun {τ6 H6 Q} S6 hq => gone_ok (S6.unsuite ok) hN hi hln hq
          cases f with
          | next => obtain ⟨τ6, H6, S6, q6⟩ := hsp; exact off S6 fun s7 J7 => ⟨_, _, J7, q6⟩
          | brk => obtain ⟨τ6, H6, S6, q6⟩ := hsp; exact off S6 fun s7 J7 => ⟨_, _, J7, q6⟩
          | cont => obtain ⟨τ6, H6, S6, q6⟩ := hsp; exact off S6 fun s7 J7 => ⟨_, _, J7, q6⟩
          | ret u => obtain ⟨v6, τ6, H6, S6, r6, q6⟩ := hsp; exact off S6 fun s7 J7 => ⟨_, _, _, J7, r6, q6⟩
        | false => exact ih (hno rfl)
    exact go hh w
end
end MM
namespace MM
open PySem PySem.Spec PyProof.Rows L2
/-! ### .. as functions -/
structure Hd where
  C : Str
  nm : Option Nat
  m : Str → List (Str × D) → SM
def tabB (tab : List (Str × Str × Bool)) (c C : Str) : Option Bool := (tab.find? fun p => p.1 == c && p.2.1 == C).map (·.2.2)
def offM (i : Nat) (r : Option (Flo × Fr × Sto)) : Option (Flo × Fr × Sto) := match r with
  | some (.nx, ρ, S) => some (.nx, ρ.set i none, S)
  | some (.bk, ρ, S) => some (.bk, ρ.set i none, S)
  | some (.ct, ρ, S) => some (.ct, ρ.set i none, S)
  | some (.rt (.d x), ρ, S) => some (.rt (.d x), ρ.set i none, S)
  | some (.rt (.loc x), ρ, S) => some (.rt (.loc x), ρ.set i none, S)
  | _ => none
def quietM (r : Option (Flo × Fr × Sto)) : Option (Flo × Fr × Sto) := match r with
  | some (.ex _ _, _, _) => none
  | r => r
def catchM (tab : List (Str × Str × Bool)) : List Hd → Str → List (Str × D) → SM
  | [], c, fs => fun ρ S => some (.ex c fs, ρ, S)
  | h :: r, c, fs => fun ρ S => match tabB tab c h.C with
    | some true => match h.nm with
      | none => quietM (h.m c fs ρ S)
      | some i => if i < ρ.length then offM i (h.m c fs (ρ.set i none) S) else none
    | some false => catchM tab r c fs ρ S
    | none => none
def tryM (tab : List (Str × Str × Bool)) (m : SM) (hs : List Hd) : SM := fun ρ S => match m ρ S with
  | some (.ex c fs, ρ1, S1) => catchM tab hs c fs ρ1 S1
  | r => r
/-- a suite's reading: the caught one at a, of the class cls, its dict d; i: its name's slot -/
def tSx (K : PySem.W.Frag) (w : World) (nm : Option Nat) (m : Str → List (Str × D) → SM) (a : Addr) (cls : Value) (d : Option Addr) : TS := fun En σ H => ∃ B F μ ρ S c fs, cls = .ref (He.ga K c) ∧ ExD K w F d fs ∧ (∀ i, nm = some i → σ[i]? = some (some (.ref a)) ∧ ρ[i]? = some none) ∧
  StOk K w B F μ ρ S σ H ∧ flowAt K w noW (m c fs ρ S) B F En
inductive MHds (X : Cx) : List ExceptHandler → List Hd → Prop
  | nil : MHds X [] []
  | cons {x : Str} {m : Str → List (Str × D) → SM} {b0 : Stmt} {suite : List Stmt} {np pos' : Pos} {hds : List ExceptHandler} {l : List Hd} (hc : Names X x (.ref (He.ga X.K x)))
      (hsu : ∀ (a : Addr) (oe : Obj) (cls : Value) (d : Option Addr) (pn : List (Addr × Obj)), Zc cls d oe → (∃ vs, oe.data = .fields vs) → PSs (X.suite a ((a, oe) :: pn)) (b0 :: suite) (tSx X.K X.w none m a cls d)) (r : MHds X hds l) :
      MHds X (.ExceptHandler (some (.Name x np)) none (b0 :: suite) pos' :: hds) (⟨x, none, m⟩ :: l)
  | consAs {x n : Str} {i : Nat} {m : Str → List (Str × D) → SM} {b0 : Stmt} {suite : List Stmt} {np pos' : Pos} {hds : List ExceptHandler} {l : List Hd} (hi : X.N[i]? = some n) (hln : X.env.kindOf n = some .local) (hc : Names X x (.ref (He.ga X.K x)))
      (hsu : ∀ (a : Addr) (oe : Obj) (cls : Value) (d : Option Addr) (pn : List (Addr × Obj)), Zc cls d oe → (∃ vs, oe.data = .fields vs) → PSs (X.suite a ((a, oe) :: pn)) (b0 :: suite) (tSx X.K X.w (some i) m a cls d)) (r : MHds X hds l) :
      MHds X (.ExceptHandler (some (.Name x np)) (some n) (b0 :: suite) pos' :: hds) (⟨x, some i, m⟩ :: l)
def clOf (K : PySem.W.Frag) (w : World) (h : Hd) : Clause := ⟨.ref (He.ga K h.C), h.nm, tSx K w h.nm h.m⟩
theorem MHds.to {X : Cx} {hds : List ExceptHandler} {l : List Hd} (h : MHds X hds l) : HdsN X hds (l.map (clOf X.K X.w)) := by
  induction h with
  | nil => exact .nil
  | cons hc hsu r ih => exact .cons hc hsu ih
  | consAs hi hln hc hsu r ih => exact .consAs hi hln hc hsu ih
def TabOk (K : PySem.W.Frag) (tab : List (Str × Str × Bool)) : Prop := ∀ p ∈ tab, PySem.W.exmOne K (.ref (He.ga K p.1)) (.ref (He.ga K p.2.1)) = some p.2.2
theorem TabOk.at {K : PySem.W.Frag} {tab : List (Str × Str × Bool)} (h : TabOk K tab) {c C : Str} {b : Bool} (e : tabB tab c C = some b) : PySem.W.exmOne K (.ref (He.ga K c)) (.ref (He.ga K C)) = some b := by
  unfold tabB at e
  obtain ⟨p, h1, rfl⟩ := Option.map_eq_some_iff.mp e
  have h2 := List.find?_some h1
  rw [Bool.and_eq_true] at h2
  have h3 := h p (List.mem_of_find?_eq_some h1)
  rw [beq_iff_eq.mp h2.1, beq_iff_eq.mp h2.2] at h3
  exact h3
section
variable {K : PySem.W.Frag} {w : World} {F H : Hp} {μ : List Addr} {S : Sto} {ρ : Fr} {σ : L2.St} {B : Bs}
theorem StOk.blank (x : StOk K w B F μ ρ S σ H) (i : Nat) (v : Option V) : StOk K w B F μ (ρ.set i none) S (σ.set i v) H := by
  have get : ∀ {j : Nat} {e : Ent}, (ρ.set i none)[j]? = some (some e) → j ≠ i ∧ ρ[j]? = some (some e) := fun {j e} q => by
    by_cases n : j = i
    · subst n
      by_cases hl : j < ρ.length
      · rw [List.getElem?_set_self hl] at q; cases q
      · rw [List.getElem?_eq_none (by simp; omega)] at q; cases q
    · rw [List.getElem?_set_ne (Ne.symm n)] at q
      exact ⟨n, q⟩
  refine ⟨x.rel, ⟨by simp [x.fr.len], fun j y q => ?_, fun j cc q => ?_, fun j k cc dd a q1 q2 q3 q4 => ?_⟩, x.gr, fun j cc a q1 q2 => ?_⟩
  · obtain ⟨n, q'⟩ := get q
    rw [List.getElem?_set_ne (Ne.symm n)]
    exact x.fr.r j y q'
  · obtain ⟨n, q'⟩ := get q
    rw [List.getElem?_set_ne (Ne.symm n)]
    exact x.fr.own j cc q'
  · obtain ⟨n1, p1⟩ := get q1
    obtain ⟨n2, p2⟩ := get q2
    rw [List.getElem?_set_ne (Ne.symm n1)] at q3
    rw [List.getElem?_set_ne (Ne.symm n2)] at q4
    exact x.fr.dist j k cc dd a p1 p2 q3 q4
  · obtain ⟨n1, p1⟩ := get q1
    rw [List.getElem?_set_ne (Ne.symm n1)] at q2
    exact x.ow j cc a p1 q2
theorem catch_ok {tab : List (Str × Str × Bool)} (ht : TabOk K tab) {Wout : WX} {En : Ends} {c : Str} {fs : List (Str × D)} {d : Option Addr} (hd : ExD K w F d fs) (x : StOk K w B F μ ρ S σ H) :
    ∀ {l : List Hd}, flowAt K w Wout (catchM tab l c fs ρ S) B F En → wCl K Wout En (l.map (clOf K w)) (.ref (He.ga K c)) d σ H
  | [], h => by
    obtain ⟨fl, ρ', S', h1, h2⟩ := h
    cases h1
    exact h2 F μ σ H (Same.refl _) x d hd
  | hd' :: r, h => by
    obtain ⟨fl, ρ', S', h1, h2⟩ := h
    unfold catchM at h1
    cases q : tabB tab c hd'.C with
    | none => simp [q] at h1
    | some b =>
      refine ⟨b, ht.at q, fun hb a ha => ?_, fun hb => ?_⟩
      · subst hb
        simp only [q] at h1
        show runC (clOf K w hd') a _ d En σ H
        unfold runC clOf
        cases qn : hd'.nm with
        | none =>
          simp only [qn] at h1 ⊢
          refine ⟨B, F, μ, ρ, S, c, fs, rfl, hd, (fun i e => by cases e), x, ?_⟩
          unfold quietM at h1
          split at h1
          · cases h1
          · rename_i nn
            refine ⟨fl, ρ', S', h1, fun F' μ' σ' H' e y => ?_⟩
            have := h2 F' μ' σ' H' e y
            cases fl with
            | ex c fs => exact absurd h1 (nn _ _ _ _)
            | nx => exact this
            | rt r => exact this
            | bk => exact this
            | ct => exact this
        | some i =>
          simp only [qn] at h1 ⊢
          by_cases hl : i < ρ.length
          · rw [if_pos hl] at h1
            have hil : i < σ.length := by rw [← x.fr.len]; exact hl
            refine ⟨B, F, μ, ρ.set i none, S, c, fs, rfl, hd, (fun j e => by cases e; exact ⟨List.getElem?_set_self hil, List.getElem?_set_self hl⟩), x.blank i _, ?_⟩
            unfold offM at h1
            split at h1
            · rename_i ρ2 S2 q2; cases h1
              exact ⟨_, _, _, q2, fun F' μ' σ' H' e y => h2 F' μ' (σ'.set i none) H' e (y.blank i none)⟩
            · rename_i ρ2 S2 q2; cases h1
              exact ⟨_, _, _, q2, fun F' μ' σ' H' e y => h2 F' μ' (σ'.set i none) H' e (y.blank i none)⟩
            · rename_i ρ2 S2 q2; cases h1
              exact ⟨_, _, _, q2, fun F' μ' σ' H' e y => h2 F' μ' (σ'.set i none) H' e (y.blank i none)⟩
            · rename_i z ρ2 S2 q2; cases h1
              exact ⟨_, _, _, q2, fun F' μ' σ' H' e y v hv => h2 F' μ' (σ'.set i none) H' e (y.blank i none) v hv⟩
            · rename_i z ρ2 S2 q2; cases h1
              exact ⟨_, _, _, q2, fun F' μ' σ' H' e y v hv => h2 F' μ' (σ'.set i none) H' e (y.blank i none) v hv⟩
            · cases h1
          · rw [if_neg hl] at h1; cases h1
      · subst hb
        simp only [q] at h1
        exact catch_ok ht hd x ⟨fl, ρ', S', h1, h2⟩
end
section
variable {X : Cx} {Wout : WX} {body : List Stmt} {h0 : ExceptHandler} {hds : List ExceptHandler} {l : List Hd} {pos : Pos} {m : SM}
theorem ms_try (tab : List (Str × Str × Bool)) (hN : X.N.Nodup) (tk : Takes X Wout) (ht : TabOk X.K tab) (hb : ∀ (W : WX) (pn : List (Addr × Obj)) (xe : Value → Shared → Prop), Takes (X.tr pn xe) W → PassesOwn (model X.prog X.w) X.A X.env xe → MSs (X.tr pn xe) W body m)
    (hh : MHds X (h0 :: hds) l) (hs : X.stack = X.env :: X.outer := by rfl) (hf : X.env.frame = some X.env.locals := by rfl) : MS X Wout (.Try body (h0 :: hds) [] [] pos) (tryM tab m l) := by
  refine ⟨fun pins s σ H En I h => ?_⟩
  refine (ps_tryN (tb := fun W => tS X.K X.w W m) hs hf hN tk hb hh.to).run pins s σ H En I ?_
  obtain ⟨B, F, μ, ρ, S, h1, fl, ρ', S', h2, h3⟩ := h
  refine ⟨B, F, μ, ρ, S, h1, ?_⟩
  unfold tryM at h2
  split at h2
  · rename_i c fs ρ1 S1 q
    refine ⟨.ex c fs, ρ1, S1, q, fun F' μ' σ' H' e x d hd => ?_⟩
    exact catch_ok ht hd x ⟨fl, ρ', S', h2, fun F2 μ2 σ2 H2 e2 => h3 F2 μ2 σ2 H2 (e.trans e2)⟩
  · rename_i nn
    refine ⟨fl, ρ', S', h2, fun F' μ' σ' H' e x => ?_⟩
    have := h3 F' μ' σ' H' e x
    cases fl with
    | ex c fs => exact absurd h2 (nn _ _ _ _)
    | nx => exact this
    | rt r => exact this
    | bk => exact this
    | ct => exact this
end
end MM
namespace MM
open PySem PySem.Spec PyProof.Rows L2
/-! ### suites -/
section
variable {X : Cx} {a : Addr} {oe : Obj} {cls : Value} {d : Option Addr} {pn : List (Addr × Obj)} {suite : List Stmt} {m : SM} {pos p1 p2 p3 p4 : Pos}
/-- the caught one is not looked at -/
theorem hs_plain {nm : Option Nat} (h : MSs (X.suite a pn) noW suite m) : PSs (X.suite a pn) suite (tSx X.K X.w nm (fun _ _ => m) a cls d) := PSs.imp h fun En σ H ⟨B, F, μ, ρ, S, c, fs, _, _, _, x, fl⟩ => ⟨B, F, μ, ρ, S, x, fl⟩
end
end MM
namespace MM
open PySem PySem.Spec PyProof.Rows L2
def oexObj (C : Addr) (o : Option Obj) : Bool := match o with
  | some ⟨.type t, _, .cls cd, sl⟩ => t == "type" && (match cd.mro, sl.toList with
    | .ref C2 :: bm, [_, _, _, _, some (.builtin n), _] => C2 == C && (n == "ValueError.__new__" && (cd.hasDict && (!cd.hasDel && PySem.HandSPX.refsVE bm)))
    | _, _ => false)
  | _ => false
theorem oexObj_ok {C : Addr} {o : Option Obj} (h : oexObj C o = true) : ∃ nm q N bs bm sn sub ab col dd k0 k1 k2 k3 k5, o = some (excClassObj nm q C N bs bm true sn sub ab col dd k0 k1 k2 k3 k5 "ValueError.__new__") ∧ PySem.HandSPX.refsVE bm = true := by
  unfold oexObj at h
  split at h
  · rename_i t dd cd sl
    rw [Bool.and_eq_true] at h
    obtain ⟨ht, h⟩ := h
    split at h
    · rename_i C2 bm k0 k1 k2 k3 n k5 hm hs
      simp only [Bool.and_eq_true, beq_iff_eq, Bool.not_eq_true'] at h ht
      obtain ⟨rfl, rfl, h3, h4, h5⟩ := h
      subst ht
      obtain ⟨nm, bs, mro, ns, qn, hd, sn, sb, ab, col, hdl⟩ := cd
      simp only at hm h3 h4
      subst hm h3 h4
      have : sl = #[k0, k1, k2, k3, some (.builtin "ValueError.__new__"), k5] := by
        rw [← Array.toList_inj, hs]
      subst this
      exact ⟨nm, qn, ns, bs, bm, sn, sb, ab, col, dd, k0, k1, k2, k3, k5, rfl, h5⟩
    · cases h
  · cases h
def oexB (K : PySem.W.Frag) (x : Str) : Bool := oexObj (He.ga K x) (K.lookup (He.ga K x)) && (He.eqO (PySem.W.findIn K (.ref (He.ga K x)) "__setattr__") (some (some (.builtin "object.__setattr__"))) &&
  (decide (PySem.W.subIn K (.ref (He.ga K x)) (.type "BaseException") = some true) && (decide (PySem.W.typeIn K (.ref (He.ga K x)) = some (.type "type")) && PySem.W.keepIn K (.ref (He.ga K x)))))
theorem oexB_ok {K : PySem.W.Frag} {x : Str} (h : oexB K x = true) : OexC K (He.ga K x) := by
  unfold oexB at h
  simp only [Bool.and_eq_true] at h
  obtain ⟨h1, h2, h3, h4, h5⟩ := h
  exact ⟨oexObj_ok h1, He.eqO_ok h2, of_decide_eq_true h3, of_decide_eq_true h4, h5⟩
def xinB (K : PySem.W.Frag) (x : Str) : Bool := He.eqO (PySem.W.findIn K (.ref (He.ga K x)) "__init__") (some (some (.ref (He.fAd K (x, some "__init__"))))) && decide (PySem.W.typeIn K (.ref (He.fAd K (x, some "__init__"))) = some (.type "function"))
theorem xinB_ok {K : PySem.W.Frag} {x : Str} (h : xinB K x = true) : PySem.W.findIn K (.ref (He.ga K x)) "__init__" = some (some (.ref (He.fAd K (x, some "__init__")))) ∧ PySem.W.typeIn K (.ref (He.fAd K (x, some "__init__"))) = some (.type "function") := by
  unfold xinB at h
  rw [Bool.and_eq_true] at h
  exact ⟨He.eqO_ok h.1, of_decide_eq_true h.2⟩
def exmB (K : PySem.W.Frag) (x y : Str) (b : Bool) : Bool := decide (PySem.W.exmOne K (.ref (He.ga K x)) (.ref (He.ga K y)) = some b)
theorem tab_nil {K : PySem.W.Frag} : TabOk K [] := fun p hp => by simp at hp
theorem tab_cons {K : PySem.W.Frag} {x y : Str} {b : Bool} {r : List (Str × Str × Bool)} (h : exmB K x y b = true) (q : TabOk K r) : TabOk K ((x, y, b) :: r) := fun p hp => by
  rcases List.mem_cons.mp hp with rfl | hp
  · exact of_decide_eq_true h
  · exact q p hp
theorem names_of {X : Cx} {x : Str} (hm : X.mg x = some (.ref (He.ga X.K x))) (hg : Gl X x := by rfl) (hd : (x == ("__debug__" : Str)) = false := by decide) : Names X x (.ref (He.ga X.K x)) := ⟨hg, hd, .inl hm⟩
end MM
namespace MM
open PySem PySem.Spec PyProof.Rows L2

/-! ### the entry is moved to here -/
section
variable {K : PySem.W.Frag} {w : World} {F F' H H' : Hp} {μ μ' : List Addr} {S S' : Sto} {ρ ρ' : Fr} {σ σ' : L2.St} {B : Bs}
open Classical in
/-- what stands here, but the frame's own lists -/
noncomputable def baseH (ρ : Fr) (σ : L2.St) (H : Hp) : Hp := fun a => if ∃ (i : Nat) (c : Cell), ρ[i]? = some (some (.own c)) ∧ σ[i]? = some (some (.ref a)) then none else H a
theorem baseH_some {a : Addr} {o : HO} (h : baseH ρ σ H a = some o) : H a = some o ∧ ¬ ∃ (i : Nat) (c : Cell), ρ[i]? = some (some (.own c)) ∧ σ[i]? = some (some (.ref a)) := by
  unfold baseH at h
  split at h
  · cases h
  · rename_i n; exact ⟨h, n⟩
theorem baseH_none {a : Addr} (h : baseH ρ σ H a = none) : H a = none ∨ ∃ (i : Nat) (c : Cell), ρ[i]? = some (some (.own c)) ∧ σ[i]? = some (some (.ref a)) := by
  unfold baseH at h
  split at h
  · rename_i n; exact .inr n
  · exact .inl h
theorem StOk.rebase (x : StOk K w B F μ ρ S σ H) : StOk K w ⟨F, baseH ρ σ H, μ⟩ F μ ρ S σ H := by
  refine ⟨x.rel, x.fr, ⟨Same.refl _, List.prefix_rfl, fun a o e _ => (baseH_some e).1, fun a h1 h2 => absurd h2 h1, fun a h1 h2 => absurd h1 h2⟩, fun i c a e1 e2 => ?_⟩
  show baseH ρ σ H a = none
  unfold baseH
  rw [if_pos ⟨i, c, e1, e2⟩]
theorem StOk.unbase (x : StOk K w B F μ ρ S σ H) (y : StOk K w ⟨F, baseH ρ σ H, μ⟩ F' μ' ρ' S' σ' H') : StOk K w B F' μ' ρ' S' σ' H' := by
  have g1 := x.gr
  have g2 := y.gr
  have back : ∀ a, a ∉ B.μ → baseH ρ σ H a = none → B.H a = none := fun a hm e => by
    rcases baseH_none e with h | ⟨i, c, h1, h2⟩
    · cases q : B.H a with
      | none => rfl
      | some o => rw [g1.h a o q hm] at h; cases h
    · exact x.ow i c a h1 h2
  have back' : ∀ a, baseH ρ σ H a = none → B.H a = none := fun a e => by
    rcases baseH_none e with h | ⟨i, c, h1, h2⟩
    · exact x.fresh h
    · exact x.ow i c a h1 h2
  refine ⟨y.rel, y.fr, ⟨g1.f.trans g2.f, g1.p.trans g2.p, fun a o e hm => ?_, fun a h1 h2 hm => ?_, fun a h1 h2 => ?_⟩, fun i c a e1 e2 => back' a (y.ow i c a e1 e2)⟩
  · have hH : H a = some o := g1.h a o e hm
    have hμ : a ∉ μ := fun z => by rw [g1.nm a z hm] at e; cases e
    have hb : baseH ρ σ H a = some o := by
      unfold baseH
      rw [if_neg (fun ⟨i, c, h1, h2⟩ => by rw [x.ow i c a h1 h2] at e; cases e)]
      exact hH
    exact g2.h a o hb hμ
  · by_cases hF : F a = none
    · by_cases hμ : a ∈ μ
      · exact g1.nm a hμ hm
      · exact back a hm (g2.nf a h1 hF hμ)
    · exact g1.nf a hF h2 hm
  · by_cases hμ : a ∈ μ
    · exact g1.nm a hμ h2
    · exact back a h2 (g2.nm a h1 hμ)
end
/-! ### enumerate, of a list that stands frozen or may live on -/
def liveAt (S : Sto) (k : Option Nat) (ds : List D) : Prop := match k with
  | none => True
  | some n => S[n]? = some (.lst ds)
def enumK (as : List R) : GM (List D × Option Nat) := fun _ S => match as with
  | [.d (.lst ds)] => some (.ok (ds, none), S)
  | [.loc n] => match S[n]? with
    | some (.lst ds) => some (.ok (ds, some n), S)
    | _ => none
  | _ => none
open Classical in
noncomputable def loopK (k : Option Nat) (ds0 : List D) (t : TgM) (body : SM) : List D → SM
  | [] => nxM
  | d :: ds => fun ρ S => match t d ρ with
    | none => none
    | some ρ1 => match body ρ1 S with
      | some (.nx, ρ2, S2) => if liveAt S2 k ds0 then loopK k ds0 t body ds ρ2 S2 else none
      | some (.ct, ρ2, S2) => if liveAt S2 k ds0 then loopK k ds0 t body ds ρ2 S2 else none
      | some (.bk, ρ2, S2) => some (.nx, ρ2, S2)
      | some (.rt r, ρ2, S2) => some (.rt r, ρ2, S2)
      | some (.ex c fs, ρ2, S2) => some (.ex c fs, ρ2, S2)
      | none => none
/-- the list is there now -/
def LiveV (K : PySem.W.Frag) (w : World) (F : Hp) (μ : List Addr) (S : Sto) (a : Addr) (k : Option Nat) (ds : List D) : Prop := match k with
  | none => ∃ xs, F a = some (.lst xs) ∧ RepAll K w F ds xs
  | some n => μ[n]? = some a ∧ S[n]? = some (.lst ds)
theorem LiveV.xs {K : PySem.W.Frag} {w : World} {F H : Hp} {μ : List Addr} {S : Sto} {a : Addr} {k : Option Nat} {ds : List D} (r : Rel K w F μ S H) (h : LiveV K w F μ S a k ds) : ∃ xs, H a = some (.lst xs) ∧ RepAll K w F ds xs := by
  cases k with
  | none => obtain ⟨xs, h1, h2⟩ := h; exact ⟨xs, r.le _ _ h1, h2⟩
  | some n => obtain ⟨h1, h2⟩ := h; obtain ⟨_, xs, h3, h4⟩ := r.cell n a _ h1 h2; exact ⟨xs, h3, h4⟩
end MM
namespace MM
open PySem PySem.Spec PyProof.Rows L2
open AutoSeq1 (wpAny_loadPart')

/-! ### enumerate of a tuple -/
theorem meets_enumT (l : Addr) (items : Array Value) (n : Nat) (dct : Option Addr) (sl : Array (Option Value)) :
    Meets (Builtin.«enumerate.__new__» ⟨[.type "enumerate", .ref l], []⟩) (fun _ R s => s.heap.get? l = some { cls := .type "tuple", dict := dct, data := .seq items n, slots := sl } ∧
      R (.ok (.ret (.ref (s.heap.push { cls := .type "tuple_iterator", data := .fields #[.ref l, .int 0 0] }).objs.size)))
        { s with heap := (s.heap.push { cls := .type "tuple_iterator", data := .fields #[.ref l, .int 0 0] }).push { cls := .type "enumerate", data := .fields #[.none, .bool false, .ref s.heap.objs.size, rawInt 0, .none, .none] } }) :=
  .of_wp fun prog w A R s h => by
    obtain ⟨hp, g, d, tk, os⟩ := s
    obtain ⟨hl, h⟩ := h
    have hsub := sub_enumerate
    have hL : Heap.IsTuple (Shared.heap ⟨hp, g, d, tk, os⟩) l items := ⟨_, hl, rfl, n, rfl⟩
    wp_walk using wpAny_loadPart' hl
    refine wpAny_stack_any fun st => wpAny_pure ?_
    split
    · rename_i c _ _ _ _ _
      cases (c == Value.type "enumerate")
      · wp_walk using wpAny_loadPart' hl, wpAny_pyIter_tuple hL
        exact ⟨_, rfl, h⟩
      · wp_walk using wpAny_loadPart' hl, wpAny_pyIter_tuple hL
        exact ⟨_, rfl, h⟩
    · wp_walk using wpAny_loadPart' hl, wpAny_pyIter_tuple hL
      exact ⟨_, rfl, h⟩
section
variable {prog : Program} {w : World} {A : Around} {E : Value → Shared → Prop} {s : Shared}
theorem call_enumT {l : Addr} {items : Array Value} {Q : Value → Shared → Prop} (hL : s.heap.IsTuple l items)
    (h : ∀ h', IsEnum h' (s.heap.objs.size + 1) s.heap.objs.size 0 .none → h'.IsTupleIter s.heap.objs.size l 0 → h'.objs.size = s.heap.objs.size + 2 →
      (∀ b o, s.heap.get? b = some o → h'.get? b = some o) → Q (.ref (s.heap.objs.size + 1)) { s with heap := h' }) :
    wpAny (model prog w) A (call (.type "enumerate") [.ref l]) Q E s := by
  obtain ⟨⟨c, dct, dt, sl⟩, hl, hc, n, hd⟩ := hL
  replace hc : c = .type "tuple" := hc
  replace hd : dt = .seq items n := hd
  subst hc hd
  refine callType_new F.called_enumerate (by decide) (F.typeCall_enumerate_1 _) (F.newCall_enumerate_1 _) (fun obj => F.args_object_init_2 obj _) F.entry_enumerate_new
    (meets_enumT l items n dct sl) ⟨hl, ?_⟩
  have hz : (s.heap.push { cls := .type "tuple_iterator", data := .fields #[.ref l, .int 0 0] }).objs.size = s.heap.objs.size + 1 := Heap.size_push ..
  show _ ∧ _
  rw [hz]
  have he : IsEnum ((s.heap.push { cls := .type "tuple_iterator", data := .fields #[.ref l, .int 0 0] }).push { cls := .type "enumerate", data := .fields #[.none, .bool false, .ref s.heap.objs.size, rawInt 0, .none, .none] })
      (s.heap.objs.size + 1) s.heap.objs.size 0 .none := by
    have := Heap.get?_push_size (s.heap.push { cls := .type "tuple_iterator", data := .fields #[.ref l, .int 0 0] }) (o := { cls := .type "enumerate", data := .fields #[.none, .bool false, .ref s.heap.objs.size, rawInt 0, .none, .none] }) rfl
    rw [hz] at this
    exact this
  refine ⟨⟨_, he, rfl⟩, h _ he ⟨_, Heap.get?_push_of_some _ (Heap.get?_push_size _ rfl), rfl, rfl⟩ (by rw [Heap.size_push, hz]) fun b o x => Heap.get?_push_of_some _ (Heap.get?_push_of_some _ x)⟩
end
def IteT (K : PySem.W.Frag) (a : Addr) : It :=
  ⟨fun i H => ∃ (xs : List V) (x : V), SqT K H a xs ∧ xs[i]? = some x, fun i H v H' => ∃ T x, v = .ref T ∧ H T = none ∧ H' = upd H T (.tup [.int (i : Nat), x]) ∧ ∀ xs, SqT K H a xs → xs[i]? = some x, fun i H => ∃ xs : List V, SqT K H a xs ∧ xs.length ≤ i⟩
theorem turn_enumT {P : Program} {w : World} {K : PySem.W.Frag} {elts : List Expr} {kk : Nat} {tpos : Pos} (a e it : Addr) :
    Turn P w K (.Tuple elts kk tpos) (IteT K a) [e, it] e (fun i h => (∃ old, IsEnum h e it ((i : Nat) : Int) old) ∧ h.IsTupleIter it a i ∧ e ≠ it ∧ a ≠ it ∧ e ≠ a) where
  mem := by simp
  obj := fun i h st b hb => by
    obtain ⟨⟨old, he⟩, ⟨o, ho, hc, hd⟩, _⟩ := st
    have e' : b = e ∨ b = it := by simpa using hb
    rcases e' with z | z
    · rw [z]; exact ⟨_, he, fun v q => nomatch q⟩
    · rw [z]; exact ⟨o, ho, fun v q => by rw [hd] at q; cases q⟩
  keep := fun i h h' st k => let ⟨⟨old, he⟩, hi, hne⟩ := st; ⟨⟨old, k e (by simp) _ he⟩, hi.at fun o q => k it (by simp) o q, hne⟩
  item := by
    intro X hP hw hK hc i pins s σ H E I hf st hg
    subst hP hw hK
    obtain ⟨⟨old, he⟩, hit, hne, hai, hea⟩ := st
    obtain ⟨xs, x, hq, hx⟩ := hg
    obtain ⟨its, rv, p, hz⟩ := I.tuple hq
    obtain ⟨u, hu, ru⟩ := rv.get hx
    have hel : e < s.heap.objs.size := Heap.lt_size he
    have hil : it < s.heap.objs.size := by obtain ⟨_, q, _⟩ := hit; exact Heap.lt_size q
    have pT : s.heap.IsTuple a its.toArray := p
    have hh : X.A.in1.handled = none := I.ok.hd hc
    have hlt : i < its.toArray.size := by
      have := (List.getElem?_eq_some_iff.mp hu).1
      simpa using this
    refine wpAny_pyNext_enum_itemC (Draws.tuple hh it a hai its.toArray) he ⟨hit, pT⟩ hlt hne (by simp [hne, hea]) fun u2 h' tk hPu ho hit' hT hsz hk => ?_
    have hu2 : its[i]? = some u2 := by simpa using hPu
    obtain rfl : u2 = u := by rw [hu] at hu2; exact (Option.some.inj hu2).symm
    refine ⟨_, rfl, wpAny_letOwnedTupleGo_enum (s := { s with heap := h', toks := tk + 1 }) ho fun h'' he' sb => ?_⟩
    have hT2 : h''.get? s.heap.objs.size = some { cls := .type "tuple", data := .seq #[.int i tk, u2] } := (sb.2 _ (Nat.ne_of_gt hel)).trans hT
    have new : ObjOk X.prog X.w (upd H s.heap.objs.size (.tup [.int (i : Nat), x])) h'' s.heap.objs.size (.tup [.int (i : Nat), x]) :=
      ⟨by show 2 ≤ sizeLine; decide, [.int i tk, u2], .cons ⟨_, rfl⟩ (.cons ru .nil), ⟨_, hT2, rfl, _, rfl⟩⟩
    have I1 : Inv X pins σ (upd H s.heap.objs.size (.tup [.int (i : Nat), x])) { s with heap := h'', toks := tk + 1 } :=
      I.turnedNew (ch := [e, it]) (fun b ob hb q => (sb.2 b (fun z => hb (by simp [z]))).trans (hk b ob (fun z => hb (by simp [z])) (fun z => hb (by simp [z])) q)) hf (Nat.le_refl _) new
    refine ⟨.ref s.heap.objs.size, _, I1, rfl, ⟨_, x, rfl, I.hok.fresh (Nat.le_refl _), rfl, fun ys hy => by rw [I.tuple_inj hy hq]; exact hx⟩, ⟨⟨u2, ?_⟩, hit'.1.at fun o q => (sb.2 it (Ne.symm hne)).trans q, hne, hai, hea⟩, fun b hb => ?_⟩
    · have e1 : ((i + 1 : Nat) : Int) = (i : Int) + 1 := by omega
      rw [e1]; exact he'
    · have hb' : b < s.heap.objs.size := by
        have e' : b = e ∨ b = it := by simpa using hb
        rcases e' with z | z
        · rw [z]; exact hel
        · rw [z]; exact hil
      rw [upd_ne (Nat.ne_of_lt hb')]
      exact (hf b hb).1
  done := by
    intro X hP hw hK hc i pins s σ H E I hf st hg
    subst hP hw hK
    obtain ⟨⟨old, he⟩, hit, hne, hai, hea⟩ := st
    obtain ⟨xs, hq, hx⟩ := hg
    obtain ⟨its, rv, p, hz⟩ := I.tuple hq
    obtain ⟨f0, f1, f2, f3, f4, f5⟩ := hf it (by simp)
    have hl := rv.length
    have pT : s.heap.IsTuple a its.toArray := p
    have hh : X.A.in1.handled = none := I.ok.hd hc
    have hT : s.TypeIs (.ref e) "enumerate" := ⟨_, he, rfl⟩
    have hnone : its.toArray[i]? = none := by simp; omega
    unfold pyNext
    refine wpAny_bind (wpAny_attempt (wpAny_callSpecial?_slot (name := Str.ofString "__next__") hT F.slot_enumerate_next
      (wpAny_call_entry F.slot_enumerate_next hT F.entry_enumerate_next ?_ (F.args_enumerate_next_1 _))))
    show wpAny _ _ (field (.ref e) 2 >>= _) _ _ _
    refine wpAny_bind (wpAny_field he rfl (x := .ref it) rfl ?_)
    refine wpAny_bind (wpAny_nextOf_tuple_end hh hit pT hnone fun h' x eb hx' => ?_)
    obtain ⟨o, ho, hc'⟩ := hx'
    refine wpAny_bind (wpAny_isInstance (T := "StopIteration") (b := true) ⟨o, ho, hc'⟩ isSubtype_stop ?_)
    exact wpAny_pure ⟨rfl, I.turned (t' := s.toks) (fun b o hb q => eb b o hb q) f0 f1 f3 f4 f5⟩
  self := fun A i s Q E st h => let ⟨⟨_, he⟩, _⟩ := st; wpAny_pyIter_enum he h
/-- enumerate(e), a list or a tuple -/
def iEnumB (K : PySem.W.Frag) (ta : TA) : TI := fun σ H R => ta σ H fun vs H1 => ∃ a, vs = [.ref a] ∧ ((∃ xs, SqL K H1 a xs ∧ R (Ite K a) H1) ∨ (∃ xs, SqT K H1 a xs ∧ R (IteT K a) H1))
theorem pi_enumB {X : Cx} {e : Expr} {ta : TA} {p pos tpos : Pos} {elts : List Expr} {kk : Nat} (hg : Gl X "enumerate") (hm : X.mg "enumerate" = none) (ha : PA X [e] ta) (hs : starEach [e] X.env = [(false, eval e X.env)] := by rfl) :
    PI X (.Tuple elts kk tpos) (.Call (.Name "enumerate" p) [e] [] pos) (iEnumB X.K ta) := by
  refine ⟨fun pins s σ H R I h => ?_⟩
  refine Call_ (ld_blt I hg hm boot_enumerate (PyProof.Rows.callWith_type1 (thn (ha.run pos pins s σ H _ I h) fun us s1 ⟨vs, H1, I1, r1, q1⟩ => ?_) hs rfl))
  obtain ⟨a, ex, q⟩ := q1
  subst ex
  cases r1 with
  | cons r rr =>
    cases rr
    cases r
    have fp : ∀ b ∈ [s1.heap.objs.size + 1, s1.heap.objs.size], FpOk X pins H1 b := fun b hb => by
      have e' : b = s1.heap.objs.size + 1 ∨ b = s1.heap.objs.size := by simpa using hb
      have hle : s1.heap.objs.size ≤ b := by
        rcases e' with z | z
        · rw [z]; exact Nat.le_add_right _ _
        · rw [z]; exact Nat.le_refl _
      exact I1.fpOk hle (I1.hok.fresh hle)
    rcases q with ⟨xs, hq, q⟩ | ⟨xs, hq, q⟩
    · obtain ⟨its, rv, p', hz⟩ := I1.list hq
      refine call_enumerate_list p'.isList fun h' he hit hsz hk => wpAny_pyIter_enum he ?_
      have I2 : Inv X pins σ H1 { s1 with heap := h' } := I1.kept (t' := s1.toks) hk
      exact ⟨s1.heap.objs.size + 1, [s1.heap.objs.size + 1, s1.heap.objs.size], _, _, H1, rfl, I2, turn_enum a (s1.heap.objs.size + 1) s1.heap.objs.size, ⟨⟨.none, he⟩, hit, Nat.succ_ne_self _⟩, fp, q⟩
    · obtain ⟨its, rv, p', hz⟩ := I1.tuple hq
      have pT : s1.heap.IsTuple a its.toArray := p'
      have hal : a < s1.heap.objs.size := by obtain ⟨o, e1, _⟩ := pT; exact Heap.lt_size e1
      refine call_enumT pT fun h' he hit hsz hk => wpAny_pyIter_enum he ?_
      have I2 : Inv X pins σ H1 { s1 with heap := h' } := I1.kept (t' := s1.toks) hk
      exact ⟨s1.heap.objs.size + 1, [s1.heap.objs.size + 1, s1.heap.objs.size], _, _, H1, rfl, I2, turn_enumT a (s1.heap.objs.size + 1) s1.heap.objs.size, ⟨⟨.none, he⟩, hit, Nat.succ_ne_self _, Nat.ne_of_lt hal, Nat.ne_of_gt (Nat.lt_succ_of_lt hal)⟩, fp, q⟩

theorem good_enumT {K : PySem.W.Frag} {w : World} {F : Hp} {a : Addr} {xs : List V} {ds : List D} (h : SqT K F a xs) (r : RepAll K w F ds xs) : GoodJ K w F (enumL ds) (IteT K a) := by
  unfold GoodJ
  have hl : (enumL ds).length = xs.length := by simp [enumL, r.length]
  rw [hl]
  refine ⟨fun i H hi e => ⟨xs, xs[i], Same.seqT e h, by simp [hi]⟩, fun H e => ⟨xs, Same.seqT e h, Nat.le_refl _⟩, fun i H x H' hi e ⟨T, v, h1, h2, h3, h5⟩ => ?_⟩
  obtain ⟨d, q1, q2⟩ := r.get' (h5 xs (Same.seqT e h))
  subst h1 h3
  exact ⟨.tup [.int (i : Int), d], by simp [enumL, q1], fun F2 e1 e2 => pair_step e2 h2 (.int _) (q2.mono e1)⟩
/-- the turns of a loop over what stands frozen -/
theorem for_good {K : PySem.W.Frag} {w : World} {W : WX} {t : TgM} {sl : List Nat} {body : SM} {ds : List D} {J : It} {B : Bs} {F' : Hp} {μ' : List Addr} {ρ : Fr} {S1 : Sto} {σ : L2.St} {H' : Hp} {En : Ends} (gj : GoodJ K w F' ds J) (y : StOk K w B F' μ' ρ S1 σ H') (fl0 : flowAt K w W (loopM t body ds ρ S1) B F' En) :
    ∃ Wt : Nat → Nat → L2.St → Hp → Prop, (∃ m, Wt 0 m σ H') ∧ ∀ i m σ H, Wt i m σ H → (J.stop i H ∧ En.nx σ H) ∨ (J.go i H ∧ ∃ N : L2.St → Hp → Prop, (∀ σ' H', N σ' H' → ∃ m', m' < m ∧ Wt (i + 1) m' σ' H') ∧ ∀ x H', J.yld i H x H' → gM K w sl t x σ H' fun σ2 H2 => tS K w W body { En with nx := N, ct := N, bk := En.nx } σ2 H2) := by
  refine for_it gj (fun i σ H => ∃ F2 μ2 ρ2 S2, StOk K w B F2 μ2 ρ2 S2 σ H ∧ Same F' F2 ∧ flowAt K w W (loopM t body (ds.drop i) ρ2 S2) B F2 En) ⟨F', μ', ρ, S1, y, Same.refl _, fl0⟩ (fun i σ H hi ⟨F2, μ2, ρ2, S2, k1, k2, k3⟩ => k2.trans k1.rel.le) ?_ ?_
  · rintro i x σ H H2 hi ⟨F2, μ2, ρ2, S2, k1, k2, k3⟩ ⟨d, hd, hF⟩
    obtain ⟨F3, st, rx⟩ := hF F2 k2 k1.rel.le
    have e : ds.drop i = d :: ds.drop (i + 1) := by
      rw [List.drop_eq_getElem_cons hi]
      congr 1
      rw [List.getElem?_eq_getElem hi] at hd
      exact Option.some.inj hd
    rw [e] at k3
    have y3 := k1.grow st.grow (k1.rel.step st)
    cases qt : t d ρ2 with
    | none =>
      obtain ⟨fl, _, _, h, _⟩ := k3
      unfold loopM at h
      simp [qt] at h
    | some ρ3 =>
      refine ⟨F3, μ2, ρ2, S2, d, ρ3, y3.rel, y3.fr, rx, qt, fun σ1 T => ?_⟩
      have ls := loop_step qt (flowAt.mono st.f k3)
      refine ⟨B, F3, μ2, ρ3, S2, y3.tok T, ?_⟩
      obtain ⟨f4, ρ4, S4, g1, g2⟩ := ls
      refine ⟨f4, ρ4, S4, g1, fun F5 μ5 σ5 H5 e x => ?_⟩
      have z := g2 F5 μ5 σ5 H5 e x
      cases f4 with
      | nx => obtain ⟨F6, μ6, ρ6, S6, a1, a2, a3⟩ := z; exact ⟨F6, μ6, ρ6, S6, a1, (k2.trans st.f).trans a2, a3⟩
      | ct => obtain ⟨F6, μ6, ρ6, S6, a1, a2, a3⟩ := z; exact ⟨F6, μ6, ρ6, S6, a1, (k2.trans st.f).trans a2, a3⟩
      | bk => exact z
      | rt r => exact z
      | ex c fs => exact z
  · rintro σ H ⟨F2, μ2, ρ2, S2, k1, k2, k3⟩
    rw [List.drop_length] at k3
    exact k3.nx k1
/-- a tuple -/
def enumT (as : List R) : Option (List D) := match as with
  | [.d (.tup ds)] => some ds
  | _ => none
theorem enumT_ok {K : PySem.W.Frag} {w : World} {F : Hp} {μ : List Addr} {σ : L2.St} {as : List R} {vs : List V} {ds : List D} (z : RepRs K w F μ σ as vs) (e : enumT as = some ds) : ∃ a xs, vs = [.ref a] ∧ SqT K F a xs ∧ RepAll K w F ds xs := by
  unfold enumT at e
  split at e
  · cases e
    cases z with
    | cons z1 z2 =>
      cases z2
      cases z1 with
      | tup hF ra => exact ⟨_, _, rfl, hF, ra⟩
  · cases e
/-- enumerate of a list, frozen or alive, or of a tuple -/
noncomputable def enumX (t : TgM) (body : SM) (as : List R) : SM := fun ρ S => match enumT as with
  | some ds => loopM t body (enumL ds) ρ S
  | none => match enumK as ρ S with
    | some (.ok p, S') => loopK p.2 p.1 t body (enumL p.1) ρ S'
    | some (.ex c fs, S') => some (.ex c fs, ρ, S')
    | none => none
noncomputable def forX (ms : AM) (t : TgM) (body : SM) : SM := thenM ms (enumX t body)
open Classical in
theorem ms_forK {X : Cx} {W : WX} {elts : List Expr} {e : Expr} {ms : AM} {sl : List Nat} {t : TgM} {bd : List Stmt} {body : SM} {pos p cpos tpos : Pos} {kk : Nat} (hp : PassesOwn (model X.prog X.w) X.A X.env X.xe) (hc : X.calm = true) (hm : X.mg "enumerate" = none) (ha : MA X W [e] ms) (hg : MG X (.Tuple elts kk tpos) sl t) (hb : MSs X W bd body)
    (hgl : Gl X "enumerate" := by rfl) (hst : starEach [e] X.env = [(false, eval e X.env)] := by rfl) (hs : ∀ x, foldedSetIterable (.Call (.Name "enumerate" p) [e] [] cpos) X.env x = pure x := by intro _; rfl) : MS X W (.For (.Tuple elts kk tpos) (.Call (.Name "enumerate" p) [e] [] cpos) bd [] pos) (forX ms t body) :=
  PS.imp (ps_for hp hc (pi_enumB hgl hm ha hst) hg hb hs) fun En σ H h => by
    unfold forX at h
    obtain ⟨B, F, μ, ρ, S, h1, fl, ρ', S', h2, h3⟩ := h
    unfold thenM at h2
    refine ⟨F, μ, ρ, S, h1.rel, h1.fr, ?_⟩
    cases q : ms ρ S with
    | none => simp [q] at h2
    | some r =>
      obtain ⟨o1, S1⟩ := r
      cases o1 with
      | ex c fs => simp only [q] at h2; cases h2; exact ⟨_, _, rfl, fun F' μ' H' d g r z => h3 F' μ' σ H' g.f (h1.grow g r) d z⟩
      | ok as =>
        simp only [q] at h2
        refine ⟨.ok as, S1, rfl, fun F1 μ1 H1 vs g r z => ?_⟩
        have y := h1.grow g r
        have key : ∀ (ds : List D) (k : Option Nat), enumK as ρ S1 = some (.ok (ds, k), S1) → ∃ a xs, vs = [.ref a] ∧ H1 a = some (.lst xs) ∧ RepAll X.K X.w F1 ds xs ∧ LiveV X.K X.w F1 μ1 S1 a k ds := fun ds k e => by
          unfold enumK at e
          split at e
          · cases e
            cases z with
            | cons z1 z2 =>
              cases z2
              cases z1 with
              | lst hF ra => exact ⟨_, _, rfl, r.le _ _ hF, ra, _, hF, ra⟩
          · rename_i n
            cases qn : S1[n]? with
            | none => simp [qn] at e
            | some cc =>
              cases cc with
              | lst es =>
                simp only [qn] at e
                cases e
                cases z with
                | cons z1 z2 =>
                  cases z2
                  obtain ⟨a, k1, rfl⟩ := z1
                  obtain ⟨_, xs, k2, k3⟩ := r.cell n a _ k1 qn
                  exact ⟨a, xs, rfl, k2, k3, k1, qn⟩
              | _ => simp [qn] at e
          · cases e
        have enumOut : ∀ {o S2}, enumK as ρ S1 = some (o, S2) → ∃ p, o = .ok p ∧ S2 = S1 := fun {o S2} e => by
          unfold enumK at e
          split at e
          · cases e; exact ⟨_, rfl, rfl⟩
          · split at e
            · cases e; exact ⟨_, rfl, rfl⟩
            · cases e
          · cases e
        cases qt0 : enumT as with
        | some ds =>
          simp only [enumX, qt0] at h2
          obtain ⟨a, xs, rfl, hx, ra⟩ := enumT_ok z qt0
          refine ⟨a, rfl, .inr ⟨xs, Same.seqT r.le hx, ?_⟩⟩
          exact for_good (good_enumT hx ra) y (flowAt.mono g.f ⟨fl, ρ', S', h2, h3⟩)
        | none =>
        simp only [enumX, qt0] at h2
        cases qe : enumK as ρ S1 with
        | none => simp [qe] at h2
        | some p =>
          obtain ⟨o2, S2⟩ := p
          obtain ⟨⟨ds, k⟩, rfl, rfl⟩ := enumOut qe
          simp only [qe] at h2
          obtain ⟨a, xs, rfl, hx, ra, lv⟩ := key ds k qe
          refine ⟨a, rfl, .inl ⟨xs, SqL.of hx, ?_⟩⟩
          have y0 := y.rebase
          have fl0 : flowAt X.K X.w W (loopK k ds t body (enumL ds) ρ S2) B F1 En := flowAt.mono g.f ⟨fl, ρ', S', h2, h3⟩
          have hlen : (enumL ds).length = ds.length := by simp [enumL]
          have wk : Walk (Ite X.K a) ds.length (fun H => ∃ xs, H a = some (.lst xs) ∧ xs.length = ds.length) (fun i H v H' => ∃ T x, v = .ref T ∧ H T = none ∧ H' = upd H T (.tup [.int (i : Nat), x]) ∧ ∀ xs, H a = some (.lst xs) → xs[i]? = some x) :=
            ⟨fun i H hi ⟨xs, e, hl⟩ => ⟨xs, xs[i]'(by omega), SqL.of e, by simp [hl, hi]⟩, fun H ⟨xs, e, hl⟩ => ⟨xs, SqL.of e, by omega⟩, fun i H v H' hi _ ⟨T, x, e1, e2, e3, e4⟩ => ⟨T, x, e1, e2, e3, fun xs q => e4 xs (SqL.of q)⟩⟩
          have ln : ∀ {F2 : Hp} {μ2 : List Addr} {ρ2 : Fr} {S3 : Sto} {τ : L2.St} {Hh : Hp}, StOk X.K X.w ⟨F1, baseH ρ σ H1, μ1⟩ F2 μ2 ρ2 S3 τ Hh → Same F1 F2 → liveAt S3 k ds → LiveV X.K X.w F2 μ2 S3 a k ds := fun {F2 μ2 ρ2 S3 τ Hh} z e la => by
            cases k with
            | none => obtain ⟨us, u1, u2⟩ := lv; exact ⟨us, e _ _ u1, u2.mono e⟩
            | some n => exact ⟨get_of_prefix z.gr.p lv.1, la⟩
          refine for_it wk (fun i τ Hh => ∃ F2 μ2 ρ2 S3, StOk X.K X.w ⟨F1, baseH ρ σ H1, μ1⟩ F2 μ2 ρ2 S3 τ Hh ∧ Same F1 F2 ∧ LiveV X.K X.w F2 μ2 S3 a k ds ∧ flowAt X.K X.w W (loopK k ds t body ((enumL ds).drop i) ρ2 S3) B F2 En) ⟨F1, μ1, ρ, S2, y0, Same.refl _, lv, fl0⟩ ?_ ?_ ?_
          · rintro i τ Hh hi ⟨F2, μ2, ρ2, S3, k1, k2, k3, k4⟩
            obtain ⟨us, u1, u2⟩ := k3.xs k1.rel
            exact ⟨us, u1, u2.length.symm⟩
          · rintro i x τ Hh H' hi ⟨F2, μ2, ρ2, S3, k1, k2, k3, k4⟩ ⟨T, v, rfl, e2, rfl, e4⟩
            obtain ⟨us, u1, u2⟩ := k3.xs k1.rel
            obtain ⟨di, v1, v2⟩ := u2.get' (e4 us u1)
            obtain ⟨F3, st, rx⟩ := pair_step (d := .int (i : Int)) k1.rel.le e2 (.int (i : Int)) v2
            have e : (enumL ds).drop i = .tup [.int (i : Int), di] :: (enumL ds).drop (i + 1) := by
              have hl : i < (enumL ds).length := by rw [hlen]; exact hi
              rw [List.drop_eq_getElem_cons hl]
              congr 1
              simp only [enumL, List.getElem_mapIdx]
              rw [List.getElem?_eq_getElem hi] at v1
              rw [Option.some.inj v1]
            rw [e] at k4
            have y3 := k1.grow st.grow (k1.rel.step st)
            obtain ⟨f4, ρ4, S4, g1, g2⟩ := k4
            unfold loopK at g1
            cases qt : t (.tup [.int (i : Int), di]) ρ2 with
            | none => simp [qt] at g1
            | some ρ3 =>
              simp only [qt] at g1
              refine ⟨F3, μ2, ρ2, S3, _, ρ3, y3.rel, y3.fr, rx, qt, fun σ1 Tk => ⟨_, F3, μ2, ρ3, S3, y3.tok Tk, ?_⟩⟩
              cases qb : body ρ3 S3 with
              | none => simp [qb] at g1
              | some rb =>
                obtain ⟨f5, ρ5, S5⟩ := rb
                simp only [qb] at g1
                refine ⟨f5, ρ5, S5, rfl, fun F5 μ5 σ5 H5 e5 x5 => ?_⟩
                have s5 : Same F2 F5 := st.f.trans e5
                have live : (if liveAt S5 k ds then loopK k ds t body ((enumL ds).drop (i + 1)) ρ5 S5 else none) = some (f4, ρ4, S4) → ∃ F2 μ2 ρ2 S3, StOk X.K X.w ⟨F1, baseH ρ σ H1, μ1⟩ F2 μ2 ρ2 S3 σ5 H5 ∧ Same F1 F2 ∧ LiveV X.K X.w F2 μ2 S3 a k ds ∧ flowAt X.K X.w W (loopK k ds t body ((enumL ds).drop (i + 1)) ρ2 S3) B F2 En := fun gg => by
                  by_cases la : liveAt S5 k ds
                  · rw [if_pos la] at gg
                    exact ⟨F5, μ5, ρ5, S5, x5, k2.trans s5, ln x5 (k2.trans s5) la, f4, ρ4, S4, gg, fun F6 μ6 σ6 H6 e6 => g2 F6 μ6 σ6 H6 (s5.trans e6)⟩
                  · rw [if_neg la] at gg; cases gg
                cases f5 with
                | nx => exact live g1
                | ct => exact live g1
                | bk => cases g1; exact g2 F5 μ5 σ5 H5 s5 (y.unbase x5)
                | rt r => cases g1; exact g2 F5 μ5 σ5 H5 s5 (y.unbase x5)
                | ex c fs => cases g1; exact g2 F5 μ5 σ5 H5 s5 (y.unbase x5)
          · rintro τ Hh ⟨F2, μ2, ρ2, S3, k1, k2, k3, k4⟩
            rw [← hlen, List.drop_length] at k4
            exact k4.nx (y.unbase k1)
end MM
namespace MM
open PySem PySem.Spec PyProof.Rows L2
/-! ### o.pop(i) -/
def popAtD (i : R) (ds : List D) : Option (D × List D) := match i with
  | .d (.int k) => if -(2 ^ 62) ≤ k ∧ k < 2 ^ 62 then match ixN ds.length k with
    | some j => match ds[j]? with
      | some x => some (x, ds.eraseIdx j)
      | none => none
    | none => none
    else none
  | _ => none
def popAtM (mo mi : EM) : SM := thenM (lstR mo) fun o => thenM mi fun i => mutL o fun ds => (popAtD i ds).map (·.2)
/-- as a value, of a list in a cell -/
def popC (o i : R) : EM := fun _ S => match o with
  | .loc n => match S[n]? with
    | some (.lst ds) => match popAtD i ds with
      | some (x, es) => some (.ok (.d x), S.set n (.lst es))
      | none => none
    | _ => none
  | _ => none
def popE (mo mi : EM) : EM := bindM (lstR mo) fun o => bindM mi fun i => popC o i

section
variable {X : Cx} {W : WX} {o i : Expr} {mo mi : EM} {pos apos cpos : Pos}
end
end MM
namespace MM
open PySem PySem.Spec PyProof.Rows L2
section
variable {α β : Type} {ρ : Fr} {S : Sto} {m n : SM} {me mf mg : EM} {t u : TM} {ms : AM} {x y : D} {i j : Nat}
@[simp] theorem bindM_ap {e : GM α} {f : α → GM β} : bindM e f ρ S = match e ρ S with
  | none => none
  | some (.ex c fs, S') => some (.ex c fs, S')
  | some (.ok a, S') => f a ρ S' := id rfl
@[simp] theorem thenM_ap {e : GM α} {f : α → SM} : thenM e f ρ S = match e ρ S with
  | none => none
  | some (.ex c fs, S') => some (.ex c fs, ρ, S')
  | some (.ok a, S') => f a ρ S' := id rfl
@[simp] theorem varM_ap : varM i ρ S = match ρ[i]? with
  | some (some (.r x)) => some (.ok x, S)
  | some (some (.own _)) => some (.ok (.slot i), S)
  | _ => none := rfl
@[simp] theorem litM_ap : litM x ρ S = some (.ok (.d x), S) := rfl
@[simp] theorem nxM_ap : nxM ρ S = some (.nx, ρ, S) := rfl
@[simp] theorem seqM_ap : seqM m n ρ S = match m ρ S with
  | some (.nx, ρ', S') => n ρ' S'
  | r => r := id rfl
@[simp] theorem setR_ap {r : R} : setR i r ρ S = if closedR r = true ∧ i < ρ.length then some (.nx, ρ.set i (some (.r r)), S) else none := rfl
@[simp] theorem setM_ap : setM i me ρ S = thenM me (setR i) ρ S := rfl
@[simp] theorem dropM_ap : dropM me ρ S = thenM me (fun _ => nxM) ρ S := rfl
@[simp] theorem retM_ap : retM me ρ S = thenM me (fun r ρ S => some (.rt r, ρ, S)) ρ S := rfl
@[simp] theorem retNM_ap : retNM ρ S = some (.rt (.d .non), ρ, S) := rfl
@[simp] theorem ifM_ap : ifM t m n ρ S = thenM t (fun b => if b = true then m else n) ρ S := rfl
@[simp] theorem brkM_ap : brkM ρ S = some (.bk, ρ, S) := rfl
@[simp] theorem cntM_ap : cntM ρ S = some (.ct, ρ, S) := rfl
@[simp] theorem closedR_d : closedR (.d x) = true := rfl
@[simp] theorem closedR_loc : closedR (.loc i) = true := rfl
@[simp] theorem closedRs_nil : closedRs [] = true := rfl
@[simp] theorem closedRs_cons {r : R} {rs : List R} : closedRs (r :: rs) = (closedR r && closedRs rs) := rfl
@[simp] theorem peek_d : peek ρ S (.d x) = some x := rfl
@[simp] theorem peek_loc : peek ρ S (.loc i) = match S[i]? with
  | some c => cellD c
  | none => none := rfl
@[simp] theorem peek_slot : peek ρ S (.slot i) = match ρ[i]? with
  | some (some (.own c)) => cellD c
  | _ => none := rfl
@[simp] theorem cellD_lst {ds : List D} : cellD (.lst ds) = some (.lst ds) := rfl
@[simp] theorem cellD_frz : cellD (.frz x) = some x := rfl
@[simp] theorem cellD_dic {ds : List (D × D)} : cellD (.dic ds) = some (.dic ds) := rfl
@[simp] theorem cellD_dit {ds : List (D × D)} : cellD (.dit ds) = some (.dit ds) := rfl
@[simp] theorem peeks_nil : peeks ρ S [] = some [] := rfl
@[simp] theorem peeks_cons {r : R} {rs : List R} : peeks ρ S (r :: rs) = match peek ρ S r, peeks ρ S rs with
  | some d, some ds => some (d :: ds)
  | _, _ => none := rfl
@[simp] theorem ret1_ap {f : D → Option D} {a : R} : ret1 f a ρ S = match peek ρ S a with
  | some d => match f d with
    | some g => some (.ok (.d g), S)
    | none => none
  | none => none := rfl
@[simp] theorem ret2_ap {f : D → D → Option D} {a b : R} : ret2 f a b ρ S = match peek ρ S a, peek ρ S b with
  | some d, some e => match f d e with
    | some g => some (.ok (.d g), S)
    | none => none
  | _, _ => none := rfl
@[simp] theorem retN_ap {f : List D → Option D} {as : List R} : retN f as ρ S = match peeks ρ S as with
  | some ds => match f ds with
    | some g => some (.ok (.d g), S)
    | none => none
  | none => none := rfl
@[simp] theorem retO_ap {f : D → List D → Option D} {a : R} {as : List R} : retO f a as ρ S = match peek ρ S a, peeks ρ S as with
  | some d, some ds => match f d ds with
    | some g => some (.ok (.d g), S)
    | none => none
  | _, _ => none := rfl
@[simp] theorem op1M_ap {f : D → Option D} : op1M f me ρ S = bindM me (ret1 f) ρ S := rfl
@[simp] theorem negM_ap : negM me ρ S = bindM me (ret1 negD) ρ S := rfl
@[simp] theorem op2M_ap {f : D → D → Option D} : op2M f me mf ρ S = bindM me (fun a => bindM mf fun b => ret2 f a b) ρ S := rfl
@[simp] theorem callM_ap {f : List D → Option D} : callM f ms ρ S = bindM ms (retN f) ρ S := rfl
@[simp] theorem methM_ap {f : D → List D → Option D} : methM f me ms ρ S = bindM me (fun o => bindM ms fun as => retO f o as) ρ S := rfl
@[simp] theorem nilA_ap : nilA ρ S = some (.ok [], S) := rfl
@[simp] theorem consA_ap : consA me ms ρ S = bindM me (fun a => bindM ms fun as => fun _ S => some (.ok (a :: as), S)) ρ S := rfl
@[simp] theorem dsOf_nil : dsOf [] = some [] := rfl
@[simp] theorem dsOf_cons {r : List R} : dsOf (.d x :: r) = (dsOf r).map (x :: ·) := rfl
@[simp] theorem mkTup_ap {as : List R} : mkTup as ρ S = match dsOf as with
  | some ds => if ds.length ≤ sizeLine then some (.ok (.d (.tup ds)), S) else none
  | none => none := rfl
@[simp] theorem mkLst_ap {as : List R} : mkLst as ρ S = match dsOf as with
  | some ds => if ds.length ≤ sizeLine then some (.ok (.d (.lst ds)), S) else none
  | none => none := rfl
@[simp] theorem tupM_ap : tupM ms ρ S = bindM ms mkTup ρ S := rfl
@[simp] theorem lstM_ap : lstM ms ρ S = bindM ms mkLst ρ S := rfl
@[simp] theorem newR_ap : newR ms ρ S = bindM ms (fun as _ S => match dsOf as with
  | some ds => if ds.length ≤ sizeLine then some (.ok ds, S) else none
  | none => none) ρ S := rfl
@[simp] theorem newLM_ap : newLM ms ρ S = bindM ms newLR ρ S := rfl
@[simp] theorem newLR_ap {as : List R} : newLR as ρ S = match peeks ρ S as with
  | some ds => match listF ds with
    | some (.lst es) => some (.ok es, S)
    | _ => none
  | none => none := rfl
@[simp] theorem catR_ap {a b : R} : catR a b ρ S = match peek ρ S a, peek ρ S b with
  | some (.lst x), some (.lst y) => if x.length + y.length ≤ sizeLine then some (.ok (x ++ y), S) else none
  | _, _ => none := rfl
@[simp] theorem catM_ap : catM me mf ρ S = bindM me (fun a => bindM mf fun b => catR a b) ρ S := rfl
@[simp] theorem splitR_ap {o : R} {as : List R} : splitR o as ρ S = match peek ρ S o, peeks ρ S as with
  | some d, some ds => match splitF d ds with
    | some (.lst es) => some (.ok es, S)
    | _ => none
  | _, _ => none := rfl
@[simp] theorem splitM_ap : splitM me ms ρ S = bindM (strR me) (fun o => bindM ms fun as => splitR o as) ρ S := rfl
@[simp] theorem tstB_ap {a : R} : tstB a ρ S = match a with
  | .d (.bl b) => some (.ok b, S)
  | _ => none := rfl
@[simp] theorem tstT_ap {a : R} : tstT a ρ S = match peek ρ S a with
  | some d => match truB d with
    | some b => some (.ok b, S)
    | none => none
  | none => none := rfl
@[simp] theorem bT_ap : bT me ρ S = bindM me tstB ρ S := rfl
@[simp] theorem truM_ap : truM me ρ S = bindM me tstT ρ S := rfl
@[simp] theorem notT_ap : notT t ρ S = bindM t (fun b _ S => some (.ok (!b), S)) ρ S := rfl
@[simp] theorem andT_ap : andT t u ρ S = bindM t (fun b => if b = true then u else fun _ S => some (.ok false, S)) ρ S := rfl
@[simp] theorem orT_ap : orT t u ρ S = bindM t (fun b => if b = true then fun _ S => some (.ok true, S) else u) ρ S := rfl
@[simp] theorem notV_ap : notV me ρ S = bindM (bT me) (fun b => litM (.bl (!b))) ρ S := rfl
@[simp] theorem andV_ap : andV me mf ρ S = bindM (bT me) (fun b => if b = true then mf else litM (.bl false)) ρ S := rfl
@[simp] theorem orV_ap : orV me mf ρ S = bindM (bT me) (fun b => if b = true then litM (.bl true) else mf) ρ S := rfl
@[simp] theorem ifV_ap : ifV t me mf ρ S = bindM t (fun b => if b = true then me else mf) ρ S := rfl
@[simp] theorem ite_ap {p : Prop} [Decidable p] {f g : Fr → Sto → α} : (if p then f else g) ρ S = if p then f ρ S else g ρ S := by split <;> rfl
@[simp] theorem noP_ap : noP ρ S = some (.ok none, S) := rfl
@[simp] theorem partR_ap {a : R} : partR a ρ S = match a with
  | .d (.int i) => some (.ok (some i), S)
  | _ => none := rfl
@[simp] theorem partM_ap : partM me ρ S = bindM me partR ρ S := rfl
@[simp] theorem retS_ap {a : R} {lo hi : Option Int} : retS a lo hi ρ S = match peek ρ S a with
  | some d => match slD d lo hi with
    | some g => some (.ok (.d g), S)
    | none => none
  | none => none := rfl
@[simp] theorem slM_ap {ml mh : OM} : slM me ml mh ρ S = bindM me (fun a => bindM ml fun l => bindM mh fun h => retS a l h) ρ S := rfl
@[simp] theorem chainM_ap {f g : D → D → Option D} : chainM f g me mf mg ρ S = bindM me (fun a => bindM mf fun b => bindM (bT (ret2 f a b)) fun k => if k = true then bindM mg fun c => ret2 g b c else litM (.bl false)) ρ S := rfl
@[simp] theorem cellAt_slot : cellAt ρ S (.slot i) = match ρ[i]? with
  | some (some (.own c)) => some c
  | _ => none := rfl
@[simp] theorem cellAt_loc : cellAt ρ S (.loc i) = S[i]? := rfl
@[simp] theorem cellAt_d : cellAt ρ S (.d x) = none := rfl
@[simp] theorem putFr_slot {c : Cell} : putFr ρ (.slot i) c = ρ.set i (some (.own c)) := rfl
@[simp] theorem putFr_loc {c : Cell} : putFr ρ (.loc i) c = ρ := rfl
@[simp] theorem putSto_slot {c : Cell} : putSto S (.slot i) c = S := rfl
@[simp] theorem putSto_loc {c : Cell} : putSto S (.loc i) c = S.set i c := rfl
@[simp] theorem mutL_ap {r : R} {f : List D → Option (List D)} : mutL r f ρ S = match cellAt ρ S r with
  | some (.lst ds) => match f ds with
    | some es => some (.nx, putFr ρ r (.lst es), putSto S r (.lst es))
    | none => none
  | _ => none := rfl
@[simp] theorem isLst_ap {r : R} : isLst r ρ S = match cellAt ρ S r with
  | some (.lst _) => some (.ok r, S)
  | _ => none := rfl
@[simp] theorem lstR_ap : lstR me ρ S = bindM me isLst ρ S := rfl
@[simp] theorem appM_ap : appM me mf ρ S = thenM (lstR me) (fun o => thenM mf fun a => mutL o (appD a)) ρ S := rfl
@[simp] theorem setIxM_ap : setIxM me mf mg ρ S = thenM me (fun a => thenM mf fun o => thenM mg fun i => mutL o (setD i a)) ρ S := rfl
@[simp] theorem popM_ap : popM me ρ S = thenM (lstR me) (fun o => mutL o popD) ρ S := rfl
@[simp] theorem insM_ap : insM me mf mg ρ S = thenM (lstR me) (fun o => thenM mf fun i => thenM mg fun a => mutL o (insD i a)) ρ S := rfl
@[simp] theorem ofNew_ap {e : NM} : ofNew e ρ S = bindM e (fun ds => litM (.lst ds)) ρ S := rfl
@[simp] theorem ownM_ap {e : NM} : ownM i e ρ S = thenM e (fun ds ρ S => if i < ρ.length then some (.nx, ρ.set i (some (.own (.lst ds))), S) else none) ρ S := rfl
@[simp] theorem locOf_ap {e : NM} : locOf e ρ S = match e ρ S with
  | some (.ok ds, S') => some (.ok (.loc S'.length), S' ++ [.lst ds])
  | some (.ex c fs, S') => some (.ex c fs, S')
  | none => none := rfl
@[simp] theorem seqR_ap {r : R} : seqR r ρ S = match r with
  | .d (.lst ds) => some (.ok ds, S)
  | .d (.tup ds) => some (.ok ds, S)
  | _ => none := rfl
@[simp] theorem iSeqM_ap : iSeqM me ρ S = bindM me seqR ρ S := rfl
@[simp] theorem rng1R_ap {as : List R} : rng1R as ρ S = match as with
  | [.d (.int j)] => if -(2 ^ 62) ≤ j ∧ j < 2 ^ 62 then some (.ok (rngL 0 j.toNat), S) else none
  | _ => none := rfl
@[simp] theorem iRng1M_ap : iRng1M ms ρ S = bindM ms rng1R ρ S := rfl
@[simp] theorem rng2R_ap {as : List R} : rng2R as ρ S = match as with
  | [.d (.int i), .d (.int j)] => if -(2 ^ 62) ≤ i ∧ i < 2 ^ 62 ∧ -(2 ^ 62) ≤ j ∧ j < 2 ^ 62 then some (.ok (rngL i (j - i).toNat), S) else none
  | _ => none := rfl
@[simp] theorem iRng2M_ap : iRng2M ms ρ S = bindM ms rng2R ρ S := rfl
@[simp] theorem enumR_ap {as : List R} : enumR as ρ S = match as with
  | [.d (.lst ds)] => some (.ok (enumL ds), S)
  | _ => none := rfl
@[simp] theorem iEnumM_ap : iEnumM ms ρ S = bindM ms enumR ρ S := rfl
@[simp] theorem zipR_ap {as : List R} : zipR as ρ S = match as with
  | [.d (.lst ds), .d (.lst es)] => some (.ok (zipL ds es), S)
  | [.d (.tup ds), .d (.tup es)] => some (.ok (zipL ds es), S)
  | _ => none := rfl
@[simp] theorem iZipM_ap : iZipM ms ρ S = bindM ms zipR ρ S := rfl
@[simp] theorem nameT_ap : nameT i x ρ = if i < ρ.length then some (ρ.set i (some (.r (.d x)))) else none := rfl
@[simp] theorem tgs_nil : tgs [] [] ρ = some ρ := rfl
@[simp] theorem tgs_cons {tt : TgM} {ts : List TgM} {ds : List D} : tgs (tt :: ts) (x :: ds) ρ = (tt x ρ).bind (tgs ts ds) := rfl
@[simp] theorem tupT_ap {ts : List TgM} : tupT ts x ρ = match x with
  | .tup ds => tgs ts ds ρ
  | _ => none := rfl
@[simp] theorem asgM_ap {tt : TgM} : asgM me tt ρ S = thenM me (fun r ρ S => match r with
  | .d d => match tt d ρ with
    | some ρ1 => some (.nx, ρ1, S)
    | none => none
  | _ => none) ρ S := rfl
@[simp] theorem forM_ap {e : NM} {tt : TgM} : forM e tt m ρ S = thenM e (loopM tt m) ρ S := id rfl
@[simp] theorem loopM_nil {tt : TgM} : loopM tt m [] ρ S = some (.nx, ρ, S) := rfl
theorem loopM_cons {tt : TgM} {ds : List D} : loopM tt m (x :: ds) ρ S = match tt x ρ with
    | none => none
    | some ρ1 => match m ρ1 S with
      | some (.nx, ρ2, S2) => loopM tt m ds ρ2 S2
      | some (.ct, ρ2, S2) => loopM tt m ds ρ2 S2
      | some (.bk, ρ2, S2) => some (.nx, ρ2, S2)
      | some (.rt r, ρ2, S2) => some (.rt r, ρ2, S2)
      | some (.ex c fs, ρ2, S2) => some (.ex c fs, ρ2, S2)
      | none => none := rfl
@[simp] theorem lcM_ap {e : NM} {vs : List Nat} {tt : TgM} : lcM e vs tt t me ρ S = bindM e (fun ds => lcL vs tt t me ds []) ρ S := rfl
@[simp] theorem lcL_nil {vs : List Nat} {tt : TgM} {acc : List D} : lcL vs tt t me [] acc ρ S = some (.ok acc, S) := rfl
theorem lcL_cons {vs : List Nat} {tt : TgM} {acc ds : List D} : lcL vs tt t me (x :: ds) acc ρ S = match tt x (wipeF ρ vs) with
    | none => none
    | some ρ1 => match t ρ1 S with
      | some (.ok false, S1) => lcL vs tt t me ds acc ρ S1
      | some (.ok true, S1) => match me ρ1 S1 with
        | some (.ok (.d x), S2) => if acc.length < sizeLine then lcL vs tt t me ds (acc ++ [x]) ρ S2 else none
        | _ => none
      | _ => none := rfl
@[simp] theorem wipeF_nil : wipeF ρ [] = ρ := rfl
@[simp] theorem wipeF_cons {vs : List Nat} : wipeF ρ (i :: vs) = (wipeF ρ vs).set i none := rfl
@[simp] theorem yesT_ap : yesT ρ S = some (.ok true, S) := rfl
@[simp] theorem callN_ap {k : Nat} {f : FM} : callN k f ms ρ S = bindM ms (fun as => fun ρ S => if as.length = k then appF f as ρ S else none) ρ S := id rfl
@[simp] theorem appF_ap {f : FM} {rs : List R} : appF f rs ρ S = if closedRs rs = true then f rs S else none := id rfl
@[simp] theorem call0_ap {f : FM} : call0 f ρ S = match f [] S with
  | some (.ok r, S') => some (.ok r, S')
  | _ => none := rfl
@[simp] theorem frzM_ap : frzM me ρ S = bindM me frzR ρ S := rfl
@[simp] theorem frzR_d : frzR (.d x) ρ S = some (.ok (.d x), S) := rfl
@[simp] theorem frzR_loc : frzR (.loc i) ρ S = match S[i]? with
    | some (.frz x) => some (.ok (.d x), S)
    | some (.ins C fs) => match frzFs fs S with
      | some (gs, S') => some (.ok (.d (.obj C gs)), S'.set i (.frz (.obj C gs)))
      | none => none
    | some c => match frzCell c with
      | some d => some (.ok (.d d), S.set i (.frz d))
      | none => none
    | none => none := rfl
@[simp] theorem frzFs_nil : frzFs [] S = some ([], S) := rfl
@[simp] theorem frzFs_d {z : Str} {r : List (Str × R)} : frzFs ((z, .d x) :: r) S = (frzFs r S).map fun p => ((z, x) :: p.1, p.2) := rfl
@[simp] theorem frzCell_lst {ds : List D} : frzCell (.lst ds) = some (.lst ds) := rfl
@[simp] theorem frzS_ap : frzS i ρ S = match ρ[i]? with
  | some (some (.own c)) => match frzCell c with
    | some d => some (.nx, ρ.set i (some (.r (.d d))), S)
    | none => none
  | some (some (.r (.loc n))) => match frzR (.loc n) ρ S with
    | some (.ok y, S') => some (.nx, ρ.set i (some (.r y)), S')
    | _ => none
  | _ => none := rfl
@[simp] theorem thruM_ap : thruM m ρ S = match m ρ S with
  | some (.ex _ _, _, _) => none
  | r => r := rfl
@[simp] theorem isStrR_ap {r : R} : isStrR r ρ S = match r with
  | .d (.str x) => some (.ok (.d (.str x)), S)
  | _ => none := rfl
@[simp] theorem strR_ap : strR me ρ S = bindM me isStrR ρ S := rfl
@[simp] theorem fmtR_ap {r : R} : fmtR r ρ S = match r with
  | .d (.str y) => if y.length ≤ sizeLine then some (.ok (.d (.str y)), S) else none
  | .d (.int i) => if i.natAbs.log2 < 1920 then some (.ok (.d (.str (toString i))), S) else none
  | _ => none := rfl
@[simp] theorem fmtM_ap : fmtM me ρ S = bindM me fmtR ρ S := rfl
@[simp] theorem jsM_nil {acc : Str} : jsM [] acc ρ S = some (.ok (.d (.str acc)), S) := rfl
@[simp] theorem jsM_cons {ts : List EM} {acc : Str} : jsM (me :: ts) acc ρ S = match me ρ S with
  | none => none
  | some (.ex c fs, S') => some (.ex c fs, S')
  | some (.ok (.d (.str y)), S') => if (acc ++ y).length ≤ sizeLine then jsM ts (acc ++ y) ρ S' else none
  | some (.ok _, _) => none := by
  show bindM me _ ρ S = _
  rw [bindM_ap]
  cases h : me ρ S with
  | none => rfl
  | some p =>
    obtain ⟨o, S'⟩ := p
    cases o with
    | ex c fs => rfl
    | ok a =>
      cases a with
      | d d => cases d <;> rfl
      | loc n => rfl
      | slot n => rfl
@[simp] theorem makeM_ap {C : Str} {k : Nat} {f : FM} : makeM C k f ms ρ S = bindM ms (fun as => fun _ S => if closedRs as = true ∧ as.length + 1 = k then
    match f (.loc S.length :: as) (S ++ [.ins C []]) with
    | some (.ok (.d .non), S') => some (.ok (.loc S.length), S')
    | some (.ex c fs, S') => some (.ex c fs, S')
    | _ => none
  else none) ρ S := rfl
@[simp] theorem getFld_obj {C f E : Str} {fs : List (Str × D)} : getFld C f (.d (.obj E fs)) S = if E = C then (fs.lookup f).map .d else none := rfl
@[simp] theorem getFld_loc {C f : Str} : getFld C f (.loc i) S = match S[i]? with
    | some (.ins D fs) => if D = C then fs.lookup f else none
    | some (.frz (.obj D fs)) => if D = C then (fs.lookup f).map .d else none
    | _ => none := rfl
@[simp] theorem fldR_ap {C f : Str} {r : R} : fldR C f r ρ S = match getFld C f r S with
  | some x => if closedR x = true then some (.ok x, S) else none
  | none => none := rfl
@[simp] theorem fldM_ap {C f : Str} : fldM C f me ρ S = bindM me (fldR C f) ρ S := rfl
@[simp] theorem putFM_loc {C f : Str} {a : R} : putFM C f a (.loc i) ρ S = match S[i]? with
    | some (.ins D fs) => if D = C ∧ fs.length < 1000 ∧ closedR a = true then some (.nx, ρ, S.set i (.ins D (putR f a fs))) else none
    | _ => none := rfl
@[simp] theorem sfldM_ap {C f : Str} : sfldM C f me mf ρ S = thenM me (fun a => thenM mf fun o => putFM C f a o) ρ S := rfl
@[simp] theorem raiseM_ap {C : Str} : raiseM C ρ S = some (.ex C [], ρ, S) := rfl
@[simp] theorem finM_t {k : Nat} {r : R} : finM true k r S = if closedR r = true then some (.ok r, S) else none := rfl
@[simp] theorem finM_f {k : Nat} : finM false k (.d x) S = if ((S.take k).all (cellLoc k)) = true then some (.ok (.d x), S.take k) else none := rfl
@[simp] theorem raise1R_ap {c f : Str} {r : R} : raise1R c f r ρ S = match r with
  | .d x => some (.ex c [(f, x)], ρ, S)
  | _ => none := rfl
@[simp] theorem raise1M_ap {c f : Str} : raise1M c f me ρ S = thenM me (raise1R c f) ρ S := rfl
@[simp] theorem finX_t {k : Nat} {c : Str} {fs : List (Str × D)} : finX true k c fs S = some (.ex c fs, S) := rfl
@[simp] theorem forX_ap {tt : TgM} : forX ms tt m ρ S = thenM ms (enumX tt m) ρ S := rfl
@[simp] theorem enumX_tup {tt : TgM} {ds : List D} : enumX tt m [.d (.tup ds)] ρ S = loopM tt m (enumL ds) ρ S := rfl
theorem loopK_none {tt : TgM} {ds0 : List D} : ∀ (ds : List D) (ρ : Fr) (S : Sto), loopK none ds0 tt m ds ρ S = loopM tt m ds ρ S
  | [], _, _ => rfl
  | d :: ds, ρ, S => by
    have ih : ∀ ρ S, loopK none ds0 tt m ds ρ S = loopM tt m ds ρ S := fun ρ S => loopK_none ds ρ S
    unfold loopK
    rw [loopM_cons]
    cases h : tt d ρ with
    | none => rfl
    | some ρ1 =>
      cases h2 : m ρ1 S with
      | none => simp only [h2]
      | some r =>
        obtain ⟨fl, ρ2, S2⟩ := r
        have lt : liveAt S2 none ds0 := trivial
        cases fl <;> simp only [h2, lt, if_true, ih]
@[simp] theorem enumX_lst {tt : TgM} {ds : List D} : enumX tt m [.d (.lst ds)] ρ S = loopM tt m (enumL ds) ρ S := loopK_none _ _ _
@[simp] theorem popAtM_ap : popAtM me mf ρ S = thenM (lstR me) (fun o => thenM mf fun i => mutL o fun ds => (popAtD i ds).map (·.2)) ρ S := rfl
@[simp] theorem popC_loc {r : R} : popC (.loc i) r ρ S = match S[i]? with
    | some (.lst ds) => match popAtD r ds with
      | some (x, es) => some (.ok (.d x), S.set i (.lst es))
      | none => none
    | _ => none := rfl
@[simp] theorem popE_ap : popE me mf ρ S = bindM (lstR me) (fun o => bindM mf fun i => popC o i) ρ S := rfl
theorem funM_ap {keep : Bool} {np nl : Nat} {rs : List R} : funM keep np nl m rs S = if rs.length = np ∧ closedRs rs = true then match m (frame0 rs nl) S with
  | some (.nx, _, S') => finM keep S.length (.d .non) S'
  | some (.rt r, _, S') => finM keep S.length r S'
  | some (.ex c fs, _, S') => finX keep S.length c fs S'
  | _ => none
  else none := rfl
theorem methO_ap {C z : Str} {k : Nat} {f : FM} : methO C z k f me ms ρ S = bindM (bindM me (isIns C z)) (fun o => bindM ms fun as => fun ρ S => if as.length + 1 = k then appF f (o :: as) ρ S else none) ρ S := rfl
end
@[simp] theorem addD_int {i j : Int} : addD (.int i) (.int j) = some (.int (i + j)) := rfl
@[simp] theorem addD_lst {a b : List D} : addD (.lst a) (.lst b) = if a.length + b.length ≤ sizeLine then some (.lst (a ++ b)) else none := rfl
@[simp] theorem addD_tup {a b : List D} : addD (.tup a) (.tup b) = if a.length + b.length ≤ sizeLine then some (.tup (a ++ b)) else none := rfl
@[simp] theorem addD_str {a b : Str} : addD (.str a) (.str b) = if a.length + b.length ≤ sizeLine then some (.str (a ++ b)) else none := rfl
@[simp] theorem subD_int {i j : Int} : subD (.int i) (.int j) = some (.int (i - j)) := rfl
@[simp] theorem mulD_int {i j : Int} : mulD (.int i) (.int j) = if CMul i j then some (.int (i * j)) else none := rfl
@[simp] theorem divD_int {i j : Int} : divD (.int i) (.int j) = if CDiv i j then some (.int (i / j)) else none := rfl
@[simp] theorem modD_int {i j : Int} : modD (.int i) (.int j) = if 0 < j then some (.int (i % j)) else none := rfl
@[simp] theorem powD_int {i j : Int} : powD (.int i) (.int j) = if CPow i j then some (.int (i ^ j.toNat)) else none := rfl
@[simp] theorem ltD_int {i j : Int} : ltD (.int i) (.int j) = some (.bl (decide (i < j))) := rfl
@[simp] theorem leD_int {i j : Int} : leD (.int i) (.int j) = some (.bl (decide (i ≤ j))) := rfl
@[simp] theorem gtD_int {i j : Int} : gtD (.int i) (.int j) = some (.bl (decide (j < i))) := rfl
@[simp] theorem geD_int {i j : Int} : geD (.int i) (.int j) = some (.bl (decide (j ≤ i))) := rfl
@[simp] theorem eqB_int {i j : Int} : eqB (.int i) (.int j) = some (decide (i = j)) := by
  have h1 : ∀ k : Int, SeqAt.shaped (.int k) = true := fun _ => rfl
  unfold eqB toPy
  simp only [h1, and_self, if_true]
  show some (i == j) = _
  by_cases h : i = j <;> simp [h]
@[simp] theorem eqD_eq {x y : D} : eqD x y = (eqB x y).map .bl := rfl
@[simp] theorem neD_eq {x y : D} : neD x y = (eqB x y).map fun b => .bl (!b) := rfl
@[simp] theorem inD_eq {x y : D} : inD x y = (inB x y).map .bl := rfl
@[simp] theorem ninD_eq {x y : D} : ninD x y = (inB x y).map fun b => .bl (!b) := rfl
@[simp] theorem isD_non {x : D} : isD x .non = some (.bl (isN x)) := rfl
@[simp] theorem isnD_non {x : D} : isnD x .non = some (.bl (!isN x)) := rfl
@[simp] theorem ixD_lst {ds : List D} {i : Int} : ixD (.lst ds) (.int i) = atI ds i := rfl
@[simp] theorem ixD_tup {ds : List D} {i : Int} : ixD (.tup ds) (.int i) = atI ds i := rfl
@[simp] theorem lenF_lst {ds : List D} : lenF [.lst ds] = some (.int ds.length) := rfl
@[simp] theorem lenF_tup {ds : List D} : lenF [.tup ds] = some (.int ds.length) := rfl
@[simp] theorem lenF_scr {ds : List Int} : lenF [.scr ds] = some (.int ds.length) := rfl
@[simp] theorem intF_int {i : Int} : intF [.int i] = some (.int i) := rfl
@[simp] theorem intF_bl {b : Bool} : intF [.bl b] = some (.int (if b then 1 else 0)) := rfl
@[simp] theorem listF_scr {ds : List Int} : listF [.scr ds] = some (.lst (ds.map .int)) := rfl
@[simp] theorem listF_lst {ds : List D} : listF [.lst ds] = some (.lst ds) := rfl
@[simp] theorem listF_tup {ds : List D} : listF [.tup ds] = some (.lst ds) := rfl
@[simp] theorem tupleF_lst {ds : List D} : tupleF [.lst ds] = some (.tup ds) := rfl
@[simp] theorem tupleF_tup {ds : List D} : tupleF [.tup ds] = some (.tup ds) := rfl
@[simp] theorem setD_int {k : Int} {x : D} {ds : List D} : setD (.d (.int k)) (.d x) ds = (ixN ds.length k).map fun j => ds.set j x := rfl
@[simp] theorem appD_d {x : D} {ds : List D} : appD (.d x) ds = if ds.length < sizeLine then some (ds ++ [x]) else none := rfl
@[simp] theorem truB_bl {b : Bool} : truB (.bl b) = some b := rfl
@[simp] theorem truB_int {i : Int} : truB (.int i) = some (i != 0) := rfl
@[simp] theorem truB_non : truB .non = some false := rfl
@[simp] theorem truB_lst {ds : List D} : truB (.lst ds) = some (!ds.isEmpty) := rfl
@[simp] theorem truB_tup {ds : List D} : truB (.tup ds) = some (!ds.isEmpty) := rfl
@[simp] theorem isN_non : isN .non = true := rfl
@[simp] theorem isN_int {i : Int} : isN (.int i) = false := rfl
@[simp] theorem isN_tup {i : List D} : isN (.tup i) = false := rfl
@[simp] theorem isN_obj {C : Str} {fs : List (Str × D)} : isN (.obj C fs) = false := rfl
@[simp] theorem isCF_obj {C E G : Str} {fs : List (Str × D)} : isCF C [.obj E fs, .gl G] = if E = C ∧ G = C then some (.bl true) else none := rfl
end MM
namespace MM
open PySem PySem.Spec PyProof.Rows L2

/-! ### equality of data -/
mutual
def okD : D → Bool
  | .non => true
  | .bl _ => true
  | .int _ => true
  | .str x => PyData.strOk x
  | .tup ds => okDs ds
  | .lst ds => okDs ds
  | _ => false
def okDs : List D → Bool
  | [] => true
  | d :: ds => okD d && okDs ds
end
mutual
def dpD : D → Nat
  | .tup ds => dpDs ds + 1
  | .lst ds => dpDs ds + 1
  | _ => 0
def dpDs : List D → Nat
  | [] => 0
  | d :: ds => max (dpD d) (dpDs ds)
end
mutual
def pyD : D → PyData
  | .bl b => .bool b
  | .int i => .int i
  | .str x => .str x
  | .tup ds => .tuple (pyDs ds)
  | .lst ds => .list (pyDs ds)
  | _ => .none
def pyDs : List D → List PyData
  | [] => []
  | d :: ds => pyD d :: pyDs ds
end
mutual
theorem toPy_ok : ∀ {d : D}, okD d = true → toPy d = some (pyD d) ∧ (pyD d).canLay0 = true ∧ (pyD d).depth = dpD d
  | .non, _ => ⟨rfl, rfl, rfl⟩
  | .bl _, _ => ⟨rfl, rfl, rfl⟩
  | .int _, _ => ⟨rfl, rfl, rfl⟩
  | .str _, h => ⟨rfl, h, rfl⟩
  | .tup ds, h => by
    obtain ⟨h1, h2, h3⟩ := toPys_ok (ds := ds) h
    refine ⟨?_, h2, ?_⟩
    · unfold toPy; rw [h1]; rfl
    · show PyData.depthAll (pyDs ds) + 1 = _; rw [h3]; rfl
  | .lst ds, h => by
    obtain ⟨h1, h2, h3⟩ := toPys_ok (ds := ds) h
    refine ⟨?_, h2, ?_⟩
    · unfold toPy; rw [h1]; rfl
    · show PyData.depthAll (pyDs ds) + 1 = _; rw [h3]; rfl
  | .dic _, h => by cases h
  | .dit _, h => by cases h
  | .obj _ _, h => by cases h
  | .gl _, h => by cases h
  | .scr _, h => by cases h
  | .ty _, h => by cases h
theorem toPys_ok : ∀ {ds : List D}, okDs ds = true → toPys ds = some (pyDs ds) ∧ PyData.canLayAll0 (pyDs ds) = true ∧ PyData.depthAll (pyDs ds) = dpDs ds
  | [], _ => ⟨rfl, rfl, rfl⟩
  | d :: ds, h => by
    have h' : (okD d && okDs ds) = true := h
    rw [Bool.and_eq_true] at h'
    obtain ⟨a1, a2, a3⟩ := toPy_ok h'.1
    obtain ⟨b1, b2, b3⟩ := toPys_ok h'.2
    refine ⟨?_, ?_, ?_⟩
    · unfold toPys; rw [a1, b1]; rfl
    · show (PyData.canLay0 (pyD d) && PyData.canLayAll0 (pyDs ds)) = true; rw [a2, b2]; rfl
    · show max (PyData.depth (pyD d)) (PyData.depthAll (pyDs ds)) = _; rw [a3, b3]; rfl
end
def eqvD (x y : D) : Bool := PyData.eqv (pyD x) (pyD y)
def eqvDs (x y : List D) : Bool := PyData.eqvAll (pyDs x) (pyDs y)
theorem shaped_ok {d : D} (h : okD d = true) (k : dpD d ≤ 64) : SeqAt.shaped (pyD d) = true := by
  obtain ⟨_, h2, h3⟩ := toPy_ok h
  show (PyData.canLay0 (pyD d) && decide (PyData.depth (pyD d) ≤ 64)) = true
  rw [h2, h3]
  exact decide_eq_true k
theorem eqB_ok {x y : D} (h1 : okD x = true) (h2 : okD y = true) (k1 : dpD x ≤ 64) (k2 : dpD y ≤ 64) : eqB x y = some (eqvD x y) := by
  unfold eqB
  rw [(toPy_ok h1).1, (toPy_ok h2).1]
  simp only [shaped_ok h1 k1, shaped_ok h2 k2, and_self, if_true]
  rfl
mutual
theorem eqv_refl : ∀ p : PyData, p.canLay0 = true → PyData.eqv p p = true
  | .none, _ => rfl
  | .bool b, _ => by simp [PyData.eqv]
  | .int i, _ => by simp [PyData.eqv]
  | .str x, _ => by simp [PyData.eqv]
  | .list xs, h => eqvAll_refl xs h
  | .tuple xs, h => eqvAll_refl xs h
  | .dict _, h => by cases h
theorem eqvAll_refl : ∀ ps : List PyData, PyData.canLayAll0 ps = true → PyData.eqvAll ps ps = true
  | [], _ => rfl
  | p :: ps, h => by
    have h' : (PyData.canLay0 p && PyData.canLayAll0 ps) = true := h
    rw [Bool.and_eq_true] at h'
    show (PyData.eqv p p && PyData.eqvAll ps ps) = true
    rw [eqv_refl p h'.1, eqvAll_refl ps h'.2]; rfl
end
theorem eqvD_refl {x : D} (h : okD x = true) : eqvD x x = true := eqv_refl _ (toPy_ok h).2.1
theorem eqB_self {x : D} (h : okD x = true) (k : dpD x ≤ 64) : eqB x x = some true := by rw [eqB_ok h h k k, eqvD_refl h]
@[simp] theorem eqvD_str {a b : Str} : eqvD (.str a) (.str b) = (a == b) := rfl
@[simp] theorem eqvD_int {a b : Int} : eqvD (.int a) (.int b) = (a == b) := rfl
@[simp] theorem eqvD_bl {a b : Bool} : eqvD (.bl a) (.bl b) = (a == b) := rfl
@[simp] theorem eqvD_non : eqvD .non .non = true := rfl
@[simp] theorem eqvD_tup {a b : List D} : eqvD (.tup a) (.tup b) = eqvDs a b := rfl
@[simp] theorem eqvD_lst {a b : List D} : eqvD (.lst a) (.lst b) = eqvDs a b := rfl
@[simp] theorem eqvDs_nil : eqvDs [] [] = true := rfl
@[simp] theorem eqvDs_cons {x y : D} {a b : List D} : eqvDs (x :: a) (y :: b) = (eqvD x y && eqvDs a b) := rfl
theorem okDs_all {ds : List D} : okDs ds = true ↔ ∀ d ∈ ds, okD d = true := by
  induction ds with
  | nil => exact ⟨fun _ d h => by simp at h, fun _ => rfl⟩
  | cons d ds ih =>
    show (okD d && okDs ds) = true ↔ _
    rw [Bool.and_eq_true, ih]
    simp
theorem dpDs_le {ds : List D} {n : Nat} : dpDs ds ≤ n ↔ ∀ d ∈ ds, dpD d ≤ n := by
  induction ds with
  | nil => exact ⟨fun _ d h => by simp at h, fun _ => Nat.zero_le _⟩
  | cons d ds ih =>
    show max (dpD d) (dpDs ds) ≤ n ↔ _
    rw [Nat.max_le, ih]
    simp
theorem inB_lst {d : D} {ds : List D} (h1 : okD d = true) (h2 : okDs ds = true) (k1 : dpD d ≤ 64) (k2 : dpDs ds ≤ 63) : inB d (.lst ds) = some (ds.any fun z => eqvD z d) := by
  have h3 : okD (.lst ds) = true := h2
  have e : pyD (.lst ds) = .list (pyDs ds) := rfl
  have s := shaped_ok h3 (by show dpDs ds + 1 ≤ 64; omega)
  rw [e] at s
  unfold inB
  simp only [(toPy_ok h1).1, (toPys_ok h2).1, shaped_ok h1 k1, s, and_self, if_true]
  congr 1
  clear h2 k2 h3 e s
  induction ds with
  | nil => rfl
  | cons x xs ih =>
    show (PyData.eqv (pyD x) (pyD d) || (pyDs xs).any fun z => PyData.eqv z (pyD d)) = _
    rw [List.any_cons]
    unfold eqvD at ih ⊢
    rw [ih]

/-! ### loops -/
/-- a comprehension without a test, by an invariant of what is gathered and the store -/
theorem lc_inv {ρ : Fr} {vs : List Nat} {t : TgM} {te : EM} (I : List D → Sto → Prop) : ∀ (ds acc : List D) (S : Sto), I acc S → acc.length + ds.length ≤ sizeLine →
    (∀ d ∈ ds, ∀ acc S, I acc S → ∃ ρ1 x S2, t d (wipeF ρ vs) = some ρ1 ∧ te ρ1 S = some (.ok (.d x), S2) ∧ I (acc ++ [x]) S2) →
    ∃ res S', lcL vs t yesT te ds acc ρ S = some (.ok res, S') ∧ I res S' ∧ res.length = acc.length + ds.length
  | [], acc, S, h, _, _ => ⟨acc, S, rfl, h, rfl⟩
  | d :: ds, acc, S, h, hl, st => by
    obtain ⟨ρ1, x, S2, h1, h2, h3⟩ := st d List.mem_cons_self acc S h
    have hl' : acc.length + (ds.length + 1) ≤ sizeLine := hl
    obtain ⟨res, S', k1, k2, k3⟩ := lc_inv I ds (acc ++ [x]) S2 h3 (by simp; omega) (fun d hd => st d (List.mem_cons_of_mem _ hd))
    refine ⟨res, S', ?_, k2, by rw [k3]; simp; omega⟩
    rw [lcL_cons, h1]
    simp only [yesT_ap, h2]
    rw [if_pos (by omega), k1]
/-- .. whose parts leave the store alone -/
theorem lc_map {ρ : Fr} {vs : List Nat} {t : TgM} {te : EM} {S : Sto} (g : D → D) : ∀ (ds acc : List D), acc.length + ds.length ≤ sizeLine →
    (∀ d ∈ ds, ∃ ρ1, t d (wipeF ρ vs) = some ρ1 ∧ te ρ1 S = some (.ok (.d (g d)), S)) → lcL vs t yesT te ds acc ρ S = some (.ok (acc ++ ds.map g), S)
  | [], acc, _, _ => by simp
  | d :: ds, acc, hl, st => by
    obtain ⟨ρ1, h1, h2⟩ := st d List.mem_cons_self
    have hl' : acc.length + (ds.length + 1) ≤ sizeLine := hl
    rw [lcL_cons, h1]
    simp only [yesT_ap, h2]
    rw [if_pos (by omega), lc_map g ds (acc ++ [g d]) (by simp; omega) (fun d hd => st d (List.mem_cons_of_mem _ hd))]
    simp
theorem lc_pairs {ρ : Fr} {vs : List Nat} {t : TgM} {te : EM} {S : Sto} : ∀ (ps : List (D × D)) (acc : List D), acc.length + ps.length ≤ sizeLine →
    (∀ p ∈ ps, ∃ ρ1, t p.1 (wipeF ρ vs) = some ρ1 ∧ te ρ1 S = some (.ok (.d p.2), S)) → lcL vs t yesT te (ps.map (·.1)) acc ρ S = some (.ok (acc ++ ps.map (·.2)), S)
  | [], acc, _, _ => by simp
  | d :: ds, acc, hl, st => by
    obtain ⟨ρ1, h1, h2⟩ := st d List.mem_cons_self
    have hl' : acc.length + (ds.length + 1) ≤ sizeLine := hl
    rw [List.map_cons, lcL_cons, h1]
    simp only [yesT_ap, h2]
    rw [if_pos (by omega), lc_pairs ds (acc ++ [d.2]) (by simp; omega) (fun d hd => st d (List.mem_cons_of_mem _ hd))]
    simp
/-- a for loop by an invariant -/
theorem loop_inv {t : TgM} {body : SM} (I : Nat → Fr → Sto → Prop) (ds : List D) (st : ∀ (i : Nat) (d : D) (ρ : Fr) (S : Sto), ds[i]? = some d → I i ρ S → ∃ ρ1, t d ρ = some ρ1 ∧ ∃ ρ2 S2, (body ρ1 S = some (.nx, ρ2, S2) ∨ body ρ1 S = some (.ct, ρ2, S2)) ∧ I (i + 1) ρ2 S2) :
    ∀ (k i : Nat), i + k = ds.length → ∀ (ρ : Fr) (S : Sto), I i ρ S → ∃ ρ' S', loopM t body (ds.drop i) ρ S = some (.nx, ρ', S') ∧ I ds.length ρ' S'
  | 0, i, hk, ρ, S, h => by
    have e : i = ds.length := by omega
    subst e
    rw [List.drop_length]
    exact ⟨ρ, S, rfl, h⟩
  | k + 1, i, hk, ρ, S, h => by
    have hi : i < ds.length := by omega
    rw [List.drop_eq_getElem_cons hi, loopM_cons]
    obtain ⟨ρ1, h1, ρ2, S2, h2, h3⟩ := st i ds[i] ρ S (List.getElem?_eq_getElem hi) h
    obtain ⟨ρ', S', k1, k2⟩ := loop_inv I ds st k (i + 1) (by omega) ρ2 S2 h3
    refine ⟨ρ', S', ?_, k2⟩
    rw [h1]
    rcases h2 with h2 | h2 <;> simp only [h2, k1]
theorem loop_inv0 {t : TgM} {body : SM} (I : Nat → Fr → Sto → Prop) (ds : List D) {ρ : Fr} {S : Sto} (h : I 0 ρ S) (st : ∀ (i : Nat) (d : D) (ρ : Fr) (S : Sto), ds[i]? = some d → I i ρ S → ∃ ρ1, t d ρ = some ρ1 ∧ ∃ ρ2 S2, (body ρ1 S = some (.nx, ρ2, S2) ∨ body ρ1 S = some (.ct, ρ2, S2)) ∧ I (i + 1) ρ2 S2) :
    ∃ ρ' S', loopM t body ds ρ S = some (.nx, ρ', S') ∧ I ds.length ρ' S' := by
  have := loop_inv I ds st ds.length 0 (by omega) ρ S h
  simpa using this

/-! ### the draws -/
/-- the law's draws: its numbers, the place, the great number, the small one -/
structure Drw where
  ns : List Int
  pos : Nat
  big : Int
  acc : Int
def Drw.cell (d : Drw) : Cell := .lst [.lst (d.ns.map .int), .int d.pos, .int d.big, .int d.acc]
def Drw.ok (d : Drw) : Prop := 0 ≤ d.big
/-- at the place n stand draws -/
def DrwAt (S : Sto) (n : Nat) : Prop := ∃ d : Drw, d.ok ∧ S[n]? = some d.cell
def drawB : SM := seqM (ifM (bT (op2M eqD (op2M ixD (varM 0) (litM (.int 2))) (litM (.int 0)))) (ifM (bT (op2M ltD (op2M ixD (varM 0) (litM (.int 1))) (callM lenF (consA (op2M ixD (varM 0) (litM (.int 0))) (nilA))))) (seqM (setM 2 (op2M ixD (op2M ixD (varM 0) (litM (.int 0))) (op2M ixD (varM 0) (litM (.int 1))))) (seqM (setIxM (op2M addD (op2M ixD (varM 0) (litM (.int 1))) (litM (.int 1))) (varM 0) (litM (.int 1))) (ifM (bT (op2M geD (varM 2) (op2M powD (litM (.int 10)) (litM (.int 18))))) (setIxM (varM 2) (varM 0) (litM (.int 2))) (setIxM (op2M modD (callM intF (consA (op2M addD (op2M addD (op2M mulD (op2M ixD (varM 0) (litM (.int 3))) (litM (.int 48271))) (op2M mulD (varM 2) (litM (.int 69621)))) (litM (.int 11))) (nilA))) (litM (.int 2147483647))) (varM 0) (litM (.int 3)))))) (setIxM (op2M modD (callM intF (consA (op2M addD (op2M mulD (op2M ixD (varM 0) (litM (.int 3))) (litM (.int 48271))) (litM (.int 7))) (nilA))) (litM (.int 2147483647))) (varM 0) (litM (.int 3)))) (nxM)) (seqM (ifM (bT (op2M gtD (op2M ixD (varM 0) (litM (.int 2))) (litM (.int 0)))) (seqM (setM 3 (op2M modD (callM intF (consA (op2M ixD (varM 0) (litM (.int 2))) (nilA))) (varM 1))) (seqM (setIxM (op2M divD (op2M ixD (varM 0) (litM (.int 2))) (varM 1)) (varM 0) (litM (.int 2))) (retM (varM 3)))) (nxM)) (retM (op2M modD (op2M modD (callM intF (consA (op2M mulD (op2M ixD (varM 0) (litM (.int 3))) (litM (.int 16807))) (nilA))) (litM (.int 2147483629))) (varM 1))))
def drawF : FM := funM true 2 2 drawB
@[simp] theorem atI_0 {α : Type} {a : α} {l : List α} : atI (a :: l) 0 = some a := by simp [atI, ixN]
@[simp] theorem atI_1 {α : Type} {a b : α} {l : List α} : atI (a :: b :: l) 1 = some b := by
  unfold atI ixN
  rw [if_pos (by decide), if_pos (by simp; omega)]; rfl
@[simp] theorem atI_2 {α : Type} {a b c : α} {l : List α} : atI (a :: b :: c :: l) 2 = some c := by
  unfold atI ixN
  rw [if_pos (by decide), if_pos (by simp; omega)]; rfl
@[simp] theorem atI_3 {α : Type} {a b c d : α} {l : List α} : atI (a :: b :: c :: d :: l) 3 = some d := by
  unfold atI ixN
  rw [if_pos (by decide), if_pos (by simp; omega)]; rfl
theorem atI_nat {α : Type} {l : List α} {i : Nat} (h : i < l.length) : atI l (i : Int) = l[i]? := by
  unfold atI ixN
  rw [if_pos (by omega), if_pos (by omega)]; rfl
/-- the first half of a draw -/
theorem draw_head {S : Sto} {n : Nat} {d : Drw} {ρ : Fr} {many : Int} (hok : d.ok) (hc : S[n]? = some d.cell) :
    ∃ d' : Drw, d'.ok ∧ ∃ y, (ifM (bT (op2M eqD (op2M ixD (varM 0) (litM (.int 2))) (litM (.int 0)))) (ifM (bT (op2M ltD (op2M ixD (varM 0) (litM (.int 1))) (callM lenF (consA (op2M ixD (varM 0) (litM (.int 0))) (nilA))))) (seqM (setM 2 (op2M ixD (op2M ixD (varM 0) (litM (.int 0))) (op2M ixD (varM 0) (litM (.int 1))))) (seqM (setIxM (op2M addD (op2M ixD (varM 0) (litM (.int 1))) (litM (.int 1))) (varM 0) (litM (.int 1))) (ifM (bT (op2M geD (varM 2) (op2M powD (litM (.int 10)) (litM (.int 18))))) (setIxM (varM 2) (varM 0) (litM (.int 2))) (setIxM (op2M modD (callM intF (consA (op2M addD (op2M addD (op2M mulD (op2M ixD (varM 0) (litM (.int 3))) (litM (.int 48271))) (op2M mulD (varM 2) (litM (.int 69621)))) (litM (.int 11))) (nilA))) (litM (.int 2147483647))) (varM 0) (litM (.int 3)))))) (setIxM (op2M modD (callM intF (consA (op2M addD (op2M mulD (op2M ixD (varM 0) (litM (.int 3))) (litM (.int 48271))) (litM (.int 7))) (nilA))) (litM (.int 2147483647))) (varM 0) (litM (.int 3)))) (nxM)) [some (.r (.loc n)), some (.r (.d (.int many))), none, none] S = some (.nx, [some (.r (.loc n)), some (.r (.d (.int many))), y, none], S.set n d'.cell) := by
  have hn : n < S.length := (List.getElem?_eq_some_iff.mp hc).1
  have hset : ∀ c : Cell, (S.set n c)[n]? = some c := fun c => List.getElem?_set_self hn
  have h48 : ∀ i : Int, CMul i 48271 := fun i => .inr (by decide)
  have h69 : ∀ i : Int, CMul i 69621 := fun i => .inr (by decide)
  have hp : CPow 10 18 := by decide
  by_cases hb : d.big = 0
  · by_cases hl : d.pos < d.ns.length
    · have hx : (d.ns.map D.int)[d.pos]? = some (.int d.ns[d.pos]) := by simp [hl]
      have hat : atI (d.ns.map D.int) (d.pos : Int) = some (.int d.ns[d.pos]) := by rw [atI_nat (by simpa using hl), hx]
      by_cases hg : (1000000000000000000 : Int) ≤ d.ns[d.pos]
      · refine ⟨⟨d.ns, d.pos + 1, d.ns[d.pos], d.acc⟩, by unfold Drw.ok; simp; omega, some (.r (.d (.int d.ns[d.pos]))), ?_⟩
        simp [hc, Drw.cell, hb, hl, hat, hset, hp, hg, ixN]
      · refine ⟨⟨d.ns, d.pos + 1, 0, (d.acc * 48271 + d.ns[d.pos] * 69621 + 11) % 2147483647⟩, by unfold Drw.ok; simp, some (.r (.d (.int d.ns[d.pos]))), ?_⟩
        simp [hc, Drw.cell, hb, hl, hat, hset, hp, hg, ixN, h48, h69]
    · refine ⟨⟨d.ns, d.pos, 0, (d.acc * 48271 + 7) % 2147483647⟩, by unfold Drw.ok; simp, none, ?_⟩
      simp [hc, Drw.cell, hb, hl, hset, ixN, h48]
  · refine ⟨d, hok, none, ?_⟩
    have : S.set n d.cell = S := by
      apply List.ext_getElem?
      intro j
      by_cases hj : n = j
      · subst hj; rw [hset, hc]
      · rw [List.getElem?_set_ne hj]
    rw [this]
    simp [hc, Drw.cell, hb]

theorem draw_ok {S : Sto} {n : Nat} {many : Int} (h : DrwAt S n) (h0 : 0 < many) (h1 : many < 1073741824) : ∃ (v : Int) (c : Cell), drawF [.loc n, .d (.int many)] S = some (.ok (.d (.int v)), S.set n c) ∧ 0 ≤ v ∧ v < many ∧ DrwAt (S.set n c) n := by
  obtain ⟨d, hok, hc⟩ := h
  have hn : n < S.length := (List.getElem?_eq_some_iff.mp hc).1
  obtain ⟨d', hok', y, e⟩ := draw_head (ρ := []) (many := many) hok hc
  have hset : ∀ c : Cell, (S.set n c)[n]? = some c := fun c => List.getElem?_set_self hn
  have h16 : ∀ i : Int, CMul i 16807 := fun i => .inr (by decide)
  have hd : CDiv d'.big many := ⟨h0, h1⟩
  by_cases hb : d'.big > 0
  · refine ⟨d'.big % many, (Drw.mk d'.ns d'.pos (d'.big / many) d'.acc).cell, ?_, Int.emod_nonneg _ (by omega), Int.emod_lt_of_pos _ h0, ⟨_, ?_, hset _⟩⟩
    · unfold drawF
      rw [funM_ap, if_pos (by simp)]
      unfold drawB
      rw [seqM_ap]
      show (match (match (ifM _ _ _ [some (.r (.loc n)), some (.r (.d (.int many))), none, none] S) with | some (.nx, ρ', S') => _ | r => r) with | some (.nx, _, S') => _ | some (.rt r, _, S') => _ | some (.ex c fs, _, S') => _ | _ => none) = _
      rw [e]
      simp [Drw.cell, hset, hb, h0, ixN, hd]
    · exact Int.ediv_nonneg hok' (by omega)
  · refine ⟨(d'.acc * 16807) % 2147483629 % many, d'.cell, ?_, Int.emod_nonneg _ (by omega), Int.emod_lt_of_pos _ h0, ⟨d', hok', hset _⟩⟩
    unfold drawF
    rw [funM_ap, if_pos (by simp)]
    unfold drawB
    rw [seqM_ap]
    show (match (match (ifM _ _ _ [some (.r (.loc n)), some (.r (.d (.int many))), none, none] S) with | some (.nx, ρ', S') => _ | r => r) with | some (.nx, _, S') => _ | some (.rt r, _, S') => _ | some (.ex c fs, _, S') => _ | _ => none) = _
    rw [e]
    simp [Drw.cell, hset, hb, h0, ixN, h16]
end MM
namespace MM
open PySem PySem.Spec PyProof.Rows L2
theorem cx_none {P : Program} {w : World} (H : Hp) (s : Shared) (e : Value) (s' : Shared) (h : L2.CX P w [] H s (fun _ _ _ => False) e s') : False := by
  obtain ⟨_, _, _, _, _, _, _, _, _, _, _, _, z⟩ := h
  exact z
end MM
namespace MM
open PySem PySem.Spec PyProof.Rows L2
/-! ### dicts whose keys are tuples of any depth -/
section
variable {X : Cx} {pins : List (Addr × Obj)} {σ : L2.St} {H F : Hp} {s : Shared}
mutual
theorem key_nest (I : Inv X pins σ H s) (le : Same F H) : ∀ {d : D} {k : NestedKey} {v : V} {u : Value}, toKey d = some k → Rep X.K X.w F d v → RelV v u → NestedIs s.heap k u
  | .non, k, _, u, e, .non, r => by cases e; obtain rfl : u = Value.none := r; exact .none
  | .bl b, k, _, u, e, .bl _, r => by cases e; obtain rfl : u = Value.bool b := r; exact .bool rfl
  | .int i, k, _, u, e, .int _, r => by cases e; obtain ⟨t, rfl⟩ := (show ∃ t, u = Value.int i t from r); exact .int _ _
  | .str x, k, _, u, e, .str _, r => by cases e; obtain ⟨t, rfl⟩ := (show ∃ t, u = Value.str x t from r); exact .text _ _
  | .tup ds, k, _, u, e, .tup (a := a) (xs := xs) h ra, r => by
    obtain ⟨ks, hk, rfl⟩ := Option.map_eq_some_iff.mp (show (toKeys ds).map NestedKey.tup = some k from e)
    obtain rfl : u = Value.ref a := r
    obtain ⟨its, rv, ⟨o, ho, hc, n, hd⟩, _⟩ := I.tuple (Same.seqT le h)
    exact .tup ho hc hd (by simpa using keys_nest I le hk ra rv)
theorem keys_nest (I : Inv X pins σ H s) (le : Same F H) : ∀ {ds : List D} {ks : List NestedKey} {vs : List V} {us : List Value}, toKeys ds = some ks → RepAll X.K X.w F ds vs → Vals vs us → NestedAll s.heap ks us
  | [], ks, _, us, e, .nil, rr => by cases e; cases rr; exact .nil
  | d :: ds, ks, _, us, e, .cons h ra, rr => by
    cases rr with
    | cons r rs =>
      unfold toKeys at e
      cases q1 : toKey d with
      | none => simp [q1] at e
      | some k =>
        cases q2 : toKeys ds with
        | none => simp [q1, q2] at e
        | some ks' =>
          simp only [q1, q2, Option.some.injEq] at e
          subst e
          exact .cons (key_nest I le q1 h r) (keys_nest I le q2 ra rs)
end
theorem tupKey_is (I : Inv X pins σ H s) (le : Same F H) {d : D} {k : NestedKey} {b : Addr} (e : tupKey d = some k) (r : Rep X.K X.w F d (.ref b)) : (nestedKind X.prog X.w).is s.heap k b := by
  unfold tupKey at e
  split at e
  · rename_i ds
    obtain ⟨ks, hk, q⟩ := Option.bind_eq_some_iff.mp e
    by_cases c : (NestedKey.tup ks).depth ≤ 8
    · rw [if_pos c] at q
      cases q
      refine ⟨key_nest I le (show toKey (.tup ds) = some (.tup ks) from ?_) r rfl, c⟩
      show (toKeys ds).map NestedKey.tup = _
      rw [hk]; rfl
    · rw [if_neg c] at q; cases q
  · cases e
end
def lookT (kvs : List (D × D)) (k : NestedKey) : Option D := (kvs.find? fun p => decide (tupKey p.1 = some k)).map (·.2)
def replT (k : NestedKey) (dv : D) (p : D × D) : D × D := if tupKey p.1 = some k then (p.1, dv) else p
def putT (kvs : List (D × D)) (dk dv : D) (k : NestedKey) : List (D × D) := if (lookT kvs k).isSome = true then kvs.map (replT k dv) else kvs ++ [(dk, dv)]
/-- the pairs as data, as they are tracked, as they stand -/
inductive EnR (K : PySem.W.Frag) (w : World) (F : Hp) : List (D × D) → List (Int × Addr × V) → List (NestedKey × Addr × Value) → Prop
  | nil : EnR K w F [] [] []
  | cons {d e : D} {k : NestedKey} {b : Addr} {v : V} {u : Value} {ds : List (D × D)} {es : List (Int × Addr × V)} {xs : List (NestedKey × Addr × Value)} : tupKey d = some k → Rep K w F d (.ref b) → Rep K w F e v → RelV v u → EnR K w F ds es xs →
      EnR K w F ((d, e) :: ds) ((k.hash w, b, v) :: es) ((k, b, u) :: xs)
def mkE (p : (Int × Addr × V) × Value) : DictEntry := ⟨p.1.1, .ref p.1.2.1, p.2⟩
section
variable {K : PySem.W.Frag} {w : World} {F F' : Hp} {P : Program}
theorem EnR.of : ∀ {kvs : List (D × D)} {es : List (Int × Addr × V)} {us : List Value}, RepEs K w F kvs es → Vals (es.map (·.2.2)) us → ∃ xs, EnR K w F kvs es xs ∧ (es.zip us).map mkE = xs.map (entryOfKey (nestedKind P w))
  | [], _, us, .nil, r => by
    cases r
    exact ⟨[], .nil, rfl⟩
  | (d, e) :: kvs, _, us, .cons (k := k) (b := b) (v := v) (es := es) h1 h2 h3 hr, r => by
    rw [List.map_cons] at r
    cases r with
    | @cons _ u _ us' ru rs =>
      obtain ⟨xs, q1, q2⟩ := EnR.of hr rs
      refine ⟨(k, b, u) :: xs, .cons h1 h2 h3 ru q1, ?_⟩
      show mkE ((k.hash w, b, v), u) :: (es.zip us').map mkE = entryOfKey (nestedKind P w) (k, b, u) :: xs.map (entryOfKey (nestedKind P w))
      rw [q2]; rfl
theorem EnR.reps : ∀ {kvs : List (D × D)} {es : List (Int × Addr × V)} {xs : List (NestedKey × Addr × Value)}, EnR K w F kvs es xs → RepEs K w F kvs es
  | _, _, _, .nil => .nil
  | _, _, _, .cons h1 h2 h3 _ r => .cons h1 h2 h3 (EnR.reps r)
theorem EnR.back (P : Program) : ∀ {kvs : List (D × D)} {es : List (Int × Addr × V)} {xs : List (NestedKey × Addr × Value)}, EnR K w F kvs es xs → ∃ us, Vals (es.map (·.2.2)) us ∧ (es.zip us).map mkE = xs.map (entryOfKey (nestedKind P w))
  | _, _, _, .nil => ⟨[], Paired.nil, rfl⟩
  | _, _, _, .cons (d := d) (e := e) (k := k) (b := b) (v := v) (u := u) (es := es) (xs := xs) h1 h2 h3 h4 r => by
    obtain ⟨us, q1, q2⟩ := EnR.back P r
    refine ⟨u :: us, .cons h4 q1, ?_⟩
    show mkE ((k.hash w, b, v), u) :: (es.zip us).map mkE = entryOfKey (nestedKind P w) (k, b, u) :: xs.map (entryOfKey (nestedKind P w))
    rw [q2]; rfl
theorem EnR.keys : ∀ {kvs : List (D × D)} {es : List (Int × Addr × V)} {xs : List (NestedKey × Addr × Value)}, EnR K w F kvs es xs → kvs.map (fun p => tupKey p.1) = xs.map (fun x => some x.1)
  | _, _, _, .nil => rfl
  | _, _, _, .cons h1 h2 h3 h4 r => by rw [List.map_cons, List.map_cons, EnR.keys r]; simp only [h1]
theorem EnR.len {kvs : List (D × D)} {es : List (Int × Addr × V)} {xs : List (NestedKey × Addr × Value)} (r : EnR K w F kvs es xs) : es.length = kvs.length ∧ xs.length = kvs.length := by
  induction r with
  | nil => exact ⟨rfl, rfl⟩
  | cons _ _ _ _ _ ih => simp [ih.1, ih.2]
theorem EnR.mem {X : Cx} {pins : List (Addr × Obj)} {σ : L2.St} {H : Hp} {s : Shared} (I : Inv X pins σ H s) (le : Same F H) : ∀ {kvs : List (D × D)} {es : List (Int × Addr × V)} {xs : List (NestedKey × Addr × Value)}, EnR X.K X.w F kvs es xs → ∀ x ∈ xs, (nestedKind X.prog X.w).is s.heap x.1 x.2.1
  | _, _, _, .nil, x, h => nomatch h
  | _, _, _, .cons h1 h2 h3 h4 r, x, h => by
    rcases List.mem_cons.mp h with rfl | h
    · exact tupKey_is I le h1 h2
    · exact EnR.mem I le r x h
theorem EnR.look {k : NestedKey} {kvs : List (D × D)} {es : List (Int × Addr × V)} {xs : List (NestedKey × Addr × Value)} (r : EnR K w F kvs es xs) :
    (∀ e, lookT kvs k = some e → ∃ b u v, atKey xs k = some (b, u) ∧ RelV v u ∧ Rep K w F e v) ∧ (lookT kvs k = none → atKey xs k = none) := by
  induction r with
  | nil => exact ⟨fun e h => (nomatch h), fun _ => rfl⟩
  | @cons d e k' b v u ds es xs h1 h2 h3 h4 r ih =>
    unfold lookT atKey at ih ⊢
    by_cases c : k' = k
    · subst c
      have a1 : decide (tupKey (d, e).1 = some k') = true := decide_eq_true h1
      have a2 : decide ((k', b, u).1 = k') = true := decide_eq_true rfl
      rw [List.find?_cons_of_pos (p := fun p : D × D => decide (tupKey p.1 = some k')) a1, List.find?_cons_of_pos (p := fun x : NestedKey × Addr × Value => decide (x.1 = k')) a2]
      exact ⟨fun e' h => by cases h; exact ⟨b, u, v, rfl, h4, h3⟩, fun h => nomatch h⟩
    · have a1 : ¬ decide (tupKey (d, e).1 = some k) = true := by rw [decide_eq_true_iff]; exact fun z => c (by rw [show tupKey d = some k' from h1] at z; exact Option.some.inj z)
      have a2 : ¬ decide ((k', b, u).1 = k) = true := by rw [decide_eq_true_iff]; exact c
      rw [List.find?_cons_of_neg (p := fun p : D × D => decide (tupKey p.1 = some k)) a1, List.find?_cons_of_neg (p := fun x : NestedKey × Addr × Value => decide (x.1 = k)) a2]
      exact ih
theorem EnR.some_eq {k : NestedKey} {kvs : List (D × D)} {es : List (Int × Addr × V)} {xs : List (NestedKey × Addr × Value)} (r : EnR K w F kvs es xs) : (atKey xs k).isSome = (lookT kvs k).isSome := by
  obtain ⟨h1, h2⟩ := r.look (k := k)
  cases q : lookT kvs k with
  | none => rw [h2 q]; rfl
  | some e => obtain ⟨b, u, v, z, _⟩ := h1 e q; rw [z]; rfl
theorem EnR.repl {k : NestedKey} {dv : D} {v : V} {u : Value} (hv : Rep K w F dv v) (ru : RelV v u) {kvs : List (D × D)} {es : List (Int × Addr × V)} {xs : List (NestedKey × Addr × Value)} (r : EnR K w F kvs es xs) : ∃ es', EnR K w F (kvs.map (replT k dv)) es' (xs.map (putAt k u)) := by
  induction r with
  | nil => exact ⟨[], .nil⟩
  | @cons d e k' b v' u' ds es xs h1 h2 h3 h4 r ih =>
    obtain ⟨es', ih⟩ := ih
    rw [List.map_cons, List.map_cons]
    unfold replT putAt at ih ⊢
    by_cases c : k' = k
    · subst c
      rw [if_pos h1, if_pos rfl]
      exact ⟨_, .cons h1 h2 hv ru ih⟩
    · rw [if_neg (fun z => c (by rw [show tupKey d = some k' from h1] at z; exact Option.some.inj z)), if_neg c]
      exact ⟨_, .cons h1 h2 h3 h4 ih⟩
theorem EnR.snoc {dk dv : D} {k : NestedKey} {b : Addr} {v : V} {u : Value} (h1 : tupKey dk = some k) (h2 : Rep K w F dk (.ref b)) (hv : Rep K w F dv v) (ru : RelV v u) {kvs : List (D × D)} {es : List (Int × Addr × V)} {xs : List (NestedKey × Addr × Value)} (r : EnR K w F kvs es xs) :
    EnR K w F (kvs ++ [(dk, dv)]) (es ++ [(k.hash w, b, v)]) (xs ++ [(k, b, u)]) := by
  induction r with
  | nil => exact .cons h1 h2 hv ru .nil
  | cons g1 g2 g3 g4 r ih => exact .cons g1 g2 g3 g4 ih
theorem EnR.put {dk dv : D} {k : NestedKey} {b : Addr} {v : V} {u : Value} (h1 : tupKey dk = some k) (h2 : Rep K w F dk (.ref b)) (hv : Rep K w F dv v) (ru : RelV v u) {kvs : List (D × D)} {es : List (Int × Addr × V)} {xs : List (NestedKey × Addr × Value)} (r : EnR K w F kvs es xs) :
    ∃ es', EnR K w F (putT kvs dk dv k) es' (storedH xs k b u) := by
  unfold putT storedH
  rw [r.some_eq]
  by_cases c : (lookT kvs k).isSome = true
  · rw [if_pos c, if_pos c]; exact r.repl hv ru
  · rw [if_neg c, if_neg c]; exact ⟨_, r.snoc h1 h2 hv ru⟩
end
theorem replT_key (k : NestedKey) (dv : D) (p : D × D) : (replT k dv p).1 = p.1 := by
  unfold replT
  split <;> rfl
theorem lookT_none {kvs : List (D × D)} {k : NestedKey} (h : lookT kvs k = none) : ∀ p ∈ kvs, tupKey p.1 ≠ some k := fun p hp e => by
  have := List.find?_eq_none.mp (Option.map_eq_none_iff.mp h) p hp
  simp at this
  exact this e
theorem putT_nodup {kvs : List (D × D)} {dk dv : D} {k : NestedKey} (h1 : tupKey dk = some k) (h : (kvs.map fun p => tupKey p.1).Nodup) : ((putT kvs dk dv k).map fun p => tupKey p.1).Nodup := by
  unfold putT
  by_cases c : (lookT kvs k).isSome = true
  · rw [if_pos c, List.map_map]
    have : ((fun p : D × D => tupKey p.1) ∘ replT k dv) = fun p => tupKey p.1 := by
      funext p
      simp only [Function.comp_apply, replT_key]
    rw [this]; exact h
  · rw [if_neg c, List.map_append]
    have hn : lookT kvs k = none := by
      cases q : lookT kvs k with
      | none => rfl
      | some x => rw [q] at c; exact absurd rfl c
    refine List.nodup_append.mpr ⟨h, by simp, fun a ha b hb e => ?_⟩
    obtain ⟨p, hp, rfl⟩ := List.mem_map.mp ha
    have : b = tupKey dk := by simpa using hb
    rw [this, h1] at e
    exact lookT_none hn p hp e
theorem putT_len {kvs : List (D × D)} {dk dv : D} {k : NestedKey} : (putT kvs dk dv k).length ≤ kvs.length + 1 := by
  unfold putT
  split
  · rw [List.length_map]; omega
  · simp
section
variable {X : Cx} {pins : List (Addr × Obj)} {σ : L2.St} {H F : Hp} {s : Shared} {a : Addr} {o : Obj} {kvs : List (D × D)} {es : List (Int × Addr × V)}
/-- the dict as the library's rules know it -/
theorem dit_of (I : Inv X pins σ H s) (le : Same F H) (e : H a = some (dxt a o es)) (r : RepEs X.K X.w F kvs es) (nd : (kvs.map fun p => tupKey p.1).Nodup) : ∃ xs, EnR X.K X.w F kvs es xs ∧ s.heap.DictOfH (nestedKind X.prog X.w) a xs := by
  obtain ⟨⟨ens, ep, us, h1, h2, h3, h4, h5⟩, _, _⟩ := I.hok a _ e
  obtain ⟨xs, q1, q2⟩ := EnR.of (P := X.prog) r h4
  refine ⟨xs, q1, o, ens, ep, h1, h2, h3, ?_, EnR.mem I le q1, ?_⟩
  · rw [← q2]; exact h5
  · have := q1.keys
    rw [this] at nd
    have h : (xs.map (fun x => x.1)).map some = xs.map (fun x => some x.1) := by rw [List.map_map]; rfl
    rw [← h] at nd
    exact (List.pairwise_map.mp nd).imp fun z q => z (congrArg some q)
theorem dxt_ok {P : Program} {w : World} {h : Heap} {xs : List (NestedKey × Addr × Value)} {K : PySem.W.Frag} (r : EnR K w F kvs es xs) (m : h.DictOfH (nestedKind P w) a xs) : ∃ o', ∀ H', ObjOk P w H' h a (dxt a o' es) := by
  obtain ⟨o', ens, ep, h1, h2, h3, h4, _⟩ := m
  obtain ⟨us, q1, q2⟩ := r.back P
  refine ⟨o', fun H' => ⟨⟨ens, ep, us, h1, h2, h3, q1, ?_⟩, ⟨o', h1⟩, fun g1 g2 ⟨ens, ep, us, z1, z⟩ st => ⟨ens, ep, us, st _ z1, z⟩⟩⟩
  rw [h4, ← q2]; rfl
/-- what the dict at a holds at the key y -/
def DLook (K : PySem.W.Frag) (w : World) (H : Hp) (a : Addr) (y : V) (ov : Option (V → Prop)) : Prop :=
  (∃ r, DGet H a y r ∧ ov = r.map fun x v => v = x) ∨ ∃ (F : Hp) (o : Obj) (kvs : List (D × D)) (es : List (Int × Addr × V)) (dk : D) (k : NestedKey) (b : Addr),
    Same F H ∧ H a = some (dxt a o es) ∧ RepEs K w F kvs es ∧ (kvs.map fun p => tupKey p.1).Nodup ∧ a ≠ sysModules ∧ y = .ref b ∧ Rep K w F dk (.ref b) ∧ tupKey dk = some k ∧ ov = (lookT kvs k).map fun e v => Rep K w F e v
end
section
variable {X : Cx} {pins : List (Addr × Obj)} {σ : L2.St} {H F : Hp} {s : Shared} {a : Addr} {A : Around} {E : Value → Shared → Prop} {y v : V} {u r : Value} {ov : Option (V → Prop)} {Pv : V → Prop}
theorem nested_room (hu : A.units + 65 < cLine) : (nestedKind X.prog X.w).room A.in1 := by
  show A.in1.units + 8 < cLine
  rw [Around.in1_units]; omega
theorem sys_of (h : a ≠ sysModules) : (a == sysModules) = false := beq_eq_false_iff_ne.mpr h
theorem g_isSome {kvs : List (D × D)} {k : NestedKey} {f : D → V → Prop} : ((lookT kvs k).map f).isSome = (lookT kvs k).isSome := by cases lookT kvs k <;> rfl
theorem g_notIn {Q : Value → Shared → Prop} (hu : A.units + 65 < cLine) (I : Inv X pins σ H s) (g : DLook X.K X.w H a y ov) (ry : RelV y u) (h : ∀ s', Inv X pins σ H s' → Q (.bool (!ov.isSome)) s') : wpAny (model X.prog X.w) A (compareOp .NotIn u (.ref a)) Q E s := by
  rcases g with ⟨r, g, rfl⟩ | ⟨F, o, kvs, es, dk, k, b, le, ha, re, nd, ns, rfl, hk, ek, rfl⟩
  · refine d_notIn (by omega) I g ry fun s' I' => ?_
    have := h s' I'
    cases r <;> exact this
  · obtain ⟨xs, er, dd⟩ := dit_of I le ha re nd
    obtain rfl : u = Value.ref b := ry
    refine wpAny_notIn_heap (nested_room (X := X) hu) (tupKey_is I le ek hk) (sys_of ns) dd ?_
    have := h _ (I.tok (s.toks + (nestedKind X.prog X.w).draws k))
    rw [g_isSome, ← er.some_eq] at this
    exact this
/-- d[y] = v -/
theorem n_setItem {o : Obj} {kvs : List (D × D)} {es : List (Int × Addr × V)} {dk dv : D} {k : NestedKey} {b : Addr} {Q : Unit → Shared → Prop} (hu : A.units + 65 < cLine) (I : Inv X pins σ H s) (le : Same F H) (ha : H a = some (dxt a o es)) (re : RepEs X.K X.w F kvs es)
    (nd : (kvs.map fun p => tupKey p.1).Nodup) (hz : es.length ≤ sizeLine) (hk : Rep X.K X.w F dk (.ref b)) (ek : tupKey dk = some k) (hv : Rep X.K X.w F dv v) (rv : RelV v r)
    (h : ∀ o' es' s', RepEs X.K X.w F (putT kvs dk dv k) es' → Inv X pins σ (upd H a (dxt a o' es')) s' → Q () s') : wpAny (model X.prog X.w) A (setItem (.ref a) (.ref b) r) Q E s := by
  obtain ⟨xs, er, dd⟩ := dit_of I le ha re nd
  obtain ⟨es', er'⟩ := er.put ek hk hv rv
  refine wpAny_setItem_heap (hsz := by rw [er.len.2, ← er.len.1]; exact hz) (nested_room (X := X) hu) (tupKey_is I le ek hk) dd fun h' dd' hs => ?_
  obtain ⟨o', new⟩ := dxt_ok er' dd'
  have he : ∃ q, h'.get? a = some q := let ⟨q, _, _, hq, _⟩ := dd'; ⟨q, hq⟩
  exact h o' es' _ er'.reps (d_write I (by rw [ha]; exact True.intro) hs he (new _))
end
end MM
namespace MM
open PySem PySem.Spec PyProof.Rows L2
/-! ### dicts as data -/
def lookF (kvs : List (D × D)) (k : Key) : Option D := (kvs.find? fun p => decide (flatKey p.1 = some k)).map (·.2)
/-- k in d -/
def kinB (k o : D) : Option Bool := match o with
  | .dit kvs => (tupKey k).map fun n => (lookT kvs n).isSome
  | .dic kvs => (flatKey k).map fun n => (lookF kvs n).isSome
  | _ => none
def kninD (k o : D) : Option D := (kinB k o).map fun b => .bl (!b)
def dgetF (o : D) : List D → Option D
  | [k, z] => match o with
    | .dit kvs => (tupKey k).map fun n => (lookT kvs n).getD z
    | .dic kvs => (flatKey k).map fun n => (lookF kvs n).getD z
    | _ => none
  | _ => none
section
variable {K : PySem.W.Frag} {w : World} {F H : Hp}
theorem tupKey_ref {d : D} {k : NestedKey} {v : V} (e : tupKey d = some k) (h : PRep K w F H d v) : ∃ b, v = .ref b ∧ Rep K w F d (.ref b) := by
  unfold tupKey at e
  split at e
  · rename_i ds
    have r := h.flat (fun _ z => nomatch z) (fun _ z => nomatch z) (fun _ z => nomatch z)
    cases r with
    | tup hh ra => exact ⟨_, rfl, .tup hh ra⟩
  · cases e
theorem flatKey_v {d : D} {k : Key} {v : V} (e : flatKey d = some k) (h : PRep K w F H d v) : v = kV k := by
  unfold flatKey at e
  split at e
  · cases e; exact h.int
  · cases e; exact h.str
  · cases e
theorem lookF_val : ∀ {kvs : List (D × D)} {ks : List (Key × V)} (k : Key), RepKs K w F kvs ks → (lookF kvs k = none → valV ks k = none) ∧ ∀ e, lookF kvs k = some e → ∃ v, valV ks k = some v ∧ Rep K w F e v
  | _, _, k, .nil => ⟨fun _ => rfl, fun e h => nomatch h⟩
  | _, _, k, .cons (d := d) (e := e) (k := k') (v := v) (ds := ds) (ks := ks) h1 h2 r => by
    have ih := lookF_val k r
    unfold lookF at ih ⊢
    by_cases c : k' = k
    · subst c
      have a1 : decide (flatKey (d, e).1 = some k') = true := decide_eq_true h1
      rw [List.find?_cons_of_pos (p := fun p : D × D => decide (flatKey p.1 = some k')) a1, valV_pos (p := (k', v)) rfl]
      exact ⟨fun h => (nomatch h), fun e' h => by cases h; exact ⟨v, rfl, h2⟩⟩
    · have a1 : ¬ decide (flatKey (d, e).1 = some k) = true := by rw [decide_eq_true_iff]; exact fun z => c (by rw [show flatKey d = some k' from h1] at z; exact Option.some.inj z)
      rw [List.find?_cons_of_neg (p := fun p : D × D => decide (flatKey p.1 = some k)) a1, valV_neg (p := (k', v)) c]
      exact ih
/-- the look at a dict, by its data -/
theorem dlook_dit (le : Same F H) {kvs : List (D × D)} {dk : D} {k : NestedKey} {x y : V} (hx : PRep K w F H (.dit kvs) x) (hy : PRep K w F H dk y) (e : tupKey dk = some k) : ∃ a, x = .ref a ∧ DLook K w H a y ((lookT kvs k).map fun e v => Rep K w F e v) := by
  obtain ⟨a, o, es, rfl, h1, h2, h3, h4, h5⟩ := hx.dit le
  obtain ⟨b, rfl, h6⟩ := tupKey_ref e hy
  exact ⟨a, rfl, .inr ⟨F, o, kvs, es, dk, k, b, le, h1, h2, h3, h5, rfl, h6, e, rfl⟩⟩
theorem dlook_dic (le : Same F H) {kvs : List (D × D)} {dk : D} {k : Key} {x y : V} (hx : PRep K w F H (.dic kvs) x) (hy : PRep K w F H dk y) (e : flatKey dk = some k) : ∃ a ks, x = .ref a ∧ DLook K w H a y ((valV ks k).map fun x v => v = x) ∧ RepKs K w F kvs ks := by
  obtain ⟨a, ks, rfl, h1, h2⟩ := hx.dic le
  obtain rfl := flatKey_v e hy
  exact ⟨a, ks, rfl, .inl ⟨_, DGet.k h1, rfl⟩, h2⟩
theorem kin_ok (le : Same F H) {o k : D} {b : Bool} {x y : V} (hx : PRep K w F H o x) (hy : PRep K w F H k y) (e : kinB k o = some b) : ∃ a ov, x = .ref a ∧ DLook K w H a y ov ∧ ov.isSome = b := by
  unfold kinB at e
  split at e
  · obtain ⟨n, q1, rfl⟩ := Option.map_eq_some_iff.mp e
    obtain ⟨a, rfl, z⟩ := dlook_dit le hx hy q1
    exact ⟨a, _, rfl, z, g_isSome⟩
  · obtain ⟨n, q1, rfl⟩ := Option.map_eq_some_iff.mp e
    obtain ⟨a, ks, rfl, z, rk⟩ := dlook_dic le hx hy q1
    refine ⟨a, _, rfl, z, ?_⟩
    have lk := lookF_val n rk
    rename_i kvs
    cases q : lookF kvs n with
    | none => rw [lk.1 q]; rfl
    | some g => obtain ⟨v, q3, _⟩ := lk.2 g q; rw [q3]; rfl
  · cases e
end
section
variable {X : Cx} {W : WX} {o i e : Expr} {mo mi me : EM} {pos : Pos}
theorem om_knin (hu : X.A.units + 65 < cLine) : OpR X (compareOp .NotIn) (rOp X.K X.w kninD) := fun pins s σ H x y v u Q I rx ry ⟨F, d, e, g, le, hx, hy, q, k⟩ => by
  obtain ⟨b, q1, rfl⟩ := Option.map_eq_some_iff.mp q
  obtain ⟨a, ov, rfl, z, rfl⟩ := kin_ok le hy hx q1
  obtain rfl : u = Value.ref a := ry
  exact g_notIn hu I z rx fun s' I' => ⟨.bl (!ov.isSome), H, I', rfl, k F H _ (Step.refl le) (.bl _)⟩

/-! d.get(k, z) -/
/-- a receiver that is a dict -/
def isDct (r : R) : EM := fun ρ S => match peek ρ S r with
  | some (.dit _) => some (.ok r, S)
  | some (.dic _) => some (.ok r, S)
  | _ => none
def get2R (a b c : R) : EM := fun ρ S => match peek ρ S a, peek ρ S b, c with
  | some o, some k, .d z => match dgetF o [k, z] with
    | some g => some (.ok (.d g), S)
    | none => none
  | _, _, _ => none
def dget2M (mo mi me : EM) : EM := bindM (bindM mo isDct) fun a => bindM mi fun b => bindM me fun c => get2R a b c
end
end MM
namespace MM
open PySem PySem.Spec PyProof.Rows L2
/-! ### dicts that are changed -/
def replF (k : Key) (dv : D) (p : D × D) : D × D := if flatKey p.1 = some k then (p.1, dv) else p
def putF' (kvs : List (D × D)) (dk dv : D) (k : Key) : List (D × D) := if (lookF kvs k).isSome = true then kvs.map (replF k dv) else kvs ++ [(dk, dv)]
/-- the dict behind d[k] = v -/
def dputC (k v : R) (c : Cell) : Option Cell := match c, k, v with
  | .dit kvs, .d dk, .d dv => if kvs.length < sizeLine then (tupKey dk).map fun n => .dit (putT kvs dk dv n) else none
  | .dic kvs, .d dk, .d dv => if kvs.length < sizeLine then (flatKey dk).map fun n => .dic (putF' kvs dk dv n) else none
  | _, _, _ => none
def mutC (r : R) (f : Cell → Option Cell) : SM := fun ρ S => match cellAt ρ S r with
  | some c => match f c with
    | some c' => some (.nx, putFr ρ r c', putSto S r c')
    | none => none
  | none => none
/-- d[k] = e : e first -/
def dputM (me mo mi : EM) : SM := thenM me fun a => thenM mo fun o => thenM mi fun i => mutC o (dputC i a)
section
variable {K : PySem.W.Frag} {w : World} {F : Hp}
theorem repKs_len : ∀ {kvs : List (D × D)} {ks : List (Key × V)}, RepKs K w F kvs ks → kvs.length = ks.length
  | _, _, .nil => rfl
  | _, _, .cons _ _ r => congrArg Nat.succ (repKs_len r)
theorem repKs_repl {k : Key} {dv : D} {v : V} (hv : Rep K w F dv v) : ∀ {kvs : List (D × D)} {ks : List (Key × V)}, RepKs K w F kvs ks → RepKs K w F (kvs.map (replF k dv)) (ks.map fun kv => if kv.1 = k then (kv.1, v) else kv)
  | _, _, .nil => .nil
  | _, _, .cons (d := d) (e := e) (k := k') (v := v') h1 h2 r => by
    have ih := repKs_repl hv r (k := k)
    rw [List.map_cons, List.map_cons]
    unfold replF at ih ⊢
    by_cases c : k' = k
    · subst c
      rw [if_pos h1, if_pos rfl]
      exact .cons h1 hv ih
    · rw [if_neg (fun z => c (by rw [show flatKey d = some k' from h1] at z; exact Option.some.inj z)), if_neg c]
      exact .cons h1 h2 ih
theorem repKs_snoc {dk dv : D} {k : Key} {v : V} (h1 : flatKey dk = some k) (hv : Rep K w F dv v) : ∀ {kvs : List (D × D)} {ks : List (Key × V)}, RepKs K w F kvs ks → RepKs K w F (kvs ++ [(dk, dv)]) (ks ++ [(k, v)])
  | _, _, .nil => .cons h1 hv .nil
  | _, _, .cons g1 g2 r => .cons g1 g2 (repKs_snoc h1 hv r)
theorem repKs_put {dk dv : D} {k : Key} {v : V} (h1 : flatKey dk = some k) (hv : Rep K w F dv v) {kvs : List (D × D)} {ks : List (Key × V)} (r : RepKs K w F kvs ks) : RepKs K w F (putF' kvs dk dv k) (putK ks k v) := by
  have lk := lookF_val k r
  unfold putF' putK
  rw [valV_any]
  have e : (valV ks k).isSome = (lookF kvs k).isSome := by
    cases q : lookF kvs k with
    | none => rw [lk.1 q]; rfl
    | some g => obtain ⟨u, q3, _⟩ := lk.2 g q; rw [q3]; rfl
  rw [e]
  by_cases c : (lookF kvs k).isSome = true
  · rw [if_pos c, if_pos c]; exact repKs_repl hv r
  · rw [if_neg c, if_neg c]; exact repKs_snoc h1 hv r
/-- a store into the tracked dict at a -/
def DStore (K : PySem.W.Frag) (w : World) (H : Hp) (a : Addr) (y v : V) (N : Hp → Prop) : Prop :=
  (∃ H', DPut H a y v H' ∧ N H') ∨ ∃ (F : Hp) (o : Obj) (kvs : List (D × D)) (es : List (Int × Addr × V)) (dk dv : D) (k : NestedKey) (b : Addr),
    Same F H ∧ H a = some (dxt a o es) ∧ RepEs K w F kvs es ∧ (kvs.map fun p => tupKey p.1).Nodup ∧ es.length < sizeLine ∧ y = .ref b ∧ Rep K w F dk (.ref b) ∧ tupKey dk = some k ∧ Rep K w F dv v ∧ ∀ o' es', RepEs K w F (putT kvs dk dv k) es' → N (upd H a (dxt a o' es'))
end
section
variable {X : Cx} {W : WX} {o i e : Expr} {mo mi me : EM} {pos pos' : Pos}
theorem g_setItem {pins : List (Addr × Obj)} {σ : L2.St} {H : Hp} {s : Shared} {a : Addr} {A : Around} {E : Value → Shared → Prop} {y v : V} {u r : Value} {N : Hp → Prop} {Q : Unit → Shared → Prop} (hu : A.units + 65 < cLine) (I : Inv X pins σ H s) (g : DStore X.K X.w H a y v N) (ry : RelV y u) (rv : RelV v r)
    (h : ∀ H' s', N H' → Inv X pins σ H' s' → Q () s') : wpAny (model X.prog X.w) A (setItem (.ref a) u r) Q E s := by
  rcases g with ⟨H', g, n⟩ | ⟨F, o, kvs, es, dk, dv, k, b, le, ha, re, nd, hz, rfl, hk, ek, hv, n⟩
  · exact d_setItem (by omega) I g ry rv fun s' I' => h H' s' n I'
  · obtain rfl : u = Value.ref b := ry
    exact n_setItem hu I le ha re nd (Nat.le_of_lt hz) hk ek hv rv fun o' es' s' re' I' => h _ s' (n o' es' re') I'
def tStore (K : PySem.W.Frag) (w : World) (td ty tv : TE) : TS := fun D σ H => tv σ H fun v H1 => td σ H1 fun x H2 => ty σ H2 fun y H3 => ∃ a, x = .ref a ∧ DStore K w H3 a y v (D.nx σ)
theorem ps_gput {td ty tv : TE} {value : Expr} (hu : X.A.units + 65 < cLine) (ho : PE X o td) (hi : PE X i ty) (hv : PE X value tv) (hs : swapsWith value (some (.Subscript o i pos')) pos.line X.env = pure false) :
    PS X (.Assign [.Subscript o i pos'] value pos) (tStore X.K X.w td ty tv) := by
  refine ⟨fun pins s σ H D I h => ?_⟩
  refine wpAny_Assign_Subscript (thn (hv.run pins s σ H _ I h) fun r s1 ⟨v, H1, I1, rv, q1⟩ => thn (ho.run pins s1 σ H1 _ I1 q1) fun u s2 ⟨x, H2, I2, rx, q2⟩ => thn (hi.run pins s2 σ H2 _ I2 q2) fun iv s3 ⟨y, H3, I3, ry, a, ex, g⟩ => ?_) hs
  subst ex
  obtain rfl : u = Value.ref a := rx
  exact g_setItem hu I3 g ry rv fun H4 s4 n I4 => ⟨σ, H4, I4, n⟩
theorem mutC_ok {K : PySem.W.Frag} {w : World} {En : Ends} {σ : L2.St} {H F : Hp} {μ : List Addr} {ρ : Fr} {S : Sto} {B : Bs} {r i a : R} {x y z : V} (st : StOk K w B F μ ρ S σ H) (hr : RepR K w F μ σ r y) (hi : RepR K w F μ σ i z) (ha : RepR K w F μ σ a x) (k : flowAt K w W (mutC r (dputC i a) ρ S) B F En) :
    ∃ p, y = .ref p ∧ DStore K w H p z x (En.nx σ) := by
  unfold mutC at k
  cases q : cellAt ρ S r with
  | none => simp only [q] at k; exact k.none_
  | some c =>
    simp only [q] at k
    cases q2 : dputC i a c with
    | none => simp only [q2] at k; exact k.none_
    | some c' =>
      simp only [q2] at k
      unfold dputC at q2
      split at q2
      · rename_i kvs dk dv
        by_cases l : kvs.length < sizeLine
        · rw [if_pos l] at q2
          obtain ⟨n, h1, rfl⟩ := Option.map_eq_some_iff.mp q2
          obtain ⟨p, rfl, ⟨hF, ob, es, hx, re, nd, hz, hs⟩, put⟩ := st.mut hr q rfl
          obtain ⟨b, rfl, rb⟩ := tupKey_ref h1 (H := H) (.inl hi)
          have hl : es.length = kvs.length := by
            have : ∀ {kvs : List (D × D)} {es : List (Int × Addr × V)}, RepEs K w F kvs es → es.length = kvs.length := by
              intro kvs es r
              induction kvs generalizing es with
              | nil => cases r; rfl
              | cons p ps ih => cases r with | cons _ _ _ r => exact congrArg Nat.succ (ih r)
            exact this re
          refine ⟨p, rfl, .inr ⟨F, ob, kvs, es, dk, dv, n, b, st.rel.le, hx, re, nd, by omega, rfl, rb, h1, ha, fun o' es' re' => ?_⟩⟩
          refine k.nx (put (.dit (putT kvs dk dv n)) (dxt p o' es') ⟨hF, o', es', upd_same, re', putT_nodup h1 nd, ?_, hs⟩)
          have : ∀ {kvs : List (D × D)} {es : List (Int × Addr × V)}, RepEs K w F kvs es → es.length = kvs.length := by
            intro kvs es r
            induction kvs generalizing es with
            | nil => cases r; rfl
            | cons p ps ih => cases r with | cons _ _ _ r => exact congrArg Nat.succ (ih r)
          rw [this re']
          have := putT_len (kvs := kvs) (dk := dk) (dv := dv) (k := n)
          omega
        · rw [if_neg l] at q2; cases q2
      · rename_i kvs dk dv
        by_cases l : kvs.length < sizeLine
        · rw [if_pos l] at q2
          obtain ⟨n, h1, rfl⟩ := Option.map_eq_some_iff.mp q2
          obtain ⟨p, rfl, ⟨hF, ks, hx, re⟩, put⟩ := st.mut hr q rfl
          obtain rfl := flatKey_v h1 (H := H) (.inl hi)
          refine ⟨p, rfl, .inl ⟨_, DPut.k hx (by rw [← repKs_len re]; exact l), k.nx (put (.dic (putF' kvs dk dv n)) _ ⟨hF, _, upd_same, repKs_put h1 ha re⟩)⟩⟩
        · rw [if_neg l] at q2; cases q2
      · cases q2
theorem ms_dput (hu : X.A.units + 65 < cLine) (he : ME X W e me) (ho : ME X W o mo) (hi : ME X W i mi) (hs : swapsWith e (some (.Subscript o i pos')) pos.line X.env = pure false := by rfl) : MS X W (.Assign [.Subscript o i pos'] e pos) (dputM me mo mi) :=
  PS.imp (ps_gput hu ho hi he hs) fun En σ H h => (flow_then3 h).imp fun x H1 h => core.imp h fun y H2 h => core.imp h fun z H3 ⟨a, b, c, B, F, μ, ρ, S, h1, h2, h3, h4, h5⟩ => mutC_ok h1 h3 h4 h2 h5

/-! ### {} -/
/-- a new cell -/
def allocM (c : Cell) : EM := fun _ S => some (.ok (.loc S.length), S ++ [c])
end
end MM
namespace MM
open PySem PySem.Spec PyProof.Rows L2
/-! ### walks over such dicts, list(d), len(d) -/
section
variable {X : Cx} {pins : List (Addr × Obj)} {σ : L2.St} {H F : Hp} {s : Shared} {a : Addr} {o : Obj} {es : List (Int × Addr × V)}
end
section
variable {K : PySem.W.Frag} {w : World} {F H : Hp}
theorem repEs_get : ∀ {kvs : List (D × D)} {es : List (Int × Addr × V)}, RepEs K w F kvs es → RepAll K w F (kvs.map (·.1)) (es.map fun t => V.ref t.2.1)
  | _, _, .nil => .nil
  | _, _, .cons h1 h2 h3 r => .cons h2 (repEs_get r)
end
def keysF : List D → Option D
  | [.dit kvs] => some (.lst (kvs.map (·.1)))
  | _ => none
section
variable {X : Cx} {W : WX} {tg l : Expr} {ml : EM}
theorem repEs_len {K : PySem.W.Frag} {w : World} {F : Hp} {kvs : List (D × D)} {es : List (Int × Addr × V)} (r : RepEs K w F kvs es) : es.length = kvs.length := by
  have := (repEs_get r).length; simpa using this.symm
end
end MM
namespace MM
open PySem PySem.Spec PyProof.Rows L2
/-! ### zip of a list and a tuple, in either order -/
/-- at it stands an iterator over the list or the tuple at l, i of its items xs are passed -/
def Wlk (h : Heap) (it l : Addr) (i : Nat) (xs : Array Value) : Prop := (h.IsListIter it l i ∧ h.IsList l xs) ∨ (h.IsTupleIter it l i ∧ h.IsTuple l xs)
section
variable {prog : Program} {w : World} {A : Around} {E : Value → Shared → Prop} {s : Shared}
theorem Wlk.far {h h' : Heap} {it l b : Addr} {i : Nat} {xs : Array Value} (x : Wlk h it l i xs) (e : Heap.ExtBut b h h') (h1 : it ≠ b) (h2 : l ≠ b) : Wlk h' it l i xs :=
  x.imp (fun z => ⟨z.1.extBut e h1, z.2.extBut e h2⟩) fun z => ⟨z.1.extBut e h1, z.2.extBut e h2⟩
theorem Wlk.step {it l : Addr} {i : Nat} {xs : Array Value} {x : Value} {Q : Value → Shared → Prop} (g : Wlk s.heap it l i xs) (n : l ≠ it) (e : xs[i]? = some x) (q : ∀ h', Wlk h' it l (i + 1) xs → Heap.ExtBut it s.heap h' → h'.objs.size = s.heap.objs.size → Q x { s with heap := h' }) :
    wpAny (model prog w) A (Builtin.SmallTypes.nextOf (.ref it)) Q E s := by
  rcases g with ⟨g1, g2⟩ | ⟨g1, g2⟩
  · exact wpAny_nextOf_list_item g1 g2 e fun h' a b => q h' (.inl ⟨a, g2.extBut b.extBut n⟩) b.extBut b.1
  · exact RZ.nextOf_tuple_item g1 g2 e fun h' a b => q h' (.inr ⟨a, g2.extBut b.extBut n⟩) b.extBut b.1
theorem Wlk.stop {it l : Addr} {i : Nat} {xs : Array Value} {Q : Value → Shared → Prop} (hh : A.handled = none) (g : Wlk s.heap it l i xs) (e : xs[i]? = none) (q : ∀ h' u, Heap.ExtBut it s.heap h' → (∃ o, h'.get? u = some o ∧ o.cls = .type "StopIteration") → E (.ref u) { s with heap := h' }) :
    wpAny (model prog w) A (Builtin.SmallTypes.nextOf (.ref it)) Q E s := by
  rcases g with ⟨g1, g2⟩ | ⟨g1, g2⟩
  · exact wpAny_nextOf_list_end hh g1 g2 e q
  · exact RZ.nextOf_tuple_end hh g1 g2 e q

/-- the zip object z at work: its tuple of iterators, its own pair, the two walks -/
structure ZAt (h : Heap) (z T U a b l m : Addr) (i : Nat) (xs ys : Array Value) (own : Value) : Prop where
  z : IsZip h z T U own
  t : IsPair h T (.ref a) (.ref b)
  u : ∃ p q, IsPair h U p q
  x : Wlk h a l i xs
  y : Wlk h b m i ys
theorem zat_next {z T U a b l m : Addr} {i : Nat} {xs ys : Array Value} {vx vy : Value} {Q : Value → Shared → Prop} (D : ZipApart z T U a b l m) (g : ZAt s.heap z T U a b l m i xs ys .none) (ex : xs[i]? = some vx) (ey : ys[i]? = some vy)
    (q : ∀ h', ZAt h' z T U a b l m (i + 1) xs ys (rawInt s.heap.objs.size) → IsPair h' s.heap.objs.size vx vy → h'.objs.size = s.heap.objs.size + 1 →
      (∀ c o, c ≠ z → c ≠ U → c ≠ a → c ≠ b → s.heap.get? c = some o → h'.get? c = some o) → Q (.ref s.heap.objs.size) { s with heap := h' }) :
    wpAny (model prog w) A (Builtin.«zip.__next__» ⟨[.ref z], []⟩) (fun fin s' => ∃ v, fin = .done (.ret v) ∧ Q v s') E s := by
  obtain ⟨gz, gt, ⟨p0, q0, gu⟩, gx, gy⟩ := g
  show wpAny (model prog w) A (field (.ref z) 2 >>= _) _ E s
  refine wpAny_bind (wpAny_field gz rfl (x := .bool false) rfl ?_); show wpAny (model prog w) A (field (.ref z) 3 >>= _) _ E s
  refine wpAny_bind (wpAny_field gz rfl (x := .ref T) rfl ?_); refine wpAny_bind (wpAny_seqItems gt rfl ?_)
  show wpAny (model prog w) A (Builtin.SmallTypes.ownedTupleIsFree (.ref z) >>= _) _ E s
  refine wpAny_bind ?_; unfold Builtin.SmallTypes.ownedTupleIsFree
  refine wpAny_bind (wpAny_field gz rfl (x := .none) rfl (wpAny_pure ?_)); simp only [if_true]
  refine wpAny_bind (wpAny_rule ?_); refine wpAny_bind (wpAny_field gz rfl (x := .ref U) rfl ?_)
  refine wpAny_bind (wpAny_setField_rec gz (by simp) fun e1 z1 k1 => ?_); replace z1 : IsZip e1 z T U .ellipsis := z1
  refine wpAny_bind ?_; simp only [List.zipIdx_cons, List.zipIdx_nil, List.forIn_cons, List.forIn_nil]
  -- the first walk
  refine wpAny_bind (wpAny_bind (wpAny_onRaise ?_)); show wpAny (model prog w) A (Builtin.SmallTypes.nextOf (.ref a) >>= _) _ _ _
  refine wpAny_bind (Wlk.step (gx.far k1.extBut D.i1z D.l1z) D.l1i1 ex fun e2 x2 k2 n2 => wpAny_pure ?_)
  have u2 : IsPair e2 U p0 q0 := k2 _ _ D.TOi1 (k1.extBut _ _ D.TOz gu)
  refine wpAny_bind (wpAny_seqItems u2 rfl ?_); refine wpAny_bind (wpAny_updateSeq_pair u2 fun e3 u3 k3 => ?_)
  replace u3 : IsPair e3 U vx q0 := u3
  refine wpAny_bind (wpAny_letGo (wpAny_pure ?_))
  -- the second
  refine wpAny_bind (wpAny_bind (wpAny_onRaise ?_)); show wpAny (model prog w) A (Builtin.SmallTypes.nextOf (.ref b) >>= _) _ _ _
  have y3 : Wlk e3 b m i ys := ((gy.far k1.extBut D.i2z D.l2z).far k2 D.i12.symm D.l2i1).far k3.extBut D.TOi2.symm D.l2TO
  refine wpAny_bind (Wlk.step y3 D.l2i2 ey fun e4 y4 k4 n4 => wpAny_pure ?_)
  have u4 : IsPair e4 U vx q0 := k4 _ _ D.TOi2 u3
  refine wpAny_bind (wpAny_seqItems u4 rfl ?_); refine wpAny_bind (wpAny_updateSeq_pair u4 fun e5 u5 k5 => ?_)
  replace u5 : IsPair e5 U vx vy := u5
  refine wpAny_bind (wpAny_letGo (wpAny_pure (wpAny_pure ?_))); refine wpAny_bind (wpAny_seqItems u5 rfl ?_)
  -- the pair is handed out
  refine wpAny_bind (wpAny_newTuple ?_)
  have n5 : e5.objs.size = s.heap.objs.size := by rw [k5.1, n4, k3.1, n2, k1.1]
  have z5 : IsZip e5 z T U .ellipsis := k5.extBut _ _ D.TOz.symm (k4 _ _ D.i2z.symm (k3.extBut _ _ D.TOz.symm (k2 _ _ D.i1z.symm z1)))
  have far5 : ∀ c o, c ≠ z → c ≠ U → c ≠ a → c ≠ b → s.heap.get? c = some o → e5.get? c = some o := fun c o d1 d2 d3 d4 e => k5.extBut _ _ d2 (k4 _ _ d4 (k3.extBut _ _ d2 (k2 _ _ d3 (k1.extBut _ _ d1 e))))
  have x5 : Wlk e5 a l (i + 1) xs := ((x2.far k3.extBut D.TOi1.symm D.l1TO).far k4 D.i12 D.l1i2).far k5.extBut D.TOi1.symm D.l1TO
  have y5 : Wlk e5 b m (i + 1) ys := y4.far k5.extBut D.TOi2.symm D.l2TO
  have zlt : z < e5.objs.size := Heap.lt_size z5
  show wpAny (model prog w) A (Builtin.SmallTypes.ownedTupleHandOut (.ref z) (.ref e5.objs.size) >>= _) _ E _
  refine wpAny_bind ?_; unfold Builtin.SmallTypes.ownedTupleHandOut
  have z6 : IsZip (e5.push { cls := .type "tuple", data := .seq #[vx, vy] }) z T U .ellipsis := Heap.get?_push_of_some _ z5
  refine wpAny_bind (wpAny_setField_rec z6 (by simp) fun e7 z7 k7 => ?_); replace z7 : IsZip e7 z T U (rawInt e5.objs.size) := z7
  refine wpAny_setField_rec z7 (by simp) fun e8 z8 k8 => ?_
  replace z8 : IsZip e8 z T U (rawInt e5.objs.size) := z8
  have lift : ∀ c o, c ≠ z → e5.get? c = some o → e8.get? c = some o := fun c o d e => k8.extBut _ _ d (k7.extBut _ _ d (Heap.get?_push_of_some _ e))
  have both : Heap.ExtBut z e5 e8 := fun c o d e => lift c o d e
  have t8 : IsPair e8 e5.objs.size vx vy := k8.extBut _ _ (Nat.ne_of_gt zlt) (k7.extBut _ _ (Nat.ne_of_gt zlt) (Heap.get?_push_size _ rfl))
  have n8 : e8.objs.size = e5.objs.size + 1 := by rw [k8.1, k7.1, Heap.size_push]
  rw [n5] at z8 t8 n8
  refine wpAny_pure ⟨_, rfl, ?_⟩; show Q (.ref e5.objs.size) _
  rw [n5]
  refine q e8 ⟨z8, lift _ _ D.TIz (far5 _ _ D.TIz D.TITO D.TIi1 D.TIi2 gt), ⟨vx, vy, lift _ _ D.TOz u5⟩, x5.far both D.i1z D.l1z, y5.far both D.i2z D.l2z⟩ t8 n8 fun c o d1 d2 d3 d4 e => lift c o d1 (far5 c o d1 d2 d3 d4 e)
theorem zat_end {z T U a b l m : Addr} {i : Nat} {xs ys : Array Value} {Q : Fin → Shared → Prop} (hh : A.handled = none) (D : ZipApart z T U a b l m) (g : ZAt s.heap z T U a b l m i xs ys .none) (e : xs[i]? = none ∨ ys[i]? = none)
    (q : ∀ h' u, (∀ c o, c ≠ z → c ≠ U → c ≠ a → c ≠ b → s.heap.get? c = some o → h'.get? c = some o) → (∃ o, h'.get? u = some o ∧ o.cls = .type "StopIteration") → E (.ref u) { s with heap := h' }) :
    wpAny (model prog w) A (Builtin.«zip.__next__» ⟨[.ref z], []⟩) Q E s := by
  obtain ⟨gz, gt, ⟨p0, q0, gu⟩, gx, gy⟩ := g
  show wpAny (model prog w) A (field (.ref z) 2 >>= _) _ E s
  refine wpAny_bind (wpAny_field gz rfl (x := .bool false) rfl ?_); show wpAny (model prog w) A (field (.ref z) 3 >>= _) _ E s
  refine wpAny_bind (wpAny_field gz rfl (x := .ref T) rfl ?_); refine wpAny_bind (wpAny_seqItems gt rfl ?_)
  show wpAny (model prog w) A (Builtin.SmallTypes.ownedTupleIsFree (.ref z) >>= _) _ E s
  refine wpAny_bind ?_; unfold Builtin.SmallTypes.ownedTupleIsFree
  refine wpAny_bind (wpAny_field gz rfl (x := .none) rfl (wpAny_pure ?_)); simp only [if_true]
  refine wpAny_bind (wpAny_rule ?_); refine wpAny_bind (wpAny_field gz rfl (x := .ref U) rfl ?_)
  refine wpAny_bind (wpAny_setField_rec gz (by simp) fun e1 z1 k1 => ?_); replace z1 : IsZip e1 z T U .ellipsis := z1
  refine wpAny_bind ?_; simp only [List.zipIdx_cons, List.zipIdx_nil, List.forIn_cons, List.forIn_nil]
  have fin : ∀ (g : Heap) (u : Addr), IsZip g z T U .ellipsis → (∃ o, g.get? u = some o ∧ o.cls = .type "StopIteration") → (∀ c o, c ≠ z → c ≠ U → c ≠ a → c ≠ b → s.heap.get? c = some o → g.get? c = some o) → ∀ g', Heap.SameBut z g g' → E (.ref u) { s with heap := g' } := fun g u gz' ⟨o, ho, hc⟩ far g' sb => by
    have ne : u ≠ z := fun x => by
      subst x
      rw [gz'] at ho
      cases ho
      simp at hc
    exact q g' u (fun c o d1 d2 d3 d4 e => sb.extBut _ _ d1 (far c o d1 d2 d3 d4 e)) ⟨o, sb.extBut _ _ ne ho, hc⟩
  refine wpAny_bind (wpAny_bind (wpAny_onRaise ?_)); show wpAny (model prog w) A (Builtin.SmallTypes.nextOf (.ref a) >>= _) _ _ _
  have x1 := gx.far k1.extBut D.i1z D.l1z
  cases ex : xs[i]? with
  | none =>
    refine wpAny_bind (Wlk.stop hh x1 ex fun e2 u k2 hu => ?_)
    have z2 : IsZip e2 z T U .ellipsis := k2 _ _ D.i1z.symm z1
    exact wpAny_setField_rec z2 (by simp) fun e3 _ k3 => fin e2 u z2 hu (fun c o d1 _ d3 _ e => k2 _ _ d3 (k1.extBut _ _ d1 e)) e3 k3
  | some vx =>
    have ey : ys[i]? = none := by
      rcases e with e | e
      · rw [ex] at e; cases e
      · exact e
    refine wpAny_bind (Wlk.step x1 D.l1i1 ex fun e2 x2 k2 n2 => wpAny_pure ?_)
    have u2 : IsPair e2 U p0 q0 := k2 _ _ D.TOi1 (k1.extBut _ _ D.TOz gu)
    refine wpAny_bind (wpAny_seqItems u2 rfl ?_); refine wpAny_bind (wpAny_updateSeq_pair u2 fun e3 u3 k3 => ?_)
    refine wpAny_bind (wpAny_letGo (wpAny_pure ?_)); refine wpAny_bind (wpAny_bind (wpAny_onRaise ?_))
    show wpAny (model prog w) A (Builtin.SmallTypes.nextOf (.ref b) >>= _) _ _ _
    have y3 : Wlk e3 b m i ys := ((gy.far k1.extBut D.i2z D.l2z).far k2 D.i12.symm D.l2i1).far k3.extBut D.TOi2.symm D.l2TO
    refine wpAny_bind (Wlk.stop hh y3 ey fun e4 u k4 hu => ?_)
    have z4 : IsZip e4 z T U .ellipsis := k4 _ _ D.i2z.symm (k3.extBut _ _ D.TOz.symm (k2 _ _ D.i1z.symm z1))
    exact wpAny_setField_rec z4 (by simp) fun e5 _ k5 => fin e4 u z4 hu (fun c o d1 d2 d3 d4 e => k4 _ _ d4 (k3.extBut _ _ d2 (k2 _ _ d3 (k1.extBut _ _ d1 e)))) e5 k5
end
end MM
namespace MM
open PySem PySem.Spec PyProof.Rows L2
section
variable {prog : Program} {w : World} {A : Around} {E : Value → Shared → Prop} {s : Shared}
theorem zat_pyNext {z T U a b l m : Addr} {i : Nat} {xs ys : Array Value} {vx vy : Value} {Q : Option Value → Shared → Prop} (D : ZipApart z T U a b l m) (g : ZAt s.heap z T U a b l m i xs ys .none) (ex : xs[i]? = some vx) (ey : ys[i]? = some vy)
    (q : ∀ h', ZAt h' z T U a b l m (i + 1) xs ys (rawInt s.heap.objs.size) → IsPair h' s.heap.objs.size vx vy → h'.objs.size = s.heap.objs.size + 1 →
      (∀ c o, c ≠ z → c ≠ U → c ≠ a → c ≠ b → s.heap.get? c = some o → h'.get? c = some o) → Q (some (.ref s.heap.objs.size)) { s with heap := h' }) : wpAny (model prog w) A (pyNext (.ref z)) Q E s := by
  have ty : s.TypeIs (.ref z) "zip" := ⟨_, g.z, rfl⟩
  unfold pyNext
  exact wpAny_bind (wpAny_attempt (wpAny_callSpecial?_slot (name := Str.ofString "__next__") ty F.slot_zip_next (wpAny_call_entry F.slot_zip_next ty F.entry_zip_next (zat_next D g ex ey fun h' a b c d => wpAny_pure (q h' a b c d)) (F.args_zip_next_1 _))))
theorem zat_pyEnd {z T U a b l m : Addr} {i : Nat} {xs ys : Array Value} {Q : Option Value → Shared → Prop} (hh : A.handled = none) (D : ZipApart z T U a b l m) (g : ZAt s.heap z T U a b l m i xs ys .none) (e : xs[i]? = none ∨ ys[i]? = none)
    (q : ∀ h', (∀ c o, c ≠ z → c ≠ U → c ≠ a → c ≠ b → s.heap.get? c = some o → h'.get? c = some o) → Q none { s with heap := h' }) : wpAny (model prog w) A (pyNext (.ref z)) Q E s := by
  have ty : s.TypeIs (.ref z) "zip" := ⟨_, g.z, rfl⟩
  unfold pyNext
  refine wpAny_bind (wpAny_attempt (wpAny_callSpecial?_slot (name := Str.ofString "__next__") ty F.slot_zip_next (wpAny_call_entry F.slot_zip_next ty F.entry_zip_next (zat_end hh D g e fun h' u far hu => ?_) (F.args_zip_next_1 _))))
  obtain ⟨o, ho, hc⟩ := hu
  exact wpAny_bind (wpAny_isInstance (T := "StopIteration") (b := true) ⟨o, ho, hc⟩ isSubtype_stop (wpAny_pure (q _ far)))
abbrev mzA (h : Heap) (l : Addr) : Heap := h.push { cls := .type "list_iterator", data := .fields #[.ref l, .int 0 0] }
abbrev mzB (h : Heap) (l m : Addr) : Heap := (mzA h l).push { cls := .type "tuple_iterator", data := .fields #[.ref m, .int 0 0] }
abbrev mzC (h : Heap) (l m : Addr) : Heap := (mzB h l m).push { cls := .type "tuple", data := .seq #[.ref h.objs.size, .ref (mzA h l).objs.size] }
abbrev mzD (h : Heap) (l m : Addr) : Heap := (mzC h l m).push { cls := .type "tuple", data := .seq #[.none, .none] }
abbrev mzE (h : Heap) (l m : Addr) : Heap := (mzD h l m).push { cls := .type "zip", data := .fields #[.none, .bool false, .bool false, .ref (mzB h l m).objs.size, .ref (mzC h l m).objs.size] }
theorem meets_zipX (l m : Addr) (xs ys : Array Value) : Meets (Builtin.«zip.__new__» ⟨[.type "zip", .ref l, .ref m], []⟩) (fun _ R s => s.heap.IsList l xs ∧ s.heap.IsTuple m ys ∧ R (.ok (.ret (.ref (mzD s.heap l m).objs.size))) { s with heap := mzE s.heap l m }) :=
  .of_wp fun prog w A R s h => by
    obtain ⟨hp, g, d, tk, os⟩ := s; obtain ⟨g1, g2, h⟩ := h
    have sub := sub_zip
    have G1 : Heap.IsList (Shared.heap ⟨hp, g, d, tk, os⟩) l xs := g1
    have G2 : Heap.IsTuple (Shared.heap ⟨hp.push { cls := .type "list_iterator", data := .fields #[.ref l, .int 0 0] }, g, d, tk, os⟩) m ys := Heap.IsTuple.push g2 _
    wp_walk using wpAny_pyIter_list G1, wpAny_pyIter_tuple G2
    exact ⟨_, rfl, h⟩
theorem call_zipX {l m : Addr} {xs ys : Array Value} {Q : Value → Shared → Prop} (g1 : s.heap.IsList l xs) (g2 : s.heap.IsTuple m ys) (hl : l < s.heap.objs.size) (hm : m < s.heap.objs.size)
    (h : ∀ h', ZAt h' (s.heap.objs.size + 4) (s.heap.objs.size + 2) (s.heap.objs.size + 3) s.heap.objs.size (s.heap.objs.size + 1) l m 0 xs ys .none → (∀ c o, s.heap.get? c = some o → h'.get? c = some o) → Q (.ref (s.heap.objs.size + 4)) { s with heap := h' }) :
    wpAny (model prog w) A (call (.type "zip") [.ref l, .ref m]) Q E s := by
  refine callType_new F.called_zip (by decide) (F.typeCall_zip_2 _ _) (F.newCall_zip_2 _ _) (fun obj => F.args_object_init_3 obj _ _) F.entry_zip_new (meets_zipX l m xs ys) ⟨g1, g2, ?_⟩
  have nA : (mzA s.heap l).objs.size = s.heap.objs.size + 1 := Heap.size_push ..
  have nB : (mzB s.heap l m).objs.size = s.heap.objs.size + 2 := by rw [Heap.size_push, nA]
  have nC : (mzC s.heap l m).objs.size = s.heap.objs.size + 3 := by rw [Heap.size_push, nB]
  have nD : (mzD s.heap l m).objs.size = s.heap.objs.size + 4 := by rw [Heap.size_push, nC]
  have up : ∀ c o, s.heap.get? c = some o → (mzE s.heap l m).get? c = some o := fun c o x => Heap.get?_push_of_some _ (Heap.get?_push_of_some _ (Heap.get?_push_of_some _ (Heap.get?_push_of_some _ (Heap.get?_push_of_some _ x))))
  have pE : (mzE s.heap l m).get? (mzD s.heap l m).objs.size = some _ := Heap.get?_push_size _ rfl
  have pD : (mzE s.heap l m).get? (mzC s.heap l m).objs.size = some _ := Heap.get?_push_of_some _ (Heap.get?_push_size _ rfl)
  have pC : (mzE s.heap l m).get? (mzB s.heap l m).objs.size = some _ := Heap.get?_push_of_some _ (Heap.get?_push_of_some _ (Heap.get?_push_size _ rfl))
  have pB : (mzE s.heap l m).get? (mzA s.heap l).objs.size = some _ := Heap.get?_push_of_some _ (Heap.get?_push_of_some _ (Heap.get?_push_of_some _ (Heap.get?_push_size _ rfl)))
  have pA : (mzE s.heap l m).get? s.heap.objs.size = some _ := Heap.get?_push_of_some _ (Heap.get?_push_of_some _ (Heap.get?_push_of_some _ (Heap.get?_push_of_some _ (Heap.get?_push_size _ rfl))))
  show _ ∧ _
  rw [nB, nC, nD] at pE
  rw [nA, nB] at pC
  rw [nC] at pD
  rw [nA] at pB
  rw [nD]
  refine ⟨⟨_, pE, rfl⟩, h _ ⟨pE, pC, ⟨_, _, pD⟩, .inl ⟨⟨_, pA, rfl, rfl⟩, ?_⟩, .inr ⟨⟨_, pB, rfl, rfl⟩, ?_⟩⟩ up⟩
  · exact g1.at fun o x => up _ o x
  · exact g2.at fun o x => up _ o x
end
theorem wlk_list {h : Heap} {it l : Addr} {i : Nat} {xs ys : Array Value} (g : Wlk h it l i xs) (hl : h.IsList l ys) : h.IsListIter it l i := by
  rcases g with ⟨q, _⟩ | ⟨_, ol, el, cl, _⟩
  · exact q
  · obtain ⟨o2, e2, c2, _⟩ := hl
    rw [el] at e2
    cases e2
    have z := cl.symm.trans c2
    injection z with z
    exact absurd z (by decide)
theorem wlk_tup {h : Heap} {it l : Addr} {i : Nat} {xs ys : Array Value} (g : Wlk h it l i xs) (hl : h.IsTuple l ys) : h.IsTupleIter it l i := by
  rcases g with ⟨_, ol, el, cl, _⟩ | ⟨q, _⟩
  · obtain ⟨o2, e2, c2, _⟩ := hl
    rw [el] at e2
    cases e2
    have z := cl.symm.trans c2
    injection z with z
    exact absurd z (by decide)
  · exact q
/-- the list at a and the tuple at b as they stand at each turn, the items in new pairs -/
def Itx (K : PySem.W.Frag) (a b : Addr) : It :=
  ⟨fun i H => ∃ (xs ys : List V) (x y : V), SqL K H a xs ∧ SqT K H b ys ∧ xs[i]? = some x ∧ ys[i]? = some y,
    fun i H v H' => ∃ T x y, v = .ref T ∧ H T = none ∧ H' = upd H T (.tup [x, y]) ∧ (∀ xs, SqL K H a xs → xs[i]? = some x) ∧ ∀ ys, SqT K H b ys → ys[i]? = some y,
    fun i H => ∃ xs ys : List V, SqL K H a xs ∧ SqT K H b ys ∧ (xs.length ≤ i ∨ ys.length ≤ i)⟩
section
variable {P : Program} {w : World} {K : PySem.W.Frag} {elts : List Expr} {kk : Nat} {tpos : Pos} {a b z TI TO i1 i2 : Addr}
/-- what the turn knows of the heap -/
def Zst (K : PySem.W.Frag) (z TI TO i1 i2 a b : Addr) (i : Nat) (h : Heap) : Prop := IsZip h z TI TO .none ∧ IsPair h TI (.ref i1) (.ref i2) ∧ (∃ x y, IsPair h TO x y) ∧ h.IsListIter i1 a i ∧ h.IsTupleIter i2 b i
theorem turn_x (D : ZipApart z TI TO i1 i2 a b) : Turn P w K (.Tuple elts kk tpos) (Itx K a b) [z, TI, TO, i1, i2] z (Zst K z TI TO i1 i2 a b) where
  mem := by simp
  obj := fun i h st c hc => by
    obtain ⟨gz, gt, ⟨x, y, gu⟩, ⟨o1, e1, _, d1⟩, ⟨o2, e2, _, d2⟩⟩ := st
    simp only [List.mem_cons, List.not_mem_nil, or_false] at hc
    rcases hc with rfl | rfl | rfl | rfl | rfl
    · exact ⟨_, gz, fun v q => nomatch q⟩
    · exact ⟨_, gt, fun v q => nomatch q⟩
    · exact ⟨_, gu, fun v q => nomatch q⟩
    · exact ⟨o1, e1, fun v q => by rw [d1] at q; cases q⟩
    · exact ⟨o2, e2, fun v q => by rw [d2] at q; cases q⟩
  keep := fun i h h' st k => by
    obtain ⟨gz, gt, ⟨x, y, gu⟩, g1, g2⟩ := st
    exact ⟨k z (by simp) _ gz, k TI (by simp) _ gt, ⟨x, y, k TO (by simp) _ gu⟩, g1.at fun o q => k i1 (by simp) o q, g2.at fun o q => k i2 (by simp) o q⟩
  item := by
    intro X hP hw hK hc i pins s σ H E I hf st hg
    subst hP hw hK
    obtain ⟨gz, gt, gu, g1, g2⟩ := st
    obtain ⟨xs, ys, x, y, hqx, hqy, hx, hy⟩ := hg
    obtain ⟨its, rv, p, _⟩ := I.list hqx
    obtain ⟨its2, rv2, p2, _⟩ := I.tuple hqy
    obtain ⟨u, hu, ru⟩ := rv.get hx
    obtain ⟨u2, hu2, ru2⟩ := rv2.get hy
    have zl : z < s.heap.objs.size := Heap.lt_size gz
    refine zat_pyNext D ⟨gz, gt, gu, .inl ⟨g1, p.isList⟩, .inr ⟨g2, p2⟩⟩ (vx := u) (vy := u2) (by simpa using hu) (by simpa using hu2) fun h' g hT hn far => ?_
    refine ⟨_, rfl, wpAny_letOwnedTupleGo_zip (s := { s with heap := h' }) g.z fun h'' z'' sb => ?_⟩
    have hT2 : h''.get? s.heap.objs.size = some { cls := .type "tuple", data := .seq #[u, u2] } := (sb.2 _ (Nat.ne_of_gt zl)).trans hT
    have new : ObjOk X.prog X.w (upd H s.heap.objs.size (.tup [x, y])) h'' s.heap.objs.size (.tup [x, y]) := ⟨by show 2 ≤ sizeLine; decide, [u, u2], .cons ru (.cons ru2 .nil), ⟨_, hT2, rfl, _, rfl⟩⟩
    have I1 : Inv X pins σ (upd H s.heap.objs.size (.tup [x, y])) { s with heap := h'' } :=
      I.turnedNew (t' := s.toks) (ch := [z, TI, TO, i1, i2]) (fun c o hb q => by
        simp only [List.mem_cons, List.not_mem_nil, or_false, not_or] at hb
        exact (sb.2 c hb.1).trans (far c o hb.1 hb.2.2.1 hb.2.2.2.1 hb.2.2.2.2 q)) hf (Nat.le_refl _) new
    have w1 : h''.IsListIter i1 a (i + 1) := (wlk_list g.x (p.isList.at fun o e => far a o D.l1z D.l1TO D.l1i1 D.l1i2 e)).at fun o e => (sb.2 _ D.i1z).trans e
    have w2 : h''.IsTupleIter i2 b (i + 1) := (wlk_tup g.y ((show s.heap.IsTuple b its2.toArray from p2).at fun o e => far b o D.l2z D.l2TO D.l2i1 D.l2i2 e)).at fun o e => (sb.2 _ D.i2z).trans e
    obtain ⟨p0, q0, gu'⟩ := g.u
    refine ⟨.ref s.heap.objs.size, _, I1, rfl, ⟨_, x, y, rfl, I.hok.fresh (Nat.le_refl _), rfl, fun l hl => by rw [I.list_inj hl hqx]; exact hx, fun l hl => by rw [I.tuple_inj hl hqy]; exact hy⟩, ⟨z'', (sb.2 _ D.TIz).trans g.t, ⟨p0, q0, (sb.2 _ D.TOz).trans gu'⟩, w1, w2⟩, fun c hcm => ?_⟩
    have hlt : c < s.heap.objs.size := by
      obtain ⟨x0, y0, gu0⟩ := gu
      simp only [List.mem_cons, List.not_mem_nil, or_false] at hcm
      rcases hcm with rfl | rfl | rfl | rfl | rfl
      · exact zl
      · exact Heap.lt_size gt
      · exact Heap.lt_size gu0
      · obtain ⟨_, e1, _⟩ := g1; exact Heap.lt_size e1
      · obtain ⟨_, e2, _⟩ := g2; exact Heap.lt_size e2
    rw [upd_ne (Nat.ne_of_lt hlt)]
    exact (hf c hcm).1
  done := by
    intro X hP hw hK hc i pins s σ H E I hf st hg
    subst hP hw hK
    obtain ⟨gz, gt, gu, g1, g2⟩ := st
    obtain ⟨xs, ys, hqx, hqy, hend⟩ := hg
    obtain ⟨its, rv, p, _⟩ := I.list hqx
    obtain ⟨its2, rv2, p2, _⟩ := I.tuple hqy
    have n1 := rv.length
    have n2 := rv2.length
    refine zat_pyEnd (I.ok.hd hc) D ⟨gz, gt, gu, .inl ⟨g1, p.isList⟩, .inr ⟨g2, p2⟩⟩ (hend.imp (fun q => by simp; omega) fun q => by simp; omega) fun h' far => ⟨rfl, I.turnedL (t' := s.toks) (ch := [z, TI, TO, i1, i2]) (fun c o hb q => ?_) hf⟩
    simp only [List.mem_cons, List.not_mem_nil, or_false, not_or] at hb
    exact far c o hb.1 hb.2.2.1 hb.2.2.2.1 hb.2.2.2.2 q
  self := fun A i s Q E st h => wpAny_pyIter_zip st.1 h
end
def iZipX (K : PySem.W.Frag) (ta : TA) : TI := fun σ H R => ta σ H fun vs H1 => ∃ a b xs ys, vs = [.ref a, .ref b] ∧ SqL K H1 a xs ∧ SqT K H1 b ys ∧ R (Itx K a b) H1
theorem pi_zipX {X : Cx} {e e2 : Expr} {ta : TA} {p pos tpos : Pos} {elts : List Expr} {kk : Nat} (hg : Gl X "zip") (hm : X.mg "zip" = none) (ha : PA X [e, e2] ta) (hs : starEach [e, e2] X.env = (false, eval e X.env) :: starEach [e2] X.env := by rfl) (hpl : (backTo pos (starEach [e2] X.env)).any (·.1) = false := by rfl) :
    PI X (.Tuple elts kk tpos) (.Call (.Name "zip" p) [e, e2] [] pos) (iZipX X.K ta) := by
  refine ⟨fun pins s σ H R I h => ?_⟩
  refine Call_ (ld_blt I hg hm PyProof.Rows.boot_zip (PyProof.Rows.callWith_type1 (thn (ha.run pos pins s σ H _ I h) fun us s1 ⟨vs, H1, I1, r1, a, b, xs, ys, ex, hqx, hqy, q⟩ => ?_) hs hpl))
  subst ex
  obtain ⟨u1, u2, rfl, r, r'⟩ := vals2 r1
  obtain rfl : u1 = Value.ref a := r
  obtain rfl : u2 = Value.ref b := r'
  obtain ⟨its, rv, p1, _⟩ := I1.list hqx
  obtain ⟨its2, rv2, p2, _⟩ := I1.tuple hqy
  obtain ⟨o2, ho2, _⟩ := id p2
  have lb : b < s1.heap.objs.size := Heap.lt_size ho2
  refine call_zipX p1.isList p2 p1.lt lb fun h' g hk => wpAny_pyIter_zip g.z ?_
  have I2 : Inv X pins σ H1 { s1 with heap := h' } := I1.kept (t' := s1.toks) hk
  have D := PySem.W.ktu_apart s1.heap.objs.size a b p1.lt lb
  have fresh : ∀ c, c ∈ [s1.heap.objs.size + 4, s1.heap.objs.size + 2, s1.heap.objs.size + 3, s1.heap.objs.size, s1.heap.objs.size + 1] → FpOk X pins H1 c := fun c hcm => by
    have hle : s1.heap.objs.size ≤ c := by
      simp only [List.mem_cons, List.not_mem_nil, or_false] at hcm
      rcases hcm with rfl | rfl | rfl | rfl | rfl <;> first | exact Nat.le_add_right _ _ | exact Nat.le_refl _
    exact I1.fpOk hle (I1.hok.fresh hle)
  have st0 : Zst X.K (s1.heap.objs.size + 4) (s1.heap.objs.size + 2) (s1.heap.objs.size + 3) s1.heap.objs.size (s1.heap.objs.size + 1) a b 0 h' := by
    exact ⟨g.z, g.t, g.u, wlk_list g.x (p1.isList.at fun o e => hk _ _ e), wlk_tup g.y ((show s1.heap.IsTuple b its2.toArray from p2).at fun o e => hk _ _ e)⟩
  exact ⟨s1.heap.objs.size + 4, _, _, _, H1, rfl, I2, turn_x D, st0, fresh, q⟩

theorem good_zipX {K : PySem.W.Frag} {w : World} {F : Hp} {a b : Addr} {xs ys : List V} {ds es : List D} (h : F a = some (.lst xs)) (r : RepAll K w F ds xs) (h' : SqT K F b ys) (r' : RepAll K w F es ys) : GoodJ K w F (zipL ds es) (Itx K a b) := by
  unfold GoodJ
  have hl : (zipL ds es).length = min xs.length ys.length := by simp [zipL, r.length, r'.length]
  rw [hl]
  refine ⟨fun i H hi e => ?_, fun H e => ⟨xs, ys, SqL.of (e _ _ h), Same.seqT e h', by omega⟩, fun i H x H' hi e ⟨T, u, v, h1, h2, h3, h4, h5⟩ => ?_⟩
  · have h1 : i < xs.length := by omega
    have h2 : i < ys.length := by omega
    exact ⟨xs, ys, xs[i], ys[i], SqL.of (e _ _ h), Same.seqT e h', by simp [h1], by simp [h2]⟩
  · obtain ⟨d, q1, q2⟩ := r.get' (h4 xs (SqL.of (e _ _ h)))
    obtain ⟨d', q1', q2'⟩ := r'.get' (h5 ys (Same.seqT e h'))
    rw [h1, h3]
    exact ⟨.tup [d, d'], by simp [zipL, List.getElem?_zipWith, q1, q1'], fun F2 e1 e2 => pair_step e2 h2 (q2.mono e1) (q2'.mono e1)⟩
def zipXR (as : List R) : NM := fun _ S => match as with
  | [.d (.lst ds), .d (.tup es)] => some (.ok (zipL ds es), S)
  | _ => none
def iZipXM (ms : AM) : NM := bindM ms zipXR
theorem mi_zipX {X : Cx} {W : WX} {a b : Expr} {ms : AM} {p pos : Pos} {elts : List Expr} {kk : Nat} {tpos : Pos} (hm : X.mg "zip" = none) (ha : MA X W [a, b] ms) (hg : Gl X "zip" := by rfl) (hs : starEach [a, b] X.env = (false, eval a X.env) :: starEach [b] X.env := by rfl) (hpl : (backTo pos (starEach [b] X.env)).any (·.1) = false := by rfl) :
    MI X W (.Tuple elts kk tpos) (.Call (.Name "zip" p) [a, b] [] pos) (iZipXM ms) :=
  PI_imp (pi_zipX hg hm ha hs hpl) fun σ H R h => (iM_bind (Ra := fun σ F μ => RepRs X.K X.w F μ σ) h).imp fun x H1 ⟨r, F, μ, ρ, S, h1, h2, h3, o, S', h4, h5⟩ => by
    unfold zipXR at h4
    split at h4
    · cases h4
      cases h3 with
      | cons q r => cases r with
        | cons q' r =>
          cases r
          cases q with
          | lst hF ra => cases q' with
            | tup hF' ra' => exact ⟨_, _, _, _, rfl, SqL.of (h1.le _ _ hF), Same.seqT h1.le hF', h5 F μ H1 _ .refl h1 (good_zipX hF ra hF' ra')⟩
    · cases h4
end MM
namespace MM
open PySem PySem.Spec PyProof.Rows L2
/-! ### comprehensions of two fors -/
/-- the list at L is being made: acc so far -/
structure LcSt (K : PySem.W.Frag) (w : World) (F1 H1 : Hp) (μ1 : List Addr) (L : Addr) (ρ : Fr) (σ : L2.St) (F : Hp) (μ : List Addr) (S : Sto) (H : Hp) (acc : List D) (xs : List V) : Prop where
  rel : Rel K w F μ S H
  le : Same F1 F
  fr : RelFr K w F μ H ρ σ
  at_ : H L = some (.lst xs)
  nf : F L = none
  nm : L ∉ μ
  rep : RepAll K w F acc xs
  gr : Grow F1 H1 F H μ1 μ
section
variable {K : PySem.W.Frag} {w : World} {F1 H1 : Hp} {μ1 : List Addr} {L : Addr} {ρ ρ2 : Fr} {σ σ2 : L2.St} {F F' : Hp} {μ μ' : List Addr} {S S' : Sto} {H H' : Hp} {acc : List D} {xs : List V}
theorem LcSt.grow (z : LcSt K w F1 H1 μ1 L ρ σ F μ S H acc xs) (g : Grow F H F' H' μ μ') (r : Rel K w F' μ' S' H') : LcSt K w F1 H1 μ1 L ρ σ F' μ' S' H' acc xs := by
  refine ⟨r, z.le.trans g.f, z.fr.grow g, g.h _ _ z.at_ z.nm, ?_, fun hm => ?_, z.rep.mono g.f, z.gr.trans g⟩
  · cases q : F' L with
    | none => rfl
    | some u =>
      have := g.nf L (by rw [q]; exact fun z => nomatch z) z.nf z.nm
      exact absurd z.at_ (by rw [this]; exact fun z => nomatch z)
  · have := g.nm L hm z.nm
    exact absurd z.at_ (by rw [this]; exact fun z => nomatch z)
theorem LcSt.frame (z : LcSt K w F1 H1 μ1 L ρ σ F μ S H acc xs) (f : RelFr K w F μ H ρ2 σ2) : LcSt K w F1 H1 μ1 L ρ2 σ2 F μ S H acc xs := ⟨z.rel, z.le, f, z.at_, z.nf, z.nm, z.rep, z.gr⟩
theorem LcSt.push (z : LcSt K w F1 H1 μ1 L ρ σ F μ S H acc xs) (hD : H1 L = none) (noD : ∀ (j : Nat) (d : Cell), ρ[j]? = some (some (.own d)) → σ[j]? ≠ some (some (.ref L))) {y : D} {v : V} (h : Rep K w F y v) :
    LcSt K w F1 H1 μ1 L ρ σ F μ S (upd H L (.lst (xs ++ [v]))) (acc ++ [y]) (xs ++ [v]) :=
  ⟨z.rel.other z.nf z.nm, z.le, z.fr.other noD, upd_same, z.nf, z.nm, z.rep.append (.cons h .nil), ⟨z.gr.f, z.gr.p, fun a u e hm => by rw [upd_ne (fun q => by rw [q, hD] at e; cases e)]; exact z.gr.h a u e hm, z.gr.nf, z.gr.nm⟩⟩
end
section
variable {K : PySem.W.Frag} {w : World} {F1 H1 : Hp} {μ1 : List Addr} {L : Addr} {sl vs : List Nat} {t : TgM} {mt : TM} {me : EM}
/-- one turn of the innermost loop -/
theorem lc_turn {ρ : Fr} {σ : L2.St} {F : Hp} {μ : List Addr} {S S' : Sto} {H H2 : Hp} {acc : List D} {xs : List V} {d : D} {x : V} {ds : List D} {o : Out (List D)} {N : Hp → Prop} (sub : ∀ j ∈ sl, j ∈ vs) (hD : H1 L = none) (noD : ∀ (j : Nat) (d : Cell), ρ[j]? = some (some (.own d)) → σ[j]? ≠ some (some (.ref L)))
    (z : LcSt K w F1 H1 μ1 L ρ σ F μ S H acc xs) (hx : ∃ F3, Step F H F3 H2 ∧ Rep K w F3 d x) (e : lcL vs t mt me (d :: ds) acc ρ S = some (o, S')) (hN : ∀ F' μ S H acc xs, Same F F' → LcSt K w F1 H1 μ1 L ρ σ F' μ S H acc xs → lcL vs t mt me ds acc ρ S = some (o, S') → N H) :
    gM K w sl t x (wipe σ vs) H2 fun σ2 H2 => wipe σ2 vs = wipe σ vs ∧ tT K w noW mt σ2 H2 fun b H3 => if b = true then tE K w noW me σ2 H3 fun y H4 => ∃ acc, H4 L = some (.lst acc) ∧ acc.length < sizeLine ∧ N (upd H4 L (.lst (acc ++ [y]))) else N H3 := by
  obtain ⟨F3, st, rx⟩ := hx
  unfold lcL at e
  have z3 := z.grow st.grow (z.rel.step st)
  cases qt : t d (wipeF ρ vs) with
  | none => simp [qt] at e
  | some ρ1 =>
    simp only [qt] at e
    refine ⟨F3, μ, wipeF ρ vs, S, d, ρ1, z3.rel, z3.fr.wipe vs, rx, qt, fun σ2 T => ⟨wipe_same T.out T.len sub, F3, μ, ρ1, S, z3.rel, T.fr, ?_⟩⟩
    cases qb : mt ρ1 S with
    | none => simp [qb] at e
    | some rb =>
      obtain ⟨ob, S2⟩ := rb
      simp only [qb] at e
      cases ob with
      | ex c fs => simp at e
      | ok b =>
        refine ⟨.ok b, S2, rfl, fun F4 μ4 H4 v g4 r4 hv => ?_⟩
        obtain rfl := hv
        have z4 := z3.grow g4 r4
        cases b with
        | false => exact hN _ _ _ _ _ _ (st.f.trans g4.f) z4 e
        | true =>
          rw [if_pos rfl]
          simp only at e
          refine ⟨F4, μ4, ρ1, S2, r4, T.fr.grow g4, ?_⟩
          cases qe : me ρ1 S2 with
          | none => simp [qe] at e
          | some re =>
            obtain ⟨oe, S3⟩ := re
            simp only [qe] at e
            cases oe with
            | ex c fs => simp at e
            | ok y =>
              refine ⟨.ok y, S3, rfl, fun F5 μ5 H5 v5 g5 r5 z5 => ?_⟩
              have q5 := z4.grow g5 r5
              cases y with
              | loc n => simp at e
              | slot n => simp at e
              | d y =>
                simp only at e
                by_cases cl : acc.length < sizeLine
                · rw [if_pos cl] at e
                  exact ⟨xs, q5.at_, by rw [← q5.rep.length]; exact cl, hN _ _ _ _ _ _ ((st.f.trans g4.f).trans g5.f) (q5.push hD noD z5) e⟩
                · rw [if_neg cl] at e; cases e
/-- the innermost loop -/
theorem lc_walk {ρ : Fr} {σ : L2.St} {F : Hp} {μ : List Addr} {S S' : Sto} {H : Hp} {acc : List D} {xs : List V} {ds : List D} {o : Out (List D)} {J : It} {Nd : Hp → Prop} (sub : ∀ j ∈ sl, j ∈ vs) (hD : H1 L = none) (noD : ∀ (j : Nat) (d : Cell), ρ[j]? = some (some (.own d)) → σ[j]? ≠ some (some (.ref L)))
    (z : LcSt K w F1 H1 μ1 L ρ σ F μ S H acc xs) (gj : GoodJ K w F ds J) (e : lcL vs t mt me ds acc ρ S = some (o, S')) (hd : ∀ F' μ' H' acc' xs', Same F F' → LcSt K w F1 H1 μ1 L ρ σ F' μ' S' H' acc' xs' → o = .ok acc' → Nd H') :
    ∃ W : Nat → Nat → Hp → Prop, (∃ m, W 0 m H) ∧ ∀ i m H, W i m H → (J.stop i H ∧ Nd H) ∨ (J.go i H ∧ ∃ Nx : Hp → Prop, (∀ H', Nx H' → ∃ m', m' < m ∧ W (i + 1) m' H') ∧ ∀ x H', J.yld i H x H' → gM K w sl t x (wipe σ vs) H' fun σ2 H2 => wipe σ2 vs = wipe σ vs ∧ tT K w noW mt σ2 H2 fun b H3 =>
        if b = true then tE K w noW me σ2 H3 fun y H4 => ∃ acc, H4 L = some (.lst acc) ∧ acc.length < sizeLine ∧ Nx (upd H4 L (.lst (acc ++ [y]))) else Nx H3) := by
  let Pv : Nat → Hp → Prop := fun i H => ∃ F' μ S acc xs, Same F F' ∧ LcSt K w F1 H1 μ1 L ρ σ F' μ S H acc xs ∧ lcL vs t mt me (ds.drop i) acc ρ S = some (o, S')
  refine ⟨fun i m H => m = ds.length - i ∧ i ≤ ds.length ∧ Pv i H, ⟨ds.length, by simp, Nat.zero_le _, F, μ, S, acc, xs, Same.refl _, z, e⟩, ?_⟩
  rintro i m H ⟨rfl, hi, F', μ', S2, acc', xs', le, z', e'⟩
  have hle : Same F H := le.trans z'.rel.le
  by_cases hlt : i < ds.length
  · refine .inr ⟨gj.goes i H hlt hle, Pv (i + 1), fun H' p' => ⟨ds.length - (i + 1), by omega, rfl, hlt, p'⟩, fun x H2 y => ?_⟩
    obtain ⟨d, hd', hF⟩ := gj.yields i H x H2 hlt hle y
    have ed : ds.drop i = d :: ds.drop (i + 1) := by
      rw [List.drop_eq_getElem_cons hlt]
      congr 1
      rw [List.getElem?_eq_getElem hlt] at hd'
      exact Option.some.inj hd'
    rw [ed] at e'
    exact lc_turn sub hD noD z' (hF F' le z'.rel.le) e' fun F2 μ2 S3 H3 acc2 xs2 l2 z2 e2 => ⟨F2, μ2, S3, acc2, xs2, le.trans l2, z2, e2⟩
  · have e2 : i = ds.length := by omega
    subst e2
    rw [List.drop_length] at e'
    cases e'
    exact .inl ⟨gj.stops H hle, hd _ _ _ _ _ le z' rfl⟩

end
/-- .. by two fors -/
def lc2L (vs vs1 : List Nat) (t : TgM) (tt : TM) (mi1 : NM) (t1 : TgM) (tt1 : TM) (te : EM) : List D → List D → NM
  | [], acc => fun _ S => some (.ok acc, S)
  | d :: ds, acc => fun ρ S => match t d (wipeF ρ vs) with
    | none => none
    | some ρ1 => match tt ρ1 S with
      | some (.ok false, S1) => lc2L vs vs1 t tt mi1 t1 tt1 te ds acc ρ S1
      | some (.ok true, S1) => match mi1 ρ1 S1 with
        | some (.ok es, S2) => match lcL vs1 t1 tt1 te es acc ρ1 S2 with
          | some (.ok acc', S3) => lc2L vs vs1 t tt mi1 t1 tt1 te ds acc' ρ S3
          | _ => none
        | _ => none
      | _ => none
def lc2M (mi : NM) (vs vs1 : List Nat) (t : TgM) (tt : TM) (mi1 : NM) (t1 : TgM) (tt1 : TM) (te : EM) : NM := bindM mi fun ds => lc2L vs vs1 t tt mi1 t1 tt1 te ds []
section
variable {mi mi1 : NM} {sl sl1 : List Nat} {t t1 : TgM} {mt mt1 : TM} {me : EM}
theorem tLc2_ok {K : PySem.W.Frag} {w : World} {W : WX} {vs vs1 : List Nat} {σ : L2.St} {H : Hp} {Q : VK} (sub : ∀ j ∈ sl, j ∈ vs) (sub1 : ∀ j ∈ sl1, j ∈ vs1) (h : tN K w W (lc2M mi vs vs1 t mt mi1 t1 mt1 me) σ H Q) :
    tLc2 (iM K w W mi) (gM K w sl t) (tT K w noW mt) (iM K w noW mi1) (gM K w sl1 t1) (tT K w noW mt1) (tE K w noW me) vs vs1 σ H Q := by
  obtain ⟨F0, μ0, ρ, S0, h1, h2, o, S', h3, h4⟩ := h
  refine ⟨F0, μ0, ρ, S0, h1, h2, ?_⟩
  unfold lc2M bindM at h3
  cases q : mi ρ S0 with
  | none => rw [q] at h3; cases h3
  | some r =>
    obtain ⟨o1, S1⟩ := r
    rw [q] at h3
    cases o1 with
    | ex c fs => cases h3; exact ⟨_, _, rfl, h4⟩
    | ok ds =>
      refine ⟨.ok ds, S1, rfl, fun F1 μ1 H1 J g1 r1 gj L hL => ?_⟩
      obtain ⟨f1, m1⟩ := r1.fresh hL
      have fr1 := h2.grow g1
      have noD : ∀ (j : Nat) (d : Cell), ρ[j]? = some (some (.own d)) → σ[j]? ≠ some (some (.ref L)) := fun j d e1 e2 => by
        obtain ⟨a, k1, _, _, k4, _⟩ := fr1.own j d e1
        rw [k1] at e2
        cases e2
        exact k4 hL
      let Pv : Nat → Hp → Prop := fun i H => ∃ F μ S acc xs, LcSt K w F1 H1 μ1 L ρ σ F μ S H acc xs ∧ lc2L vs vs1 t mt mi1 t1 mt1 me (ds.drop i) acc ρ S = some (o, S')
      have z0 : LcSt K w F1 H1 μ1 L ρ σ F1 μ1 S1 (upd H1 L (.lst [])) [] [] :=
        ⟨r1.other f1 m1, Same.refl _, fr1.other noD, upd_same, f1, m1, .nil, ⟨Same.refl _, List.prefix_rfl, fun a u e _ => same_upd hL a u e, fun _ a b => absurd b a, fun a b c => absurd b c⟩⟩
      refine ⟨fun i m H => m = ds.length - i ∧ i ≤ ds.length ∧ Pv i H, ⟨ds.length, by simp, Nat.zero_le _, F1, μ1, S1, [], [], z0, h3⟩, ?_⟩
      rintro i m H ⟨rfl, hi, F, μ, S, acc, xs, z, e⟩
      have hle : Same F1 H := z.le.trans z.rel.le
      by_cases hlt : i < ds.length
      · refine .inr ⟨gj.goes i H hlt hle, Pv (i + 1), fun H' p' => ⟨ds.length - (i + 1), by omega, rfl, hlt, p'⟩, fun x H2 y => ?_⟩
        obtain ⟨d, hd', hF⟩ := gj.yields i H x H2 hlt hle y
        have ed : ds.drop i = d :: ds.drop (i + 1) := by
          rw [List.drop_eq_getElem_cons hlt]
          congr 1
          rw [List.getElem?_eq_getElem hlt] at hd'
          exact Option.some.inj hd'
        rw [ed] at e
        obtain ⟨F3, st, rx⟩ := hF F z.le z.rel.le
        unfold lc2L at e
        have z3 := z.grow st.grow (z.rel.step st)
        cases qt : t d (wipeF ρ vs) with
        | none => simp [qt] at e
        | some ρ1 =>
          simp only [qt] at e
          refine ⟨F3, μ, wipeF ρ vs, S, d, ρ1, z3.rel, z3.fr.wipe vs, rx, qt, fun σ2 T => ⟨wipe_same T.out T.len sub, F3, μ, ρ1, S, z3.rel, T.fr, ?_⟩⟩
          have noD1 : ∀ (j : Nat) (d : Cell), ρ1[j]? = some (some (.own d)) → σ2[j]? ≠ some (some (.ref L)) := fun j d e1 e2 => by
            obtain ⟨k1, k2⟩ := T.ow j d L e1 e2
            rw [wipeF_at] at k1
            have k3 := (wipe_some k2).1
            by_cases hm : j ∈ vs
            · rw [if_pos hm] at k1
              split at k1 <;> cases k1
            · rw [if_neg hm] at k1
              exact noD j d k1 k3
          cases qb : mt ρ1 S with
          | none => simp [qb] at e
          | some rb =>
            obtain ⟨ob, S2⟩ := rb
            simp only [qb] at e
            cases ob with
            | ex c fs => simp at e
            | ok b =>
              refine ⟨.ok b, S2, rfl, fun F4 μ4 H4 v g4 r4 hv => ?_⟩
              obtain rfl := hv
              have z4 := z3.grow g4 r4
              cases b with
              | false => exact ⟨F4, μ4, S2, acc, xs, z4, e⟩
              | true =>
                rw [if_pos rfl]
                simp only at e
                have fr4 := T.fr.grow g4
                refine ⟨F4, μ4, ρ1, S2, r4, fr4, ?_⟩
                cases qe : mi1 ρ1 S2 with
                | none => simp [qe] at e
                | some re =>
                  obtain ⟨oe, S3⟩ := re
                  simp only [qe] at e
                  cases oe with
                  | ex c fs => simp at e
                  | ok es =>
                    refine ⟨.ok es, S3, rfl, fun F5 μ5 H5 J1 g5 r5 gj1 => ?_⟩
                    have z5 := z4.grow g5 r5
                    simp only at e
                    cases ql : lcL vs1 t1 mt1 me es acc ρ1 S3 with
                    | none => simp [ql] at e
                    | some rl =>
                      obtain ⟨ol, S6⟩ := rl
                      simp only [ql] at e
                      refine lc_walk (F1 := F1) (H1 := H1) (μ1 := μ1) (L := L) sub1 hL noD1 (z5.frame (fr4.grow g5)) gj1 ql fun F6 μ6 H6 acc6 xs6 le6 z6 eo => ?_
                      subst eo
                      simp only at e
                      exact ⟨F6, μ6, S6, acc6, xs6, z6.frame (fr1.grow z6.gr), e⟩
      · have e2 : i = ds.length := by omega
        subst e2
        rw [List.drop_length] at e
        cases e
        refine .inl ⟨gj.stops H hle, h4 F μ H L xs (g1.trans z.gr) z.rel z.at_ z.nf z.nm ?_ z.rep⟩
        exact g1.back hL m1
/-- [e for x in xs if t for y in ys if u], a new list -/
theorem mn_lc2 {X : Cx} {W : WX} {elt tg iter tg1 iter1 : Expr} {ifs ifs1 : List Expr} {scope : Scope} {own : List (Str × Nat)} {vs1 : List Nat} {pos : Pos} (hc : X.calm = true) (hN : X.N.Nodup) (hi : MI X W tg iter mi) (ok : BlkOk X.N X.env.scope scope own) (hv : ∀ i ∈ vs1, i ∈ own.map (·.2)) (sub : ∀ j ∈ sl, j ∈ own.map (·.2)) (sub1 : ∀ j ∈ sl1, j ∈ vs1)
    (hg : ∀ (s : Shared) (H : Hp) (C : Addr) (cl : List (Str × Addr)) (fp : List Addr), MG (X.blk s H scope (compEnvC scope cl C X.env) fp) tg sl t)
    (ht : ∀ (s : Shared) (H : Hp) (C : Addr) (cl : List (Str × Addr)) (fp : List Addr), PTs (X.blk s H scope (compEnvC scope cl C X.env) fp) ifs (tT X.K X.w noW mt))
    (hi1 : ∀ (s : Shared) (H : Hp) (C : Addr) (cl : List (Str × Addr)) (fp : List Addr), MI (X.blk s H scope (compEnvC scope cl C X.env) fp) noW tg1 iter1 mi1)
    (hg1 : ∀ (s : Shared) (H : Hp) (C : Addr) (cl : List (Str × Addr)) (fp : List Addr), MG (X.blk s H scope (compEnvC scope cl C X.env) fp) tg1 sl1 t1)
    (ht1 : ∀ (s : Shared) (H : Hp) (C : Addr) (cl : List (Str × Addr)) (fp : List Addr), PTs (X.blk s H scope (compEnvC scope cl C X.env) fp) ifs1 (tT X.K X.w noW mt1))
    (he : ∀ (s : Shared) (H : Hp) (C : Addr) (cl : List (Str × Addr)) (fp : List Addr), ME (X.blk s H scope (compEnvC scope cl C X.env) fp) noW elt me) (hs : ∀ x, foldedSetIterable iter X.env x = pure x := by intro _; rfl) (hs1 : ∀ env x, foldedSetIterable iter1 env x = pure x := by intro _ _; rfl) :
    MN X W (.ListComp elt [⟨tg, iter, ifs, 0⟩, ⟨tg1, iter1, ifs1, 0⟩] scope pos) (lc2M mi (own.map (·.2)) vs1 t mt mi1 t1 mt1 me) :=
  PE.imp (pe_lc2 hc hN hi ok hv hg ht hi1 hg1 ht1 he hs hs1) fun σ H Q h => tLc2_ok sub sub1 h
end
end MM
namespace MM
open PySem PySem.Spec PyProof.Rows L2

/-! ### lambdas: making one -/
theorem lamO_at {P : Program} {w : World} {H : Hp} {h : Heap} {f : Addr} {L : NdefX.NF} {b : Expr} (hok : HOk P w H h) (e : H f = some (LamO f L b)) :
    ∃ (od : Option Addr) (sl : Array (Option Value)) (pm ctv : Value), h.get? f = some (⟨.type "function", od, .func (PySem.W.kla_fn "<lambda>" L.qual L.params b L.scope L.cl pm (.ref L.c) ctv), sl⟩ : Obj) := by
  obtain ⟨z, _, _⟩ := hok f _ e
  exact z
/-- the lambda of this scope made here -/
abbrev lamNF (X : Cx) (params : Arguments) (scope : Scope) (c' : Addr) : NdefX.NF := ⟨"<lambda>", X.env.qual ++ "<lambda>", params, [], scope, cloFrom X.env.cells scope.names [], c'⟩
section
variable {X : Cx} {pins : List (Addr × Obj)} {σ : L2.St} {H : Hp} {s : Shared}
theorem inv_lam {L : NdefX.NF} {b : Expr} {o : Obj} {t' : Nat} {pm ctv : Value} (I : Inv X pins σ H s) (ho : o = { cls := .type "function", data := .func (PySem.W.kla_fn "<lambda>" L.qual L.params b L.scope L.cl pm (.ref L.c) ctv) }) :
    Inv X pins σ (upd H s.heap.objs.size (LamO s.heap.objs.size L b)) { s with heap := s.heap.push o, toks := t' } := by
  subst ho
  refine I.laid (a := s.heap.objs.size) (fun b u e => Heap.get?_push_of_some _ e) (Nat.le_refl _) ?_
  have e : (s.heap.push ({ cls := .type "function", data := .func (PySem.W.kla_fn "<lambda>" L.qual L.params b L.scope L.cl pm (.ref L.c) ctv) } : Obj)).get? s.heap.objs.size = some ({ cls := .type "function", data := .func (PySem.W.kla_fn "<lambda>" L.qual L.params b L.scope L.cl pm (.ref L.c) ctv) } : Obj) := Heap.get?_push_size _ rfl
  exact ⟨⟨_, _, pm, ctv, e⟩, ⟨_, e⟩, fun h1 h2 ⟨od, sl, p, t, z⟩ st => ⟨od, sl, p, t, st _ z⟩⟩
/-- what the making of a lambda leaves -/
structure LamMade (X : Cx) (H : Hp) (P : Addr) (ps : Array Value) (params : Arguments) (scope : Scope) (body : Expr) (f c' : Addr) (H1 : Hp) : Prop where
  fP : f ≠ P
  cP : c' ≠ P
  fc : f ≠ c'
  hf : H f = none
  hc : H c' = none ∨ ((∃ pos : Pos, codeAmong pos ps.toList = some (.ref c')) ∧ H c' = some (LamX.CodeO c' (X.env.qual ++ "<lambda>")))
  rest : ∀ b, b ≠ P → b ≠ f → b ≠ c' → H1 b = H b
  tab : ∃ ps' : Array Value, H1 P = some (.tbl ps') ∧ TriplesOk ps'.toList ∧ ∀ (pos : Pos) (cv : Value), codeAmong pos ps'.toList = some cv → cv = .ref c' ∨ codeAmong pos ps.toList = some cv
  f1 : H1 f = some (LamO f (lamNF X params scope c') body)
  c1 : H1 c' = some (LamX.CodeO c' (X.env.qual ++ "<lambda>"))
theorem lam_make {c P : Addr} {ps : Array Value} {params : Arguments} {body : Expr} {scope : Scope} {pos : Pos} {E : Value → Shared → Prop} {Q : Value → Shared → Prop} (I : Inv X pins σ H s) (TB : LamX.TabB X.base X.mg c P) (hcode : X.env.code = .ref c)
    (hP : H P = some (.tbl ps)) (ht : TriplesOk ps.toList) (ha : ∀ (pos : Pos) (cv : Value), codeAmong pos ps.toList = some cv → ∃ c, cv = .ref c ∧ H c = some (LamX.CodeO c (X.env.qual ++ "<lambda>"))) (hdef : defaultsOf params X.env = ([], [])) (hfree : ∀ y ∈ scope.names, y.2 = .free → ∃ c, X.env.cells.lookup y.1 = some c)
    (h : ∀ (f c' : Addr) (H1 : Hp) (s' : Shared), Inv X pins σ H1 s' → LamMade X H P ps params scope body f c' H1 → Q (.ref f) s') :
    wpAny (model X.prog X.w) X.A (eval (.Lambda params body scope pos) X.env) Q E s := by
  refine PySem.W.kla_eval hdef ?_
  have bP : s.heap.BuiltinsAt X.mg P := TB.bm.keeps I.bk
  have hP' : s.heap.get? P = some { cls := .none, data := .fields ps } := I.hok P _ hP
  cases hc : codeAmong pos ps.toList with
  | none =>
    refine PySem.W.kla_makeFunction (mg := X.mg) (c := c) (P := P) (ps := ps) (closure_ok hfree) I.ok.glob (I.mod.glob.keeps I.bk) hcode (TB.code.keeps I.bk) hP' ht hc TB.gP bP fun c' ctv h' tk hx hge hlt hrec htb => ?_
    obtain ⟨c2, oc, vs, t, e2, hoc, hd, hv⟩ := hrec
    cases e2
    have hsz : s.heap.objs.size ≤ h'.objs.size := Nat.le_trans hge (Nat.le_of_lt hlt)
    have nC : H c' = none := I.hok.fresh hge
    have nF : H h'.objs.size = none := I.hok.fresh hsz
    have cP : c' ≠ P := fun z => by rw [z, hP] at nC; cases nC
    have fP : h'.objs.size ≠ P := fun z => by rw [z, hP] at nF; cases nF
    have fc : h'.objs.size ≠ c' := Nat.ne_of_gt hlt
    have I1 := LamX.inv_table (t' := tk) (more := #[rawInt pos.line, rawInt pos.col, .ref c']) (h' := h') (q := X.env.qual ++ "<lambda>") I hP (fun b o hb e => hx b o hb e) htb hge ⟨oc, vs, t, hoc, hd, hv⟩
    have I2 := inv_lam (L := lamNF X params scope c') (b := body) (t' := tk) (pm := (X.mg "__name__").getD .none) (ctv := ctv) I1 rfl
    have eL : (ps ++ #[rawInt pos.line, rawInt pos.col, .ref c']).toList = ps.toList ++ [rawInt pos.line, rawInt pos.col, .ref c'] := by simp
    refine h h'.objs.size c' _ _ I2 ⟨fP, cP, fc, nF, .inl nC, fun b h1 h2 h3 => ?_, ⟨_, ?_, by rw [eL]; exact PySem.TriplesOk_snoc _ _ _ _ ht, fun p' cv hcv => ?_⟩, upd_same, ?_⟩
    · exact (upd_ne h2).trans ((upd_ne h3).trans (upd_ne h1))
    · exact (upd_ne fP.symm).trans ((upd_ne cP.symm).trans upd_same)
    · rw [eL] at hcv
      exact (LamX.among_app _ ht hcv).symm
    · exact (upd_ne fc.symm).trans upd_same
  | some cv =>
    obtain ⟨c', e, hco⟩ := ha pos cv hc
    subst e
    refine PySem.W.kla_makeFunctionHit (mg := X.mg) (c := c) (P := P) (ps := ps) (closure_ok hfree) I.ok.glob (I.mod.glob.keeps I.bk) hcode (TB.code.keeps I.bk) hP' ht hc bP fun ctv h' tk hx hsz => ?_
    have I1 : Inv X pins σ H { s with heap := h', toks := tk } := I.kept hx
    have nF : H h'.objs.size = none := I1.hok.fresh (Nat.le_refl _)
    have I2 := inv_lam (L := lamNF X params scope c') (b := body) (t' := tk) (pm := (X.mg "__name__").getD .none) (ctv := ctv) I1 rfl
    have cP : c' ≠ P := fun z => by rw [z, hP] at hco; exact LamX.codeO_ne _ (Option.some.inj hco).symm
    have fP : h'.objs.size ≠ P := fun z => by rw [z, hP] at nF; cases nF
    have fc : h'.objs.size ≠ c' := fun z => by rw [z, hco] at nF; cases nF
    refine h h'.objs.size c' _ _ I2 ⟨fP, cP, fc, nF, .inr ⟨⟨pos, hc⟩, hco⟩, fun b _ h2 _ => upd_ne h2, ⟨ps, (upd_ne fP.symm).trans hP, ht, fun p' cv hcv => .inr hcv⟩, upd_same, (upd_ne fc.symm).trans hco⟩
end
section
variable {K : PySem.W.Frag} {w : World} {F F' H H' : Hp} {μ μ' : List Addr} {S S' : Sto}
theorem CellOk.keep {a : Addr} {c : Cell} (sf : Same F F') (hh : H' a = H a) (nf : F a = none → F' a = none) (k : CellOk K w F μ H a c) : CellOk K w F' μ H' a c := by
  cases c with
  | lst ds => obtain ⟨h1, xs, h2, r⟩ := k; exact ⟨nf h1, xs, hh.trans h2, r.mono sf⟩
  | dic kvs => obtain ⟨h1, xs, h2, r⟩ := k; exact ⟨nf h1, xs, hh.trans h2, r.mono sf⟩
  | dit kvs => obtain ⟨h1, o, xs, h2, r, z⟩ := k; exact ⟨nf h1, o, xs, hh.trans h2, r.mono sf, z⟩
  | ins C fs => obtain ⟨h1, dx, vs, h2, r⟩ := k; exact ⟨nf h1, dx, vs, hh.trans h2, r.mono sf List.prefix_rfl⟩
  | frz x => exact Rep.mono sf k
  | tab x => obtain ⟨h1, e, ps, h2, h3, h4⟩ := k; exact ⟨nf h1, e, ps, hh.trans h2, h3, fun pos cv q => (h4 pos cv q).imp fun c z => ⟨z.1, sf _ _ z.2⟩⟩
theorem lam_rel {X : Cx} {P : Addr} {ps : Array Value} {params : Arguments} {scope : Scope} {body : Expr} {f c' : Addr} {x : Str} {n : Nat} (r : Rel K w F μ S H) (hn : μ[n]? = some P) (hS : S[n]? = some (.tab x)) (hx : x ++ ".<locals>.<lambda>" = X.env.qual ++ "<lambda>") (hP : H P = some (.tbl ps)) (m : LamMade X H P ps params scope body f c' H') :
    ∃ F', Grow F H F' H' μ μ ∧ Rel K w F' μ S H' ∧ F' f = some (LamO f (lamNF X params scope c') body) ∧ F' c' = some (LamX.CodeO c' (X.env.qual ++ "<lambda>")) := by
  have kT := r.cell n P _ hn hS
  obtain ⟨fP0, eP, ps0, hP0, _, h4⟩ := kT
  rw [hP] at hP0
  cases hP0
  rw [hx] at h4
  have hFf : F f = none := r.le.free m.hf
  have hFc : F c' = none ∨ F c' = some (LamX.CodeO c' (X.env.qual ++ "<lambda>")) := by
    rcases m.hc with z | ⟨⟨pos, z⟩, _⟩
    · exact .inl (r.le.free z)
    · obtain ⟨c0, e, h⟩ := h4 pos _ z
      cases e
      exact .inr h
  have hpm : P ∈ μ := List.mem_of_getElem? hn
  refine ⟨upd (upd F c' (LamX.CodeO c' (X.env.qual ++ "<lambda>"))) f (LamO f (lamNF X params scope c') body), ?_⟩
  have at_ : ∀ b, b ≠ f → b ≠ c' → upd (upd F c' (LamX.CodeO c' (X.env.qual ++ "<lambda>"))) f (LamO f (lamNF X params scope c') body) b = F b := fun b h1 h2 => (upd_ne h1).trans (upd_ne h2)
  have at_c : upd (upd F c' (LamX.CodeO c' (X.env.qual ++ "<lambda>"))) f (LamO f (lamNF X params scope c') body) c' = some (LamX.CodeO c' (X.env.qual ++ "<lambda>")) := (upd_ne m.fc.symm).trans upd_same
  have sf : Same F (upd (upd F c' (LamX.CodeO c' (X.env.qual ++ "<lambda>"))) f (LamO f (lamNF X params scope c') body)) := fun b u q => by
    have h1 : b ≠ f := ne_of_none q hFf
    by_cases h2 : b = c'
    · subst h2
      rcases hFc with z | z
      · rw [z] at q; cases q
      · rw [at_c, ← z]; exact q
    · rw [at_ b h1 h2]; exact q
  have le : Same (upd (upd F c' (LamX.CodeO c' (X.env.qual ++ "<lambda>"))) f (LamO f (lamNF X params scope c') body)) H' := fun b u q => by
    by_cases h1 : b = f
    · subst h1; rw [upd_same] at q; rw [m.f1]; exact q
    · by_cases h2 : b = c'
      · subst h2; rw [at_c] at q; rw [m.c1]; exact q
      · rw [at_ b h1 h2] at q
        have h3 : b ≠ P := ne_of_none q fP0
        rw [m.rest b h3 h1 h2]
        exact r.le b u q
  refine ⟨⟨sf, List.prefix_rfl, fun a o e ha => ?_, fun a h1 h2 ha => ?_, fun a h1 h2 => absurd h1 h2⟩, ⟨le, r.nd, r.len, fun a ha => ?_, fun i a c h1 h2 => ?_⟩, upd_same, at_c⟩
  · have h1 : a ≠ f := ne_of_none e m.hf
    have h3 : a ≠ P := fun z => ha (by rw [z]; exact hpm)
    by_cases h2 : a = c'
    · subst h2
      rcases m.hc with z | ⟨_, z⟩
      · rw [z] at e; cases e
      · rw [m.c1, ← z]; exact e
    · rw [m.rest a h3 h1 h2]; exact e
  · by_cases q1 : a = f
    · rw [q1]; exact m.hf
    · by_cases q2 : a = c'
      · subst q2
        rcases m.hc with z | ⟨⟨pos, z⟩, _⟩
        · exact z
        · obtain ⟨c0, e, h⟩ := h4 pos _ z
          cases e
          rw [h2] at h; cases h
      · rw [at_ a q1 q2] at h1; exact absurd h2 h1
  · by_cases h3 : a = P
    · obtain ⟨ps', z, _⟩ := m.tab
      rw [h3, z]; exact fun z => nomatch z
    · by_cases q1 : a = f
      · rw [q1, m.f1]; exact fun z => nomatch z
      · by_cases q2 : a = c'
        · rw [q2, m.c1]; exact fun z => nomatch z
        · rw [m.rest a h3 q1 q2]; exact r.there a ha
  · by_cases hi : i = n
    · subst hi
      rw [hn] at h1; cases h1
      rw [hS] at h2; cases h2
      obtain ⟨ps', z1, z2, z3⟩ := m.tab
      refine ⟨by rw [at_ P m.fP.symm m.cP.symm]; exact fP0, eP, ps', z1, z2, fun pos cv q => ?_⟩
      rw [hx]
      rcases z3 pos cv q with z | z
      · exact ⟨c', z, at_c⟩
      · obtain ⟨c0, e1, e2⟩ := h4 pos cv z
        exact ⟨c0, e1, sf _ _ e2⟩
    · have na : a ≠ P := fun z => by
        subst z
        exact hi ((List.getElem?_inj (List.getElem?_eq_some_iff.mp h1).1 r.nd).mp (h1.trans hn.symm))
      have th := r.there a (List.mem_of_getElem? h1)
      have q1 : a ≠ f := fun z => th (by rw [z]; exact m.hf)
      have k := r.cell i a c h1 h2
      by_cases q2 : a = c'
      · subst q2
        rcases m.hc with z | ⟨⟨pos, z⟩, zh⟩
        · exact absurd z th
        · obtain ⟨c0, e, h⟩ := h4 pos _ z
          cases e
          refine k.keep sf (by rw [m.c1, zh]) fun z2 => ?_
          rw [h] at z2; cases z2
      · exact k.keep sf (m.rest a na q1 q2) fun z => by rw [at_ a q1 q2]; exact z
end
end MM
namespace MM
open PySem PySem.Spec PyProof.Rows L2

/-! ### lambdas: calling one -/
def outM (K : PySem.W.Frag) (w : World) (res : Option (Out R × Sto)) (F : Hp) (μ : List Addr) (H : Hp) (Q : VK) (E : XK) : Prop := ∃ o S', res = some (o, S') ∧ match o with
  | .ok r => ∀ F' μ' H' v, Grow F H F' H' μ μ' → Rel K w F' μ' S' H' → RepR K w F' μ' [] r v → Q v H'
  | .ex c fs => ∀ F' μ' H' d, Grow F H F' H' μ μ' → Rel K w F' μ' S' H' → ExD K w F' d fs → E (.ref (He.ga K c)) d H'
def frameL (rs : List R) (caps : List D) : Fr := rs.map (fun r => some (.r r)) ++ caps.map (fun d => some (.r (.d d)))
def lamFM (np : Nat) (m : EM) (caps : List D) : FM := fun rs S => if rs.length = np ∧ closedRs rs = true then match m (frameL rs caps) S with
  | some (.ok r, S') => if closedR r = true then some (.ok r, S') else none
  | some (.ex c fs, S') => some (.ex c fs, S')
  | none => none
  else none
structure LOk (P : Program) (w : World) (K : PySem.W.Frag) (mg : Str → Option Value) (base : Heap) (k : Nat) (L : NdefX.NF) (b : Expr) (fr : List Str) (n : Nat) (G : List D → FM) : Prop where
  run : ∀ (f : Addr) (A : Around) (outer : List Env) (s : Shared) (H : Hp) (us : List Value) (vs : List V) (ws : List V) (caps : List D) (F : Hp) (μ : List Addr) (S : Sto) (rs : List R) (Q : VK) (E : XK), Room k A → Env0 P w K mg base A outer s H →
    H f = some (LamO f L b) → H L.c = some (LamX.CodeO L.c L.qual) → NdefX.CellsAt L.cl fr (ws.map some) s.heap H → Vals vs us → Rel K w F μ S H → RepAll K w F caps ws → RepRs K w F μ [] rs vs → rs.length = n → outM K w (G caps rs S) F μ H Q E →
    codeAny (model P w) A (.call (.ref f) ⟨us, []⟩) (CR (L2.CX P w) outer P w H s Q E) s
theorem frameL_start {K : PySem.W.Frag} {w : World} {F H : Hp} {μ : List Addr} {rs : List R} {vs : List V} {caps : List D} {ws : List V} {N : List Str} (h : RepRs K w F μ [] rs vs) (hc : RepAll K w F caps ws) (hN : N.length = rs.length + caps.length) :
    RelFr K w F μ H (frameL rs caps) (NdefX.startF N vs (ws.map some)) := by
  have hl := h.length
  have hl2 := hc.length
  have hz : N.length - vs.length - (ws.map some).length = 0 := by rw [List.length_map]; omega
  have own : ∀ (i : Nat) (c : Cell), (frameL rs caps)[i]? ≠ some (some (.own c)) := fun i c e => by
    unfold frameL at e
    by_cases q : i < rs.length
    · rw [List.getElem?_append_left (by simpa using q), List.getElem?_map] at e
      cases z : rs[i]? with
      | none => rw [z] at e; cases e
      | some r => rw [z] at e; cases e
    · rw [List.getElem?_append_right (by simpa using Nat.le_of_not_lt q), List.getElem?_map] at e
      cases z : caps[i - (rs.map (fun r => some (Ent.r r))).length]? with
      | none => rw [z] at e; cases e
      | some r => rw [z] at e; cases e
  refine ⟨?_, fun i y e => ?_, fun i c e => absurd e (own i c), fun i j c d a e => absurd e (own i c)⟩
  · unfold NdefX.startF frameL
    rw [hz]
    simp [hl, hl2]
  · unfold frameL at e
    unfold NdefX.startF
    rw [hz, List.replicate_zero, List.append_nil]
    by_cases q : i < rs.length
    · rw [List.getElem?_append_left (by simpa using q), List.getElem?_map] at e
      rw [List.getElem?_append_left (by simpa [← hl] using q), List.getElem?_map]
      cases z : rs[i]? with
      | none => rw [z] at e; cases e
      | some r =>
        rw [z] at e
        cases e
        obtain ⟨v, h1, h2⟩ := repRs_get h z
        exact ⟨v, by rw [h1]; rfl, h2⟩
    · rw [List.getElem?_append_right (by simpa using Nat.le_of_not_lt q), List.getElem?_map, List.length_map] at e
      rw [List.getElem?_append_right (by simpa [← hl] using Nat.le_of_not_lt q), List.length_map, List.getElem?_map, ← hl]
      cases z : caps[i - rs.length]? with
      | none => rw [z] at e; cases e
      | some d =>
        rw [z] at e
        cases e
        obtain ⟨v, h1, h2⟩ := hc.get z
        exact ⟨v, by rw [h1]; rfl, h2⟩
section
variable {P : Program} {w : World} {K : PySem.W.Frag} {mg : Str → Option Value} {base : Heap}
abbrev XLam (P : Program) (w : World) (K : PySem.W.Frag) (mg : Str → Option Value) (base : Heap) (N : List Str) (L : NdefX.NF) (f : Addr) (A : Around) (outer : List Env) (s : Shared) (H : Hp) (E : XK) : Cx := NdefX.ncx (L2.CX P w) P w K mg base N L f A outer s H E
theorem lok_of {N ps fr : List Str} {L : NdefX.NF} {b : Expr} {k : Nat} {m : EM} (S : NdefX.NScope N ps fr L.scope) (hN : N.length = ps.length + fr.length)
    (hb : ∀ (pm ctv : Value) (us : List Value), us.length = ps.length → bindArgs (PySem.W.kla_fn "<lambda>" L.qual L.params b L.scope L.cl pm (.ref L.c) ctv) ⟨us, []⟩ = pure (ps.zip us))
    (hbody : ∀ (f : Addr) (A : Around) (outer : List Env) (s : Shared) (H : Hp) (E : XK), Room k (A.deeper (NdefX.envF L f s.heap.objs.size)) → Takes (XLam P w K mg base N L f A outer s H E) (fun cls d _ H => E cls d H) →
      ME (XLam P w K mg base N L f A outer s H E) (fun cls d _ H => E cls d H) b m) :
    LOk P w K mg base (k + 1) L b fr ps.length (lamFM ps.length m) := by
  refine ⟨fun f A outer s H us vs ws caps F μ S0 rs Q E hr e0 hf hc C r rel hcap hrs hn hout => ?_⟩
  have hl : vs.length = ps.length := by rw [← hrs.length]; exact hn
  have lim : s.heap.NoLimit := e0.mod.nolimit.keeps fun b o e => (e0.bs b o e).1
  obtain ⟨od, sl, pm, ctv, ho⟩ := lamO_at e0.hok hf
  refine PySem.W.kla_callFunE hr.depth ho rfl S.co S.gen rfl (NdefX.codeO_at e0.hok hc) ?_
  rw [hb pm ctv us (by rw [← r.length]; exact hl)]
  refine wpAny_pure (wpAny_newFunctionEnv S.nocell (fun ⟨n, _⟩ hy => S.par n (List.of_mem_zip hy).1) (fun h₁ hns hsb => ⟨lim.fresh _ hsb, ?_⟩) S.kind)
  show codeAny _ _ (.expr b (NdefX.envF L f s.heap.objs.size)) _ _
  have kp : ∀ b o, s.heap.get? b = some o → h₁.get? b = some o := fun b o e => hsb.extBut b o (Nat.ne_of_lt (Heap.lt_size e)) (Heap.get?_push_of_some _ e)
  have I : Inv (XLam P w K mg base N L f A outer s H E) [] (NdefX.startF N vs (ws.map some)) H { s with heap := h₁, toks := s.toks + (ps.zip us).length } := NdefX.inv_startN S hr.hd e0 hl r C hns kp
  have hB := hbody f A outer s H E (hr.deeper _) (takes_of rfl rfl rfl rfl)
  have clen := C.len
  rw [List.length_map] at clen
  obtain ⟨o, S', h4, h5⟩ := hout
  unfold lamFM at h4
  by_cases c : rs.length = ps.length ∧ closedRs rs = true
  · rw [if_pos c] at h4
    have frm : RelFr K w F μ H (frameL rs caps) (NdefX.startF N vs (ws.map some)) := frameL_start hrs hcap (by rw [hN, hn, hcap.length, clen])
    refine PySem.W.kla_codeExpr (wpAny_mono (hB.run [] _ _ H Q I ⟨F, μ, frameL rs caps, S0, rel, frm, ?_⟩) (fun v s' hq => ?_) fun e s' hq => hq)
    · cases q : m (frameL rs caps) S0 with
      | none => simp [q] at h4
      | some r1 =>
        obtain ⟨o1, S1⟩ := r1
        simp only [q] at h4
        refine ⟨o1, S1, rfl, ?_⟩
        cases o1 with
        | ok x =>
          simp only at h4
          by_cases cc : closedR x = true
          · rw [if_pos cc] at h4; cases h4
            exact fun F' μ' H' v g rl z => h5 F' μ' H' v g rl (z.closed cc [])
          · rw [if_neg cc] at h4; cases h4
        | ex cn fs =>
          simp only at h4
          cases h4
          exact fun F' μ' H' d g rl z => h5 F' μ' H' d g rl z
    · obtain ⟨w', H', J, rv, q⟩ := hq
      exact ⟨w', H', J.os, J.bare, J.base, J.hok, rv, q⟩
  · rw [if_neg c] at h4; cases h4
/-- the value of this data, called with n arguments, does what g says; h, H: the frame's entry, fs: the frames around -/
def ActL (P : Program) (w : World) (K : PySem.W.Frag) (mg : Str → Option Value) (base : Heap) (k n : Nat) (h : Heap) (H : Hp) (fs : List Addr) (d : D) (g : FM) : Prop :=
  (∃ x, d = .gl x ∧ Cl P w K mg base k x n g ∧ mg x = some (.ref (He.ga K x))) ∨
  ∃ t f L b ws caps fr G, d = .clo t f L b ws caps ∧ g = G caps ∧ LOk P w K mg base k L b fr n G ∧ NdefX.CellsAt L.cl fr (ws.map some) h H ∧ ∀ y c, L.cl.lookup y = some c → c ∉ fs
end
def callL (i n : Nat) (tb : D → Option FM) (ms : AM) : EM := fun ρ S => match ρ[i]? with
  | some (some (.r (.d d))) => match tb d with
    | some g => callN n g ms ρ S
    | none => none
  | _ => none
section
variable {X : Cx} {W : WX} {e : Expr} {es : List Expr} {ms : AM} {pos p : Pos}
theorem me_callL {i j k n : Nat} {x : Str} {tb : D → Option FM} (hA : ∀ d g, tb d = some g → ActL X.prog X.w X.K X.mg X.base k n X.s_0.heap X.H_0 X.fs d g) (hr : Room j X.A) (hk : k ≤ j) (tk : Takes X W) (ha : MA X W (e :: es) ms)
    (hN : X.N[i]? = some x) (hv : Vis X.env.scope x) (hex : X.ex = [] := by rfl) (hdb : (x == ("__debug__" : Str)) = false := by decide) (hcd : (x == ("__classdict__" : Str)) = false := by decide)
    (he : starEach (e :: es) X.env = (false, eval e X.env) :: starEach es X.env := by rfl) (hpl : (backTo pos (starEach es X.env)).any (·.1) = false := by rfl) : ME X W (.Call (.Name x p) (e :: es) [] pos) (callL i n tb ms) := by
  refine ⟨fun pins s σ H Q I h => ?_⟩
  obtain ⟨F, μ, ρ, S, rel, fr, h⟩ := h
  unfold callL at h
  split at h
  · rename_i d hd
    split at h
    · rename_i g hg
      obtain ⟨v, hs, hv0⟩ := fr.r i _ hd
      have hrep : Rep X.K X.w F d v := hv0
      have hm : core X.K X.w (fun σ F μ => RepR X.K X.w F μ σ) W (callN n g ms) σ H Q := ⟨F, μ, ρ, S, rel, fr, h⟩
      have hm2 := core_bind (Ra := fun σ F μ => RepRs X.K X.w F μ σ) hm
      rcases hA d g hg with ⟨y, rfl, c, hmg⟩ | ⟨t, f, L, b, ws, caps, fr0, G, rfl, rfl, lo, C, hnf⟩
      · cases hrep
        obtain ⟨a, fd, ps, Fo, hm', hkp, hb⟩ := c.ex
        rw [hmg] at hm'
        cases hm'
        refine wpAny_Call_Name_kw (thn ((pe_var (pos := p) hN hv hdb hcd).run pins s σ H (fun v H1 => v = .ref (He.ga X.K y) ∧ H1 = H) I ⟨.ref (He.ga X.K y), hs, rfl, rfl⟩) fun u s1 ⟨v, H1, I1, r1, q1⟩ => ?_)
        obtain ⟨rfl, rfl⟩ := q1
        cases r1
        refine PySem.W.callWith_K (h₀ := X.base) I.ok.mod.kin hkp (thn (ha.run pos pins s1 σ _ _ I1 hm2) fun us s2 ⟨vs, H2, I2, r, as, F2, μ2, ρ2, S2, k1, k2, k3, k4⟩ => ⟨I2.kIn, ?_⟩) he hpl
        by_cases cl : as.length = n
        · simp only [cl, if_true] at k4
          exact run_fnS (E := WE W) Fo (hr.mono hk) hb (passAt tk σ) I2 r (app_ok k1 k3 cl k4)
        · simp only [cl, if_false] at k4; exact k4.none_
      · cases hrep with
        | clo f1 c1 ra =>
        refine wpAny_Call_Name_kw (thn ((pe_var (pos := p) hN hv hdb hcd).run pins s σ H (fun v H1 => v = .ref f ∧ H1 = H) I ⟨.ref f, hs, rfl, rfl⟩) fun u s1 ⟨v, H1, I1, r1, q1⟩ => ?_)
        obtain ⟨rfl, rfl⟩ := q1
        cases r1
        have fnAt : ∀ {s : Shared} {H : Hp}, Inv X pins σ H s → H f = some (LamO f L b) → PySem.W.FnAt f s.heap := fun I e => by
          obtain ⟨od, sl, pm, ctv, ho⟩ := lamO_at I.hok e
          exact ⟨_, od, _, sl, ho⟩
        have hF1 := rel.le _ _ f1
        -- the function is still there behind the arguments: F grows
        have hm3 : core X.K X.w (fun σ F μ => RepRs X.K X.w F μ σ) W ms σ H1 (fun vs H2 => ∃ as F2 μ2 ρ2 S2, Rel X.K X.w F2 μ2 S2 H2 ∧ RelFr X.K X.w F2 μ2 H2 ρ2 σ ∧ RepRs X.K X.w F2 μ2 σ as vs ∧ Same F F2 ∧ coreAt X.K X.w (fun σ F μ => RepR X.K X.w F μ σ) W ((if as.length = n then appF (G caps) as else fun _ _ => none) ρ2 S2) F2 μ2 σ H2 Q) := by
          refine ⟨F, μ, ρ, S, rel, fr, ?_⟩
          obtain ⟨o, S', h4, h5⟩ := h
          unfold callN bindM at h4
          cases q : ms ρ S with
          | none => rw [q] at h4; cases h4
          | some r =>
            obtain ⟨o1, S1⟩ := r
            rw [q] at h4
            cases o1 with
            | ok a =>
              refine ⟨.ok a, S1, rfl, fun F' μ' H' v g r z => ⟨a, F', μ', ρ, S1, r, fr.grow g, z, g.f, coreAt.mono g ⟨o, S', ?_, h5⟩⟩⟩
              simp only at h4
              by_cases cl : a.length = n
              · simp only [cl, if_true] at h4 ⊢; exact h4
              · simp only [cl, if_false] at h4; cases h4
            | ex c fs =>
              cases h4
              exact ⟨.ex c fs, _, rfl, h5⟩
        refine PySem.W.callWith_F (first := []) (fnAt I1 hF1) (thn (ha.run pos pins s1 σ H1 _ I1 hm3) fun us s2 ⟨vs, H2, I2, r, as, F2, μ2, ρ2, S2, k1, k2, k3, sf, k4⟩ => ?_) he hpl
        have f2 := sf _ _ f1
        have hf2 := k1.le _ _ f2
        refine ⟨fnAt I2 hf2, ?_⟩
        show wpAny _ _ (call (.ref f) us) _ _ _
        by_cases cl : as.length = n
        · simp only [cl, if_true] at k4
          have C2 : NdefX.CellsAt L.cl fr0 (ws.map some) s2.heap H2 := NdefX.CellsAt.later C hnf (fun y c _ => by rw [hex]; simp) I2
          unfold appF at k4
          by_cases c0 : closedRs as = true
          · rw [if_pos c0] at k4
            have out : outM X.K X.w (G caps as S2) F2 μ2 H2 Q (fun cls d H => W cls d σ H) := by
              obtain ⟨o, S', q1, q2⟩ := k4
              refine ⟨o, S', q1, ?_⟩
              cases o with
              | ok r =>
                refine fun F' μ' H' v g rl z => q2 F' μ' H' v g rl ?_
                cases r with
                | d x => exact z
                | loc m => exact z
                | slot i => have : ([] : L2.St)[i]? = some (some v) := z; simp at this
              | ex c fs => exact q2
            refine wpAny_call (codeAny_mono (lo.run f X.A X.stack s2 H2 us vs ws caps F2 μ2 S2 as Q _ (hr.mono hk) I2.env0 hf2 (k1.le _ _ (sf _ _ c1)) C2 r k1 (ra.mono sf) (k3.closed c0) cl out) fun r s' hq => ?_)
            cases r with
            | error e => exact passAt tk σ pins H2 s2 e s' I2 hq
            | ok fl =>
              cases fl with
              | ret u => exact I2.after hq
              | next => exact False.elim hq
              | brk => exact False.elim hq
              | cont => exact False.elim hq
          · rw [if_neg c0] at k4; exact k4.none_
        · simp only [cl, if_false] at k4; exact k4.none_
    · exact h.none_
  · exact h.none_
end
end MM
namespace MM
open PySem PySem.Spec PyProof.Rows L2

/-! ### defs that are handed lambdas; lambdas handed on -/
structure LamW where
  params : Arguments
  body : Expr
  scope : Scope
  fr : List Str
  js : List Nat
abbrev LTab := Nat → Option LamW
structure GTab where
  lam : Nat → Option (List D → FM)
  gl : Str → Option FM
def GTab.tb (T : GTab) : D → Option FM
  | .clo t _ _ _ _ caps => (T.lam t).map fun g => g caps
  | .gl x => T.gl x
  | _ => none
structure ClC (P : Program) (w : World) (K : PySem.W.Frag) (mg : Str → Option Value) (base : Heap) (k kk : Nat) (x : Str) (n n2 : Nat) (g : (D → Option FM) → FM) : Prop where
  ex : ∃ (f : Addr) (fd : FuncData) (ps : List Str), mg x = some (.ref f) ∧ PySem.W.keepIn K (.ref f) = true ∧ Binds K fd ps [] ∧ ps.length = n ∧
    ∀ (A : Around) (outer : List Env) (s : Shared) (H : Hp) (us : List Value) (vs : List V) (tb : D → Option FM) (Q : VK) (E : XK), Room k A → Env0 P w K mg base A outer s H → BindsTo s fd ⟨us, []⟩ (ps.zip us) → Vals vs us →
      (∀ d g, tb d = some g → ActL P w K mg base kk n2 s.heap H (frs outer) d g) → spM K w n (g tb) vs H Q E → codeAny (model P w) A (.call (.ref f) ⟨us, []⟩) (CR (L2.CX P w) outer P w H s Q E) s
section
variable {P : Program} {w : World} {K : PySem.W.Frag} {mg : Str → Option Value} {base : Heap}
theorem fnc_m {keep : Bool} {x qual : Str} {params : Arguments} {body : List Stmt} {scope : Scope} {f : Addr} {fd : FuncData} {N ps : List Str} {k kk n2 nl : Nat} {m : (D → Option FM) → SM} (F : FunD K x qual params body scope [] [] f fd) (S : FnScope N ps scope) (hN : N.length = ps.length + nl)
    (hm : mg x = some (.ref f)) (hbd : Binds K fd ps [])
    (hb : ∀ (tb : D → Option FM) (cdv : Value) (A : Around) (outer : List Env) (s : Shared) (H : Hp) (E : XK), (∀ d g, tb d = some g → ActL P w K mg base kk n2 s.heap H (frs outer) d g) → Room k (A.deeper (envOfC qual scope s.heap.objs.size f cdv)) → Takes (XOf P w K mg base N qual scope f cdv A outer s H E) (fun cls d _ H => E cls d H) →
      PassesOwn (model P w) (A.deeper (envOfC qual scope s.heap.objs.size f cdv)) (envOfC qual scope s.heap.objs.size f cdv) (XOf P w K mg base N qual scope f cdv A outer s H E).xe →
      MSs (XOf P w K mg base N qual scope f cdv A outer s H E) (fun cls d _ H => E cls d H) body (m tb)) :
    ClC P w K mg base (k + 1) kk x ps.length n2 (fun tb => funM keep ps.length nl (m tb)) := by
  refine ⟨f, fd, ps, hm, F.kp, hbd, rfl, fun A outer s H us vs tb Q E hr e0 hbt r hA h => ?_⟩
  obtain ⟨oc, od, dV, kV, doc, pm, an, cdv, ct, osl, rfl, lk, hcd, _, _⟩ := F.ex
  exact LamX.run_ofS lk hcd S hr e0 hbt r (spM_len _ _ _ _ h) fun hr' => ⟨_, hb tb cdv A outer s H E hA hr' (takes_of rfl rfl rfl rfl) (passes_of rfl), fun_tS hN h⟩
/-- fn_m, told too: the code object's place -/
theorem fn_mL {keep : Bool} {x qual : Str} {params : Arguments} {body : List Stmt} {scope : Scope} {fd : FuncData} {N ps : List Str} {k nl : Nat} {m : SM} (F : FunD K x qual params body scope [] [] (He.fAd K (x, none)) fd) (S : FnScope N ps scope) (hN : N.length = ps.length + nl)
    (hb : ∀ (A : Around) (outer : List Env) (s : Shared) (H : Hp) (E : XK), Room k (A.deeper (envOfC qual scope s.heap.objs.size (He.fAd K (x, none)) (.ref (He.cT K (x, none)).1))) → Takes (XOf P w K mg base N qual scope (He.fAd K (x, none)) (.ref (He.cT K (x, none)).1) A outer s H E) (fun cls d _ H => E cls d H) →
      PassesOwn (model P w) (A.deeper (envOfC qual scope s.heap.objs.size (He.fAd K (x, none)) (.ref (He.cT K (x, none)).1))) (envOfC qual scope s.heap.objs.size (He.fAd K (x, none)) (.ref (He.cT K (x, none)).1)) (XOf P w K mg base N qual scope (He.fAd K (x, none)) (.ref (He.cT K (x, none)).1) A outer s H E).xe →
      MSs (XOf P w K mg base N qual scope (He.fAd K (x, none)) (.ref (He.cT K (x, none)).1) A outer s H E) (fun cls d _ H => E cls d H) body m) :
    FnOk P w K mg base (L2.CX P w) (k + 1) (He.fAd K (x, none)) fd ps (spM K w ps.length (funM keep ps.length nl m)) := by
  obtain ⟨oc, od, dV, kV, doc, pm, an, cdv, ct, osl, rfl, lk, hcd, _, _⟩ := F.ex
  obtain ⟨c, rfl⟩ := He.codeIn_ref hcd
  have ec : (He.cT K (x, none)).1 = c := He.codeOf_eq lk rfl
  rw [ec] at hb
  exact fn_of lk hcd S (fun vs H Q E h => spM_len vs H Q E h) fun A outer s H vs Q E hr h => ⟨_, hb A outer s H E hr (takes_of rfl rfl rfl rfl) (passes_of rfl), fun_tS hN h⟩
end
theorem LOk.mono {P : Program} {w : World} {K : PySem.W.Frag} {mg : Str → Option Value} {base : Heap} {j k n : Nat} {L : NdefX.NF} {b : Expr} {fr : List Str} {G : List D → FM} (o : LOk P w K mg base j L b fr n G) (h : j ≤ k) : LOk P w K mg base k L b fr n G :=
  ⟨fun f A outer s H us vs ws caps F μ S rs Q E hr => o.run f A outer s H us vs ws caps F μ S rs Q E (hr.mono h)⟩
theorem Cl.mono {P : Program} {w : World} {K : PySem.W.Frag} {mg : Str → Option Value} {base : Heap} {j k n : Nat} {x : Str} {m : FM} (c : Cl P w K mg base j x n m) (h : j ≤ k) : Cl P w K mg base k x n m := by
  obtain ⟨f, fd, ps, F, r⟩ := c.ex
  exact ⟨f, fd, ps, ⟨F.len, fun A outer s H args us vs Q E hr => F.run A outer s H args us vs Q E (hr.mono h)⟩, r⟩
/-- the lambdas of a body: in return (.., f(.., lambda ..)), also below an if -/
def lam1 (e : Expr) : List Expr := match e with
  | .Lambda p b s q => [.Lambda p b s q]
  | _ => []
def lamCall (e : Expr) : List Expr := match e with
  | .Call _ as _ _ => as.flatMap lam1
  | _ => []
def lamRet (st : Stmt) : List Expr := match st with
  | .Return (some (.Tuple es _ _)) _ => es.flatMap lamCall
  | _ => []
def lamSt (st : Stmt) : List Expr := match st with
  | .If _ b _ _ => b.flatMap lamRet
  | s => lamRet s
def lams (body : List Stmt) : List Expr := body.flatMap lamSt
def lamP (e : Option Expr) : Arguments := match e with
  | some (.Lambda p _ _ _) => p
  | _ => default
def lamB (e : Option Expr) : Expr := match e with
  | some (.Lambda _ b _ _) => b
  | _ => default
def lamS (e : Option Expr) : Scope := match e with
  | some (.Lambda _ _ s _) => s
  | _ => default
inductive CA where
  | r (x : R) | lam (t : Nat) (caps : List D)
def notClo : R → Bool
  | .d (.clo ..) => false
  | _ => true
def okC (x : R) : Bool := closedR x && notClo x
def MatchC : CA → R → Prop
  | .r x, y => x = y
  | .lam t caps, y => ∃ f L b ws, y = .d (.clo t f L b ws caps)
def Matches : List CA → List R → Prop
  | [], [] => True
  | a :: as, r :: rs => MatchC a r ∧ Matches as rs
  | _, _ => False
def MatchX (X : Cx) (T : LTab) (σ : L2.St) : CA → R → Prop
  | .r x, y => x = y ∧ okC x = true
  | .lam t caps, y => ∃ f c' ws lw, T t = some lw ∧ y = .d (.clo t f (lamNF X lw.params lw.scope c') lw.body ws caps) ∧ lw.js.map (NdefX.slotAt σ) = ws.map some
inductive MatchXs (X : Cx) (T : LTab) (σ : L2.St) : List CA → List R → Prop
  | nil : MatchXs X T σ [] []
  | cons {a : CA} {r : R} {as : List CA} {rs : List R} : MatchX X T σ a r → MatchXs X T σ as rs → MatchXs X T σ (a :: as) (r :: rs)
theorem MatchX.c {X : Cx} {T : LTab} {σ : L2.St} {a : CA} {r : R} (h : MatchX X T σ a r) : MatchC a r := by
  cases a with
  | r x => exact h.1
  | lam t caps => obtain ⟨f, c', ws, lw, _, e, _⟩ := h; exact ⟨f, _, _, ws, e⟩
theorem MatchXs.c {X : Cx} {T : LTab} {σ : L2.St} : ∀ {as : List CA} {rs : List R}, MatchXs X T σ as rs → Matches as rs
  | _, _, .nil => trivial
  | _, _, .cons h r => ⟨h.c, MatchXs.c r⟩
theorem MatchXs.mem {X : Cx} {T : LTab} {σ : L2.St} {y : R} : ∀ {as : List CA} {rs : List R}, MatchXs X T σ as rs → y ∈ rs → ∃ a, MatchX X T σ a y
  | _, _, .nil, h => by simp at h
  | _, _, .cons h r, q => by
    rcases List.mem_cons.mp q with z | z
    · exact ⟨_, by rw [z]; exact h⟩
    · exact MatchXs.mem r z
theorem MatchXs.closed {X : Cx} {T : LTab} {σ : L2.St} : ∀ {as : List CA} {rs : List R}, MatchXs X T σ as rs → closedRs rs = true
  | _, _, .nil => rfl
  | _, _, .cons (a := a) (r := r) h q => by
    unfold closedRs
    rw [List.all_cons, Bool.and_eq_true]
    refine ⟨?_, MatchXs.closed q⟩
    cases a with
    | r x =>
      obtain ⟨rfl, h⟩ := h
      unfold okC at h
      rw [Bool.and_eq_true] at h
      exact h.1
    | lam t caps =>
      obtain ⟨f, c', ws, lw, _, rfl, _⟩ := h
      rfl
open Classical in
noncomputable def callRes (T : GTab) (g : (D → Option FM) → FM) (as : List CA) (S : Sto) : Option (Out R × Sto) :=
  if h : ∃ res, ∀ ds, Matches as ds → ∀ tb : D → Option FM, (∀ d, R.d d ∈ ds → tb d = T.tb d) → g tb ds S = some res then some (choose h) else none
theorem callRes_of {T : GTab} {g : (D → Option FM) → FM} {as : List CA} {S : Sto} {res : Out R × Sto} (hex : ∃ ds, Matches as ds) (h : ∀ ds, Matches as ds → ∀ tb : D → Option FM, (∀ d, R.d d ∈ ds → tb d = T.tb d) → g tb ds S = some res) : callRes T g as S = some res := by
  unfold callRes
  have hx : ∃ res, ∀ ds, Matches as ds → ∀ tb : D → Option FM, (∀ d, R.d d ∈ ds → tb d = T.tb d) → g tb ds S = some res := ⟨res, h⟩
  rw [dif_pos hx]
  obtain ⟨ds, hd⟩ := hex
  have e := Classical.choose_spec hx ds hd T.tb (fun d _ => rfl)
  rw [← e, h ds hd T.tb fun d _ => rfl]
theorem callRes_some {T : GTab} {g : (D → Option FM) → FM} {as : List CA} {S : Sto} {res : Out R × Sto} (h : callRes T g as S = some res) : ∀ ds, Matches as ds → ∀ tb : D → Option FM, (∀ d, R.d d ∈ ds → tb d = T.tb d) → g tb ds S = some res := by
  unfold callRes at h
  split at h
  · rename_i hx
    cases h
    exact Classical.choose_spec hx
  · cases h
noncomputable def callC (T : GTab) (n : Nat) (g : (D → Option FM) → FM) (m : GM (List CA)) : EM := bindM m fun as => fun _ S => if as.length = n then callRes T g as S else none
def capsAt (ρ : Fr) : List Nat → Option (List D)
  | [] => some []
  | j :: js => match ρ[j]? with
    | some (some (.r (.d x))) => (capsAt ρ js).map (x :: ·)
    | _ => none
def lamC (t n : Nat) (x : Str) (js : List Nat) : GM CA := fun ρ S => match S[n]? with
  | some (.tab y) => if y = x then (match capsAt ρ js with
    | some ds => some (.ok (.lam t ds), S)
    | none => none) else none
  | _ => none
def exC (m : EM) : GM CA := bindM m fun r => fun _ S => if okC r = true then some (.ok (.r r), S) else none
def nilC : GM (List CA) := pureM []
def consC (m : GM CA) (ms : GM (List CA)) : GM (List CA) := bindM m fun a => bindM ms fun as => pureM (a :: as)
abbrev RC (X : Cx) (T : LTab) : L2.St → Hp → List Addr → CA → V → Prop := fun σ F μ a v => ∃ r, RepR X.K X.w F μ σ r v ∧ MatchX X T σ a r
abbrev RCs (X : Cx) (T : LTab) : L2.St → Hp → List Addr → List CA → List V → Prop := fun σ F μ as vs => ∃ rs, RepRs X.K X.w F μ σ rs vs ∧ MatchXs X T σ as rs
abbrev EC (X : Cx) (T : LTab) (W : WX) (e : Expr) (m : GM CA) : Prop := PE X e (core X.K X.w (RC X T) W m)
abbrev AC (X : Cx) (T : LTab) (W : WX) (es : List Expr) (m : GM (List CA)) : Prop := PA X es (core X.K X.w (RCs X T) W m)
section
variable {X : Cx} {T : LTab} {W : WX} {e : Expr} {es : List Expr} {pos p : Pos}
theorem monoRC : MonoR (RC X T) := fun _ _ _ _ _ _ _ e p h => h.imp fun r z => ⟨z.1.mono e p, z.2⟩
theorem ec_ex {m : EM} (h : ME X W e m) : EC X T W e (exC m) := PE.imp h fun σ H Q q => (core_bind (Ra := fun σ F μ => RepR X.K X.w F μ σ) q).imp fun x H1 ⟨a, F, μ, ρ, S, h1, h2, h3, h4⟩ => by
  by_cases c : okC a = true
  · simp only [c, if_true] at h4
    exact h4.ok .refl h1 ⟨a, h3, rfl, c⟩
  · simp only [c, if_false] at h4; exact h4.none_
theorem caps_rep {F : Hp} {μ : List Addr} {H : Hp} {ρ : Fr} {σ : L2.St} (fr : RelFr X.K X.w F μ H ρ σ) : ∀ {js : List Nat} {ds : List D}, capsAt ρ js = some ds → ∃ ws, RepAll X.K X.w F ds ws ∧ js.map (NdefX.slotAt σ) = ws.map some
  | [], _, e => by cases e; exact ⟨[], .nil, rfl⟩
  | j :: js, ds, e => by
    unfold capsAt at e
    split at e
    · rename_i x hx
      obtain ⟨ds', h1, rfl⟩ := Option.map_eq_some_iff.mp e
      obtain ⟨ws, h2, h3⟩ := caps_rep fr h1
      obtain ⟨v, h4, h5⟩ := fr.r j _ hx
      exact ⟨v :: ws, .cons h5 h2, by rw [List.map_cons, List.map_cons, h3, NdefX.slotAt_of h4]⟩
    · cases e
theorem ec_lam {t n : Nat} {x : Str} {params : Arguments} {body : Expr} {scope : Scope} {fr : List Str} {js : List Nat} (hT : T t = some ⟨params, body, scope, fr, js⟩) (TB : LamX.TabB X.base X.mg (He.cT X.K (x, none)).1 (He.cT X.K (x, none)).2)
    (hcode : X.env.code = .ref (He.cT X.K (x, none)).1) (hx : x ++ ".<locals>.<lambda>" = X.env.qual ++ "<lambda>") (hnd : NdefX.ndefB X.env.scope scope fr = true) (hdef : defaultsOf params X.env = ([], [])) : EC X T W (.Lambda params body scope pos) (lamC t n x js) := by
  refine ⟨fun pins s σ H Q I h => ?_⟩
  obtain ⟨F, μ, ρ, S, rel, frm, o, S', h4, h5⟩ := h
  unfold lamC at h4
  split at h4
  · rename_i y hS
    by_cases hy : y = x
    · subst hy
      rw [if_pos rfl] at h4
      split at h4
      · rename_i ds hds
        cases h4
        have hl : n < μ.length := by
          rw [rel.len]; exact (List.getElem?_eq_some_iff.mp hS).1
        obtain ⟨P, hP⟩ : ∃ P, μ[n]? = some P := ⟨μ[n], List.getElem?_eq_getElem hl⟩
        have kT := rel.cell n P _ hP hS
        obtain ⟨fP0, eP, ps, hps, ht, ha⟩ := kT
        subst eP
        have hfree : ∀ y ∈ scope.names, y.2 = .free → ∃ c, X.env.cells.lookup y.1 = some c := fun y hy e => (NdefX.ndef_free hnd y hy e).elim (fun z => I.ok.has _ (.inl z)) fun z => I.ok.has _ (.inr z)
        refine lam_make I TB hcode hps ht (fun pos cv q => ?_) hdef hfree fun f c' H1 s' I1 m => ?_
        · obtain ⟨c, e1, e2⟩ := ha pos cv q
          rw [hx] at e2
          exact ⟨c, e1, rel.le _ _ e2⟩
        · obtain ⟨F', g', r', hf', hc'⟩ := lam_rel rel hP hS hx hps m
          obtain ⟨ws, q1, q2⟩ := caps_rep (frm.grow g') hds
          exact ⟨.ref f, H1, I1, rfl, h5 F' μ H1 (.ref f) g' r' ⟨.d (.clo t f (lamNF X params scope c') body ws ds), Rep.clo hf' hc' q1, f, c', ws, _, hT, rfl, q2⟩⟩
      · cases h4
    · rw [if_neg hy] at h4; cases h4
  · cases h4
theorem ac_nil : AC X T W [] nilC := PA.imp pa_nil fun σ H Q ⟨F, μ, ρ, S, h1, h2, h3⟩ => h3.ok .refl h1 ⟨[], .nil, .nil⟩
theorem ac_cons {m : GM CA} {ms : GM (List CA)} (ha : EC X T W e m) (hr : AC X T W es ms) (hs : starEach (e :: es) X.env = (false, eval e X.env) :: starEach es X.env := by rfl) : AC X T W (e :: es) (consC m ms) :=
  PA.imp (pa_cons ha hr hs) fun σ H Q h => (core_bin (Ra := RC X T) (Rb := RCs X T) monoRC h).imp fun x H1 h => core.imp h fun y H2 ⟨a, b, F, μ, ρ, S, h1, h2, ⟨r, h3, h3'⟩, ⟨rs, h4, h4'⟩, h5⟩ =>
    h5.ok .refl h1 ⟨r :: rs, .cons h3 h4, .cons h3' h4'⟩
/-- what the table's lambdas and defs must keep to, in the context X -/
structure LTabOk (X : Cx) (T : LTab) (G : GTab) (k n2 : Nat) : Prop where
  lam : ∀ t lw, T t = some lw → NdefX.ndefB X.env.scope lw.scope lw.fr = true ∧ lw.js.map (fun j => X.N[j]?) = lw.fr.map some ∧ ∃ g, G.lam t = some g ∧ ∀ (cl : List (Str × Addr)) (c' : Addr), LOk X.prog X.w X.K X.mg X.base k ⟨"<lambda>", X.env.qual ++ "<lambda>", lw.params, [], lw.scope, cl, c'⟩ lw.body lw.fr n2 g
  gl : ∀ x g, G.gl x = some g → Cl X.prog X.w X.K X.mg X.base k x n2 g ∧ X.mg x = some (.ref (He.ga X.K x))
open Classical in
theorem me_callC {k kk j n n2 : Nat} {x : Str} {g : (D → Option FM) → FM} {m : GM (List CA)} {G : GTab} (c : ClC X.prog X.w X.K X.mg X.base k kk x n n2 g) (TO : LTabOk X T G kk n2) (hr : Room j X.A) (hk : k ≤ j) (tk : Takes X W) (ha : AC X T W (e :: es) m) (hg : Gl X x := by rfl)
    (hst : X.stack = X.env :: X.outer := by rfl) (hfr : X.env.frame = some X.env.locals := by rfl) (hfn : ∀ x, X.fn x = true := by exact fun _ => rfl) (hdb : (x == ("__debug__" : Str)) = false := by decide)
    (he : starEach (e :: es) X.env = (false, eval e X.env) :: starEach es X.env := by rfl) (hpl : (backTo pos (starEach es X.env)).any (·.1) = false := by rfl) : ME X W (.Call (.Name x p) (e :: es) [] pos) (callC G n g m) := by
  obtain ⟨a, fd, ps, hm, hkp, hb, hln, run⟩ := c.ex
  refine ⟨fun pins s σ H Q I h => ?_⟩
  refine wpAny_Call_Name_kw (ld_glob I hg hm ?_ hdb)
  refine PySem.W.callWith_K (h₀ := X.base) I.ok.mod.kin hkp (thn (ha.run pos pins s σ H _ I (core_bind (Ra := RCs X T) h)) fun us s2 ⟨vs, H2, I2, r, as, F, μ, ρ, S, h1, h2, ⟨rs, h3, h3'⟩, h4⟩ => ⟨I2.kIn, ?_⟩) he hpl
  have hlen : ∀ {as : List CA} {rs : List R}, MatchXs X T σ as rs → as.length = rs.length := by
    intro as rs z
    induction z with
    | nil => rfl
    | cons _ _ ih => simp [ih]
  by_cases cl : as.length = n
  · simp only [cl, if_true] at h4
    obtain ⟨o, S', h5, h6⟩ := h4
    have hnr : rs.length = n := by rw [← hlen h3']; exact cl
    have hul : us.length = ps.length := by rw [← r.length, ← h3.length, hnr, hln]
    have hgr := callRes_some h5 rs h3'.c (fun d => if R.d d ∈ rs then G.tb d else none) (fun d hd => if_pos hd)
    have b := hb s2 us I2.kIn (by rw [List.append_nil]; exact hul)
    rw [List.append_nil] at b
    refine wpAny_call (codeAny_mono (run X.A X.stack s2 H2 us vs (fun d => if R.d d ∈ rs then G.tb d else none) Q (fun cls d H => W cls d σ H) (hr.mono hk) I2.env0 b r (fun d g' e => ?_) ⟨F, μ, S, rs, h1, h3.closed h3'.closed, hnr, o, S', hgr, ?_⟩) fun r s' hq => ?_)
    · by_cases hd : R.d d ∈ rs
      · have e : (if R.d d ∈ rs then G.tb d else none) = some g' := e
        rw [if_pos hd] at e
        obtain ⟨a, ma⟩ := h3'.mem hd
        cases a with
        | r x =>
          obtain ⟨rfl, ok⟩ := ma
          cases d with
          | gl y => exact .inl ⟨y, rfl, TO.gl y g' e⟩
          | clo t f L b ws caps => exact absurd (show okC (R.d (D.clo t f L b ws caps)) = true from ok) (fun z => by unfold okC at z; rw [Bool.and_eq_true] at z; exact nomatch z.2)
          | _ => cases e
        | lam t caps =>
          obtain ⟨f, c', ws, lw, hl, e1, e2⟩ := ma
          cases e1
          obtain ⟨q1, q2, gg, qg, q3⟩ := TO.lam t lw hl
          have e : (G.lam t).map (fun g => g caps) = some g' := e
          rw [qg] at e
          cases e
          refine .inr ⟨t, f, _, _, ws, caps, lw.fr, gg, rfl, rfl, q3 _ _, ?_, fun y c hc => ?_⟩
          · rw [← e2]
            exact NdefX.cells_of I2 (NdefX.Caps.made I2.ok (NdefX.ndef_free q1) (NdefX.ndef_fr q1) q2)
          · have hfree : ∀ y ∈ lw.scope.names, y.2 = .free → ∃ c, X.env.cells.lookup y.1 = some c := fun y hy e => (NdefX.ndef_free q1 y hy e).elim (fun z => I.ok.has _ (.inl z)) fun z => I.ok.has _ (.inr z)
            have hc2 := NdefX.clo_cm hfree hc
            rw [hst]
            intro hmem
            have hmem : c ∈ X.env.locals :: X.fs := by
              unfold frs at hmem
              rw [List.filterMap_cons, hfr] at hmem
              exact hmem
            rcases List.mem_cons.mp hmem with z | z
            · exact I2.cne y c hc2 z
            · obtain ⟨_, o, ho, _⟩ := I2.ok.funs.mem z
              exact absurd (Heap.lt_size ho) (Nat.not_lt.mpr (I2.ok.cab y c (hfn y) hc2))
      · have e : (if R.d d ∈ rs then G.tb d else none) = some g' := e
        rw [if_neg hd] at e; cases e
    · cases o with
      | ok r =>
        refine fun F' μ' H' v g rl z => h6 F' μ' H' v g rl ?_
        cases r with
        | d x => exact z
        | loc m => exact z
        | slot i => have : ([] : L2.St)[i]? = some (some v) := z; simp at this
      | ex c fs => exact h6
    · cases r with
      | error e => exact passAt tk σ pins H2 s2 e s' I2 hq
      | ok fl =>
        cases fl with
        | ret u => exact I2.after hq
        | next => exact False.elim hq
        | brk => exact False.elim hq
        | cont => exact False.elim hq
  · simp only [cl, if_false] at h4; exact h4.none_
end
end MM
namespace MM
open PySem PySem.Spec PyProof.Rows L2

/-! ### x += e; x, y = a, b -/
def augM (f : Int → Int → Int) (i : Nat) (ma : EM) : SM := fun ρ S => match ρ[i]? with
  | some (some (.r (.d (.int a)))) => thenM ma (fun r => fun ρ S => match r with
    | .d (.int b) => if i < ρ.length then some (.nx, ρ.set i (some (.r (.d (.int (f a b))))), S) else none
    | _ => none) ρ S
  | _ => none
def parM (i j : Nat) (ma : AM) : SM := thenM ma fun rs => fun ρ S => match rs with
  | [a, b] => if (closedR a = true ∧ i < ρ.length) ∧ (closedR b = true ∧ j < ρ.length) then some (.nx, (ρ.set i (some (.r a))).set j (some (.r b)), S) else none
  | _ => none
section
variable {X : Cx} {W : WX} {e : Expr} {ma : EM} {pos : Pos}
theorem ms_aug {f : Int → Int → Int} {op : Operator} (i : Nat) {x : Str} {pos' : Pos} (hN : X.N.Nodup) (ho : PIp X op (ipI f)) (he : ME X W e ma) (hi : X.N[i]? = some x := by rfl) (hx : Loc X.env.scope x := by first | exact Or.inl rfl | exact Or.inr rfl)
    (hf : X.fn x = true ∨ X.env.scope.names.lookup x = some .local := by first | exact .inl rfl | exact .inr rfl | assumption) : MS X W (.AugAssign (.Name x pos') op e pos) (augM f i ma) :=
  PS.imp (ps_aug hN hi hx he ho hf) fun D σ H ⟨B, F, μ, ρ, S, h1, h2⟩ => by
    unfold augM at h2
    split at h2
    · rename_i a ha
      obtain ⟨v, hs, hv⟩ := h1.fr.r i _ ha
      cases (show Rep X.K X.w F (.int a) v from hv)
      refine ⟨_, hs, ?_⟩
      refine (flow_then (Ra := fun σ F μ => RepR X.K X.w F μ σ) ⟨B, F, μ, ρ, S, h1, h2⟩).imp fun y H1 ⟨r, B, F, μ, ρ, S, h1, h2, h3⟩ => ?_
      split at h3
      · rename_i b
        by_cases c : i < ρ.length
        · rw [if_pos c] at h3
          cases (show Rep X.K X.w F (.int b) y from h2)
          exact ⟨a, b, rfl, rfl, h3.nx (h1.set (show RepR X.K X.w F μ σ (.d (.int (f a b))) (.int (f a b)) from .int _) rfl c)⟩
        · rw [if_neg c] at h3; exact h3.none_
      · exact h3.none_
    · exact h2.none_
theorem ms_par {x y : Str} {a b : Expr} {ms : AM} {px py pt : Pos} {kt k2 pt2} (i j : Nat) (hc : X.calm = true) (hN : X.N.Nodup) (ha : MA X W [a, b] ms) (hij : i ≠ j) (hi : X.N[i]? = some x := by rfl) (hj : X.N[j]? = some y := by rfl)
    (hx : X.env.scope.names.lookup x = some .local := by rfl) (hy : X.env.scope.names.lookup y = some .local := by rfl)
    (hw : swappedStores [.Tuple [.Name x px, .Name y py] kt pt] (.Tuple [a, b] k2 pt2) X.env = pure (some [x, y]) := by rfl)
    (hs : swapsWithSole [.Tuple [.Name x px, .Name y py] kt pt] (.Tuple [a, b] k2 pt2) pos.line X.env = pure false := by rfl) :
    MS X W (.Assign [.Tuple [.Name x px, .Name y py] kt pt] (.Tuple [a, b] k2 pt2) pos) (parM i j ms) :=
  PS.imp (ps_par hc hN hi hj hij hx hy ha hw hs) fun D σ H h => (flow_then (Ra := fun σ F μ => RepRs X.K X.w F μ σ) h).imp fun vs H1 ⟨rs, B, F, μ, ρ, S, h1, h2, h3⟩ => by
    split at h3
    · rename_i a b
      by_cases c : (closedR a = true ∧ i < ρ.length) ∧ (closedR b = true ∧ j < ρ.length)
      · rw [if_pos c] at h3
        cases h2 with
        | cons q1 q2 =>
          cases q2 with
          | cons q2 q3 =>
            cases q3
            have k := h1.set q1 c.1.1 c.1.2
            exact ⟨_, _, rfl, h3.nx (k.set (q2.closed c.2.1 _) c.2.1 (by rw [List.length_set]; exact c.2.2))⟩
      · rw [if_neg c] at h3; exact h3.none_
    · exact h3.none_
end
end MM
namespace MM
open PySem PySem.Spec PyProof.Rows L2

/-! ### a property of an own class; what its getter raises is not let out -/
structure ClP (P : Program) (w : World) (K : PySem.W.Frag) (mg : Str → Option Value) (base : Heap) (k : Nat) (C z : Str) (f : FM) : Prop where
  ex : ∃ (p g : Addr) (fd : FuncData) (ps : List Str), FnOk P w K mg base (L2.CX P w) k g fd ps (spM K w 1 f) ∧ Cls K (He.ga K C) ∧ PropOf K (He.ga K C) z p g ∧ Binds K fd ps []
def propM (C z : Str) (f : FM) (mo : EM) : EM := bindM (bindM mo (isIns C z)) fun o => fun _ S => if closedR o = true then (match f [o] S with
  | some (.ok r, S') => some (.ok r, S')
  | _ => none) else none
theorem me_prop {X : Cx} {W : WX} {o : Expr} {mo : EM} {pos : Pos} {k j : Nat} {C z : Str} {f : FM} (c : ClP X.prog X.w X.K X.mg X.base k C z f) (hr : Room j X.A) (hk : k + 1 ≤ j) (ho : ME X W o mo) (hab : attributeBase o z X.env (eval o X.env) = eval o X.env := by rfl) :
    ME X W (.Attribute o z pos) (propM C z f mo) := by
  obtain ⟨p, g, fd, ps, F, hc, hp, hb⟩ := c.ex
  refine PE.imp (pe_prop ho hc hp F (hr.mono hk) hb .nil passL hab) fun σ H Q h => ?_
  refine core.imp (core_bind (Ra := fun σ F μ => RepR X.K X.w F μ σ) (core_bind (Ra := fun σ F μ => RepR X.K X.w F μ σ) h)) fun x H1 ⟨r, F1, μ1, ρ1, S1, h1, h2, h3, oo, S2, h4, h5⟩ => ?_
  obtain ⟨rfl, y, a, dx, fs, rfl, h6, h7, rfl, h8, h9⟩ := isIns_ok h1 h3 h4
  obtain ⟨b1, F2, μ2, ρ2, S2, k1, k2, k3, o3, S3, k4, k5⟩ := h5 F1 μ1 H1 (.ref a) .refl h1 h6
  refine ⟨a, dx, fs, rfl, h8, ?_⟩
  by_cases hcl : closedR b1 = true
  case neg =>
    have k4 : (if closedR b1 = true then _ else none) = some (o3, S3) := k4
    rw [if_neg hcl] at k4; cases k4
  have k4 : (if closedR b1 = true then (match f [b1] S2 with
    | some (.ok r, S') => some (.ok r, S')
    | _ => none) else none) = some (o3, S3) := k4
  rw [if_pos hcl] at k4
  split at k4
  · rename_i r S' q
    cases k4
    exact ⟨F2, μ2, S2, [b1], k1, .cons (k3.closed hcl []) .nil, rfl, .ok r, _, q, fun F' μ' H' v g rl zz => k5 F' μ' H' v g rl (by
      cases r with
      | d x => exact zz
      | loc m => exact zz
      | slot i => have : ([] : L2.St)[i]? = some (some v) := zz; simp at this)⟩
  · cases k4
end MM
namespace MM
open PySem PySem.Spec PyProof.Rows L2

/-! ### len of an instance whose class has its own __len__ -/
end MM
namespace MM
open PySem PySem.Spec PyProof.Rows L2
/-! ### comprehensions of dicts whose keys are tuples of any depth -/
section
variable {X : Cx}
/-- the new, empty dict laid down -/
theorem dx_laid {pn : List (Addr × Obj)} {σ : L2.St} {H : Hp} {s : Shared} (I : Inv X pn σ H s) :
    Inv X pn σ (upd H s.heap.objs.size (dxt s.heap.objs.size { cls := .type "dict", data := .dict #[] } [])) { s with heap := s.heap.push { cls := .type "dict", data := .dict #[] } } := by
  refine I.laid (a := s.heap.objs.size) (t' := s.toks) (fun _ _ q => Heap.get?_push_of_some _ q) (Nat.le_refl _) ?_
  exact ⟨⟨#[], 0, [], Heap.get?_push_size _ rfl, ⟨rfl, rfl, rfl⟩, rfl, .nil, rfl⟩, ⟨_, Heap.get?_push_size _ rfl⟩, fun _ _ ⟨en, ep, us, z1, z⟩ st => ⟨en, ep, us, st _ z1, z⟩⟩
end
end MM
namespace MM
open PySem PySem.Spec PyProof.Rows L2
theorem tupKey_rep {K : PySem.W.Frag} {w : World} {F : Hp} {d : D} {k : NestedKey} {v : V} (e : tupKey d = some k) (h : Rep K w F d v) : ∃ b, v = .ref b ∧ Rep K w F d (.ref b) := by
  unfold tupKey at e
  split at e
  · rename_i ds
    cases h with
    | tup hh ra => exact ⟨_, rfl, .tup hh ra⟩
  · cases e
section
variable {X : Cx} {W : WX} {kx vx tg iter : Expr} {ifs : List Expr} {scope : Scope} {own : List (Str × Nat)} {pos : Pos} {mi : NM} {sl : List Nat} {t : TgM} {mt : TM} {mk mv : EM}
end
end MM
namespace MM
open PySem PySem.Spec PyProof.Rows L2
/-! ### {k: v}, the key a tuple of any depth -/
def tDisp1 (K : PySem.W.Frag) (w : World) (tk tv : TE) : TE := fun σ H Q => ∀ p o, H p = none → p ≠ sysModules → tk σ (upd H p (dxt p o [])) fun y H2 => tv σ H2 fun z H3 =>
  ∃ (F : Hp) (o' : Obj) (dk dv : D) (k : NestedKey) (b : Addr), Same F H3 ∧ H3 p = some (dxt p o' []) ∧ y = .ref b ∧ Rep K w F dk (.ref b) ∧ tupKey dk = some k ∧ Rep K w F dv z ∧ ∀ o2 es', RepEs K w F [(dk, dv)] es' → Q (.ref p) (upd H3 p (dxt p o2 es'))
section
variable {X : Cx} {W : WX} {k v e : Expr} {tk tv : TE} {mk mv me : EM} {pos : Pos}
theorem pe_disp1 (hu : X.A.units + 65 < cLine) (hk : PE X k tk) (hv : PE X v tv) : PE X (.Dict [some k] [v] pos) (tDisp1 X.K X.w tk tv) := by
  refine ⟨fun pn s σ H Q I q => ?_⟩
  rw [arm_eval_Dict, zip_pairTrees [some k] [v] X.env pos rfl rfl, dictDisplay_pairs _ (by intro z; cases z) (by show (1 : Nat) < 17; decide)]
  have rm : (nestedKind X.prog X.w).room X.A := by show X.A.units + 8 < cLine; omega
  refine wpAny_bind (wpAny_standAt (wpAny_bind (wpAny_subDictH (knd := nestedKind X.prog X.w) (Q := fun d s' => wpAny (model X.prog X.w) X.A (pure (Value.ref d)) (fun r s' => ∃ x H', Inv X pn σ H' s' ∧ RelV x r ∧ Q x H') X.xe s') rm (by show (1 : Nat) ≤ 15; decide) ?_)))
  have ns : s.heap.objs.size ≠ sysModules := Ne.symm (Nat.ne_of_lt I.big)
  have L := dx_laid I
  refine pairTrees_cons_walk (thn (hk.run pn _ σ _ _ L (q _ _ (I.hok.fresh (Nat.le_refl _)) ns)) fun u s1 ⟨y, H1, I1, ry, q1⟩ => thn (hv.run pn s1 σ H1 _ I1 q1) fun r s2 ⟨z, H2, I2, rz, F, o', dk, dv, kk, b, le, ha, ey, rk, ek, rv, post⟩ => pairTrees_nil_walk ?_)
  subst ey
  obtain rfl : u = Value.ref b := ry
  obtain ⟨xs, er, dd⟩ := dit_of I2 le ha .nil List.nodup_nil
  cases er
  obtain ⟨es', er'⟩ := EnR.put (kvs := []) ek rk rv rz .nil
  refine ⟨[(kk, b, r)], ⟨rfl, rfl, tupKey_is I2 le ek rk, trivial⟩, dd, fun h' tk' dd' sb => wpAny_pure ?_⟩
  obtain ⟨o2, new⟩ := dxt_ok er' dd'
  obtain ⟨ob, _, _, hq, _⟩ := id dd'
  exact ⟨.ref s.heap.objs.size, _, d_write I2 (by rw [ha]; exact True.intro) sb ⟨ob, hq⟩ (new _), rfl, post o2 es' er'.reps⟩
/-- a new dict of one pair, in a cell -/
def dispM (mk mv : EM) : EM := fun ρ S => match mk ρ S with
  | some (.ok (.d x), S1) => match mv ρ S1 with
    | some (.ok (.d y), S2) => match tupKey x with
      | some _ => some (.ok (.loc S2.length), S2 ++ [.dit [(x, y)]])
      | none => none
    | _ => none
  | _ => none
theorem me_disp1 (hu : X.A.units + 65 < cLine) (hk : ME X noW k mk) (hv : ME X noW v mv) : ME X W (.Dict [some k] [v] pos) (dispM mk mv) :=
  PE.imp (pe_disp1 hu hk hv) fun σ H Q ⟨F, μ, ρ, S, h1, h2, o, S', h3, h4⟩ p ob hD ns => by
    obtain ⟨f1, m1⟩ := h1.fresh hD
    have noD : ∀ (j : Nat) (d : Cell), ρ[j]? = some (some (.own d)) → σ[j]? ≠ some (some (.ref p)) := fun j d e1 e2 => by
      obtain ⟨a, k1, _, _, k4, _⟩ := h2.own j d e1
      rw [k1] at e2
      cases e2
      exact k4 hD
    have g0 : Grow F H F (upd H p (dxt p ob [])) μ μ := ⟨Same.refl _, List.prefix_rfl, fun a u e _ => same_upd hD a u e, fun _ a b => absurd b a, fun a b c => absurd b c⟩
    refine ⟨F, μ, ρ, S, h1.other f1 m1, h2.other noD, ?_⟩
    unfold dispM at h3
    cases qk : mk ρ S with
    | none => rw [qk] at h3; cases h3
    | some r =>
      obtain ⟨o1, S1⟩ := r
      rw [qk] at h3
      cases o1 with
      | ex c fs => cases h3
      | ok y =>
        cases y with
        | loc n => cases h3
        | slot n => cases h3
        | d y =>
          simp only at h3
          refine ⟨.ok (.d y), S1, rfl, fun F4 μ4 H4 v4 g4 r4 z4 => ⟨F4, μ4, ρ, S1, r4, (h2.other noD).grow g4, ?_⟩⟩
          cases qv : mv ρ S1 with
          | none => rw [qv] at h3; cases h3
          | some r =>
            obtain ⟨o2, S2⟩ := r
            rw [qv] at h3
            cases o2 with
            | ex c fs => cases h3
            | ok z =>
              cases z with
              | loc n => cases h3
              | slot n => cases h3
              | d z =>
                simp only at h3
                refine ⟨.ok (.d z), S2, rfl, fun F5 μ5 H5 v5 g5 r5 z5 => ?_⟩
                cases qq : tupKey y with
                | none => rw [qq] at h3; cases h3
                | some kk =>
                  rw [qq] at h3
                  cases h3
                  have i4 : H4 p = some (dxt p ob []) := g4.h _ _ upd_same m1
                  have i5 : F4 p = none := by
                    cases qf : F4 p with
                    | none => rfl
                    | some u =>
                      have := g4.nf p (by rw [qf]; exact fun z => nomatch z) f1 m1
                      rw [upd_same] at this; cases this
                  have i6 : p ∉ μ4 := fun hm => by have := g4.nm p hm m1; rw [upd_same] at this; cases this
                  have l4 : H5 p = some (dxt p ob []) := g5.h _ _ i4 i6
                  have l5 : F5 p = none := by
                    cases qf : F5 p with
                    | none => rfl
                    | some u =>
                      have := g5.nf p (by rw [qf]; exact fun z => nomatch z) i5 i6
                      rw [this] at i4; cases i4
                  have l6 : p ∉ μ5 := fun hm => by rw [g5.nm p hm i6] at i4; cases i4
                  obtain ⟨b, rfl, rb⟩ := tupKey_rep qq (Rep.mono g5.f z4)
                  refine ⟨F5, ob, y, z, kk, b, r5.le, l4, rfl, rb, qq, z5, fun o2 es' re' => ?_⟩
                  have gg := (g0.trans g4).trans g5
                  have r6 := r5.other (o := dxt p o2 es') l5 l6
                  have r7 := r6.join l6 (by rw [upd_same]; exact fun z => nomatch z) (c := .dit [(y, z)]) ⟨l5, o2, es', upd_same, re', by simp, by rw [repEs_len re']; show (1 : Nat) ≤ 16777216; decide, ns⟩
                  refine h4 F5 (μ5 ++ [p]) _ (.ref p) ⟨gg.f, gg.p.trans (List.prefix_append _ _), fun a u e hm => ?_, fun a e1 e2 => ?_, fun a q1 q2 => ?_⟩ r7 ⟨p, by rw [← r5.len]; simp, rfl⟩
                  · rw [upd_ne (fun z => by rw [z, hD] at e; cases e)]; exact gg.h a u e hm
                  · exact gg.nf a e1 e2
                  · rcases List.mem_append.mp q1 with k | k
                    · exact gg.nm a k q2
                    · have : a = p := by simpa using k
                      rw [this]; exact hD
/-! ### xs[::-1] -/
end
end MM
namespace MM
open PySem PySem.Spec PyProof.Rows L2
/-! ### a dict as a test -/
section
variable {X : Cx} {W : WX} {e : Expr} {me : EM}
end
end MM
namespace MM
open PySem PySem.Spec PyProof.Rows L2
/-! ### the end of a law whose program makes lambdas in one def -/
theorem law_spT {K : PySem.W.Frag} {w : World} {m : FM} {x : Str} {H : Hp} {a : Addr} {ns : List Int} {E : XK} (h : ∃ S', m [.d (.scr ns)] [.tab x] = some (.ok (.d (.bl true)), S')) (hT : H (He.cT K (x, none)).2 = some (.tbl #[])) (hS : SqL K H a (ns.map V.int)) :
    spM K w 1 m [.ref a] H (fun v _ => v = .bl true) E := by
  obtain ⟨S', e⟩ := h
  have at_ : ∀ b, b ≠ (He.cT K (x, none)).2 → (fun b => if b = (He.cT K (x, none)).2 then none else H b : Hp) b = H b := fun b hb => if_neg hb
  have nP : (fun b => if b = (He.cT K (x, none)).2 then none else H b : Hp) (He.cT K (x, none)).2 = none := if_pos rfl
  have le : Same (fun b => if b = (He.cT K (x, none)).2 then none else H b : Hp) H := fun b u q => by
    by_cases hb : b = (He.cT K (x, none)).2
    · rw [hb, nP] at q; cases q
    · rw [at_ b hb] at q; exact q
  have rel0 : Rel K w (fun b => if b = (He.cT K (x, none)).2 then none else H b : Hp) [(He.cT K (x, none)).2] [.tab x] H := by
    refine ⟨le, by simp, rfl, fun b hb => ?_, fun n b c h1 h2 => ?_⟩
    · have : b = (He.cT K (x, none)).2 := by simpa using hb
      rw [this, hT]; exact fun z => nomatch z
    · cases n with
      | zero =>
        cases h1
        cases h2
        exact ⟨nP, rfl, #[], hT, trivial, fun pos cv z => by
          have z : codeAmong pos [] = some cv := z
          simp [codeAmong] at z⟩
      | succ n => simp at h1
  have hS' : SqL K (fun b => if b = (He.cT K (x, none)).2 then none else H b : Hp) a (ns.map V.int) := by
    rcases hS with (h | ⟨o, h⟩) | h
    · refine .inl (.inl ((at_ a fun z => ?_).trans h))
      rw [z, hT] at h; cases h
    · refine .inl (.inr ⟨o, (at_ a fun z => ?_).trans h⟩)
      rw [z, hT] at h; cases h
    · exact .inr h
  refine ⟨_, _, [.tab x], [.d (.scr ns)], rel0, .cons (r := .d (.scr ns)) (Rep.scr hS') .nil, rfl, _, _, e, fun F' μ' H' v g r z => ?_⟩
  cases z
  rfl
theorem walk_mT {l : PySem.W.OpenLaw} {n k : Nat} {q : Program} {loose : List Str} {XP : (Str → Option Value) → Heap → Prop} {YP : World → Heap → Prop} {d : DefRec} {x y : Str} {m : FM}
    (hn : l.most = some n) (hn2 : n ≤ sizeLine) (hdf : d.params.defaults = []) (hr : Room k callerA) (hm : ∀ ns : List Int, ns.length ≤ n → ∃ S', m [.d (.scr ns)] [.tab y] = some (.ok (.d (.bl true)), S'))
    (F : ∀ (w : World) (mg : Str → Option Value) (fa : Addr) (h : Heap), YP w h → h.Ns mainGlobals mg → mg d.name = some (.ref fa) →
      ∃ (K : PySem.W.Frag) (fd : FuncData), K.In h ∧ h.get? (He.cT K (y, none)).2 = some { cls := .none, data := .fields #[] } ∧ K.lookup (He.cT K (y, none)).2 = none ∧ PySem.W.codeHdIn K (He.cT K (y, none)).1 (He.cT K (y, none)).2 = true ∧ (∀ (s : Shared) (u : Value), BindsTo s fd ⟨[u], []⟩ [(x, u)]) ∧
        ∀ base : Heap, LamX.TabB base mg (He.cT K (y, none)).1 (He.cT K (y, none)).2 → FnOk l.prog w K mg base (L2.CX l.prog w) k fa fd [x] (spM K w 1 m)) :
    PySem.W.WalkO q loose XP YP l.row.toRowW d [] (fun f vs => PySem.call f vs) := by
  refine LamX.walk_ofTsE (CX := fun w => L2.CX l.prog w) (x := x) hn hn2 hdf hr (fun w mg fa h Y G hmg => ?_) fun w H s e s' => cx_none H s e s'
  obtain ⟨K, fd, KX, h1, h2, h3, hb, hF⟩ := F w mg fa h Y G hmg
  have one : ∀ {Q : Addr × Addr → Prop}, Q (He.cT K (y, none)) → ∀ p ∈ [He.cT K (y, none)], Q p := fun hq p hp => by
    have : p = He.cT K (y, none) := by simpa using hp
    rw [this]; exact hq
  exact ⟨K, KX, fd, [He.cT K (y, none)], spM K w 1 m, one h1, one h2, one (PySem.W.codeHd_of_K KX h3), hb,
    fun H a ns hl _ hT hS => law_spT (hm ns hl) (hT _ (by simp)) hS, fun base _ _ hTB => hF base (hTB _ (by simp))⟩
end MM
namespace MM
open PySem PySem.Spec PyProof.Rows L2
/-! ### He.hookX, told too: defs at any address (getters of properties) -/
open He in
def obsP (n : Nat) (fa : List Fa) (fn : List DefD) (ts : List Tab) (tf : List Defn) (ex : PySem.W.Frag → Bool) (gs : List He5.DefA) (g : Addr → Option Obj) : AlX × List FnW :=
  (obsX n fa fn ts tf ex g, gs.map fun d => He5.fnA (frT g (asD g n)) (d.at_ (frT g (asD g n))))
open He in
def hookP (n : Nat) (fa : List Fa) (fn : List DefD) (ts : List Tab) (tf : List Defn) (ex : PySem.W.Frag → Bool) (gs : List He5.DefA) : PySem.W.Hook where
  α := AlX × List FnW
  obs := fun s => obsP n fa fn ts tf ex gs s.heap.get?
  val := fun w => (valX fn ts w, gs.map fun d => d.val)
  says := fun w h => ∃ K : PySem.W.Frag, K.In h ∧ SaysX fa fn ts tf ex w h K ∧ ∀ d ∈ gs, He5.fnA K (d.at_ K) = d.val
  of := fun w s e => by
    have e1 := congrArg Prod.fst e
    have e2 := congrArg Prod.snd e
    exact ⟨_, frT_in, saysX_of e1, fun d hd => (List.map_inj_left.mp e2) d hd⟩
  keeps := fun _ _ _ ⟨K, hK, c, hg⟩ k => ⟨K, PySem.W.Frag.In.keeps hK k, ⟨c.t, c.more, c.hd, c.out, fun p hp => k _ _ (c.empty p hp)⟩, hg⟩
end MM
namespace MM
open PySem PySem.Spec PyProof.Rows L2
/-- the getter of the property z of the class x -/
def gAd (x z : Str) (K : PySem.W.Frag) : Addr := match PySem.W.recIn K (He.fAd K (x, some z)) "property" with
  | some (.ref g :: _) => g
  | _ => 0
def propB (K : PySem.W.Frag) (x z : Str) : Bool := He.eqO (PySem.W.findIn K (.ref (He.ga K x)) z) (some (some (.ref (He.fAd K (x, some z))))) && (decide (PySem.W.specialIn K (.ref (He.fAd K (x, some z))) "__get__" = some (some (.builtin "property.__get__"))) && (decide (PySem.W.takesIn K (.ref (He.fAd K (x, some z))) = some true) && (match PySem.W.recIn K (He.fAd K (x, some z)) "property" with
  | some (.ref _ :: _) => true
  | _ => false)))
theorem propB_ok {K : PySem.W.Frag} {x z : Str} (h : propB K x z = true) : PropOf K (He.ga K x) z (He.fAd K (x, some z)) (gAd x z K) := by
  unfold propB at h
  simp only [Bool.and_eq_true, decide_eq_true_eq] at h
  obtain ⟨h1, h2, h3, h4⟩ := h
  refine ⟨He.eqO_ok h1, h2, h3, ?_⟩
  unfold gAd
  split at h4
  · rename_i g r q
    exact ⟨r, by rw [q]⟩
  · cases h4
open He in
theorem obsP_eq {n : Nat} {fa : List Fa} {fn : List DefD} {ts : List Tab} {tf : List Defn} {ex : PySem.W.Frag → Bool} {gs : List He5.DefA} {g : Addr → Option Obj} {s : Shared} (h : ∀ a, g a = s.heap.get? a) : obsP n fa fn ts tf ex gs g = (hookP n fa fn ts tf ex gs).obs s := by
  have e : g = s.heap.get? := funext h
  rw [e] <;> rfl
end MM
namespace MM
open PySem PySem.Spec PyProof.Rows L2
/-! ### a < b for lists and tuples of plain data; l.index(x) -/
section
variable {X : Cx} {W : WX} {o e : Expr} {es : List Expr} {mo : EM} {ms : AM} {apos cpos : Pos}
end
end MM
namespace MM
open PySem PySem.Spec PyProof.Rows L2
/-! ### sorted(l) of plain data -/
end MM
namespace MM
open PySem PySem.Spec PyProof.Rows L2
/-! ### sorted(d): the keys of a dict whose keys are plain tuples -/
end MM
namespace MM
open PySem PySem.Spec PyProof.Rows L2
/-! ### list(range(e)) -/
section
variable {X : Cx} {W : WX} {e : Expr} {me : EM} {p p2 pos pos2 : Pos}
end
end MM
namespace MM
open PySem PySem.Spec PyProof.Rows L2
/-! ### o.pop() as a value -/
def popC0 (o : R) : EM := fun _ S => match o with
  | .loc n => match S[n]? with
    | some (.lst ds) => match ds[ds.length - 1]? with
      | some x => some (.ok (.d x), S.set n (.lst ds.dropLast))
      | none => none
    | _ => none
  | _ => none
def popE0 (mo : EM) : EM := bindM (lstR mo) popC0
section
variable {X : Cx} {W : WX} {o : Expr} {mo : EM} {apos cpos : Pos}
end
@[simp] theorem popC0_loc {i : Nat} {ρ : Fr} {S : Sto} : popC0 (.loc i) ρ S = match S[i]? with
    | some (.lst ds) => match ds[ds.length - 1]? with
      | some x => some (.ok (.d x), S.set i (.lst ds.dropLast))
      | none => none
    | _ => none := rfl
@[simp] theorem popE0_ap {mo : EM} {ρ : Fr} {S : Sto} : popE0 mo ρ S = bindM (lstR mo) popC0 ρ S := rfl
end MM
/-! a < b < c as a test -/
namespace MM
open PySem PySem.Spec PyProof.Rows L2
section
variable {X : Cx} {W : WX} {e a b c : Expr} {pos : Pos} {ma mb mc : EM} {es : List Expr} {ms : AM} {mt nt : TM}
end
end MM
/-! y = {k: v for ..} on one line, y a local: the dict is stored ahead of the block's end -/
namespace MM
open PySem PySem.Spec PyProof.Rows L2
section
variable {X : Cx}
variable {W : WX} {mi : NM} {sl : List Nat} {t : TgM} {mt : TM} {mk mv : EM}
end
end MM
namespace MM
open PySem PySem.Spec PyProof.Rows L2
/-! ### a caught own error that is handed to a def, which asks for its classes -/
/-- what the class of an own error says -/
structure KindC (K : PySem.W.Frag) (D : Addr) : Prop where
  cl : (PySem.W.clsIn K D).isSome = true
  g1 : PySem.W.findIn K (.ref D) "__getattribute__" = some (some (.builtin "BaseException.__getattribute__"))
  g2 : PySem.W.findIn K (.ref D) "__getattr__" = some none
  sb : PySem.W.subIn K (.ref D) (.type "BaseException") = some true
  ca : PySem.W.findIn K (.ref D) "__class__" = some (some (.builtin "object.__class__"))
  sp : PySem.W.specialIn K (.builtin "object.__class__") "__get__" = some (some (.builtin "getset_descriptor.__get__"))
  tk : PySem.W.takesIn K (.builtin "object.__class__") = some true
  ob : PySem.W.mroIn K D (.type "object") = some true
def kindB (K : PySem.W.Frag) (x : Str) : Bool := (PySem.W.clsIn K (He.ga K x)).isSome && (He.eqO (PySem.W.findIn K (.ref (He.ga K x)) "__getattribute__") (some (some (.builtin "BaseException.__getattribute__"))) &&
  (He.eqO (PySem.W.findIn K (.ref (He.ga K x)) "__getattr__") (some none) && (decide (PySem.W.subIn K (.ref (He.ga K x)) (.type "BaseException") = some true) &&
  (He.eqO (PySem.W.findIn K (.ref (He.ga K x)) "__class__") (some (some (.builtin "object.__class__"))) && (He.eqO (PySem.W.specialIn K (.builtin "object.__class__") "__get__") (some (some (.builtin "getset_descriptor.__get__"))) &&
  (decide (PySem.W.takesIn K (.builtin "object.__class__") = some true) && decide (PySem.W.mroIn K (He.ga K x) (.type "object") = some true)))))))
theorem kindB_ok {K : PySem.W.Frag} {x : Str} (h : kindB K x = true) : KindC K (He.ga K x) := by
  unfold kindB at h
  simp only [Bool.and_eq_true] at h
  obtain ⟨h1, h2, h3, h4, h5, h6, h7, h8⟩ := h
  exact ⟨h1, He.eqO_ok h2, He.eqO_ok h3, of_decide_eq_true h4, He.eqO_ok h5, He.eqO_ok h6, of_decide_eq_true h7, of_decide_eq_true h8⟩
/-- isinstance's answer for an error of the class x -/
def kitB2 (K : PySem.W.Frag) (x : Str) (cv : Value) (b : Bool) : Bool := decide (PySem.W.kitOne K (.ref (He.ga K x)) cv = some b)
/-- the error's object p, of the class c -/
structure ErrAt (K : PySem.W.Frag) (p : Addr × Obj) (c : Str) (H : Hp) : Prop where
  cls : p.2.cls = .ref (He.ga K c)
  fld : ∃ vs, p.2.data = .fields vs
  dct : p.2.dict = none ∨ ∃ dd vs, p.2.dict = some dd ∧ H dd = some (.xd vs)
theorem ErrAt.upd {K : PySem.W.Frag} {p : Addr × Obj} {c : Str} {H : Hp} {q : Addr} {o : HO} (h : ErrAt K p c H) (hq : H q = none) : ErrAt K p c (L2.upd H q o) := by
  refine ⟨h.cls, h.fld, ?_⟩
  rcases h.dct with d | ⟨dd, vs, d, e⟩
  · exact .inl d
  · refine .inr ⟨dd, vs, d, ?_⟩
    rw [upd_ne (fun z => by rw [z, hq] at e; cases e)]
    exact e
def rKind (K : PySem.W.Frag) (p : Addr × Obj) (c : Str) : List V → Hp → VK → Prop := fun xs H Q => ∃ (v : V) (cv : Value) (b : Bool), xs = [.ref p.1, v] ∧ (∀ u, RelV v u → u = cv) ∧ ErrAt K p c H ∧ PySem.W.kitOne K (.ref (He.ga K c)) cv = some b ∧ Q (.bl b) H
theorem call_kind {X : Cx} {p : Addr × Obj} {c : Str} (hp : p ∈ X.pn) (C : KindC X.K (He.ga X.K c)) : CallR X (.builtin "isinstance") (rKind X.K p c) := by
  intro pins s σ H xs us Q I r ⟨v, cv, b, e0, hcv, ⟨e1, ⟨vs, e2⟩, e3⟩, e, q⟩
  subst e0
  obtain ⟨u1, u2, rfl, r1, r2⟩ := vals2 r
  obtain rfl : u1 = Value.ref p.1 := r1
  obtain rfl := hcv _ r2
  have hget := (I.pin p (List.mem_append_left _ hp)).1
  have nc : PySem.W.notCls p.2 = true := by unfold PySem.W.notCls; rw [e2]
  obtain ⟨od, J⟩ : ∃ od, PySem.W.InstAt s.heap p.1 p.2 (He.ga X.K c) od := by
    rcases e3 with d | ⟨dd, ws, d, hd⟩
    · exact ⟨none, hget, e1, nc, by rw [d]; trivial⟩
    · obtain ⟨_, ⟨_, _, _, z, _⟩, _⟩ := (show ObjOk X.prog X.w H s.heap dd (.xd ws) from I.hok dd _ hd)
      exact ⟨some _, hget, e1, nc, by rw [d]; exact z⟩
  exact PySem.W.kia_one (PySem.W.kitx_exc C.cl C.g1 C.g2 C.sb C.ca C.sp C.tk C.ob) I.kIn J e (fun z => nomatch z) fun tk => ⟨.bl b, H, I.tok tk, rfl, q⟩
/-- isinstance(e, C) there -/
theorem pe_kind {X : Cx} {p : Addr × Obj} {c n : Str} {e : Expr} {v : V} {cv : Value} {b : Bool} {q1 q2 q3 : Pos} (hp : p ∈ X.pn) (C : KindC X.K (He.ga X.K c)) (hm : X.mg "isinstance" = none) (he : PE X e (tC v)) (hcv : ∀ u, RelV v u → u = cv) (hk : PySem.W.kitOne X.K (.ref (He.ga X.K c)) cv = some b)
    (hN : X.N[0]? = some n := by rfl) (hv : Vis X.env.scope n := by first | exact Or.inl rfl | exact Or.inr (Or.inl rfl) | exact Or.inr (Or.inr rfl)) (hg : Gl X "isinstance" := by rfl) (d1 : (n == ("__debug__" : Str)) = false := by decide) (d2 : (n == ("__classdict__" : Str)) = false := by decide)
    (s1 : starEach [.Name n q2, e] X.env = (false, eval (.Name n q2) X.env) :: starEach [e] X.env := by rfl) (s2 : starEach [e] X.env = (false, eval e X.env) :: starEach [] X.env := by rfl) (hpl : (backTo q3 (starEach [e] X.env)).any (·.1) = false := by rfl) :
    PE X (.Call (.Name "isinstance" q1) [.Name n q2, e] [] q3) (fun σ H Q => σ[0]? = some (some (.ref p.1)) ∧ ErrAt X.K p c H ∧ Q (.bl b) H) :=
  PE.imp (pe_callB (call_kind hp C) hg hm MM.boot_isinstance (pa_cons (pe_var hN hv d1 d2) (pa_cons he pa_nil s2) s1) (by decide) (by decide) s1 hpl) fun σ H Q ⟨h1, h2, h3⟩ => ⟨_, h1, v, cv, b, rfl, hcv, h2, hk, h3⟩
/-- some of them in a row -/
def tKinds (K : PySem.W.Frag) (p : Addr × Obj) (c : Str) (bs : List Bool) : TA := fun σ H Q => σ[0]? = some (some (.ref p.1)) ∧ ErrAt K p c H ∧ Q (bs.map V.bl) H
theorem pa_kind0 {X : Cx} {p : Addr × Obj} {c : Str} : PA X [] (tKinds X.K p c []) := ⟨fun pos pins s σ H Q I h => pa_nil.run pos pins s σ H Q I h.2.2⟩
theorem pa_kinds {X : Cx} {p : Addr × Obj} {c : Str} {e : Expr} {es : List Expr} {b : Bool} {bs : List Bool} (he : PE X e (fun σ H Q => σ[0]? = some (some (.ref p.1)) ∧ ErrAt X.K p c H ∧ Q (.bl b) H)) (hr : PA X es (tKinds X.K p c bs)) (hs : starEach (e :: es) X.env = (false, eval e X.env) :: starEach es X.env := by rfl) :
    PA X (e :: es) (tKinds X.K p c (b :: bs)) := ⟨fun pos pins s σ H Q I h => (pa_cons he hr hs).run pos pins s σ H Q I ⟨h.1, h.2.1, h.1, h.2.1, h.2.2⟩⟩
/-- what the def's call leaves: five new lists -/
def KQ (b1 b2 b3 : List Bool) (H : Hp) (Q : VK) : Prop := ∀ p1, H p1 = none → ∀ p2, upd H p1 (.lst (b1.map .bl)) p2 = none → ∀ p3, upd (upd H p1 (.lst (b1.map .bl))) p2 (.lst (b2.map .bl)) p3 = none →
  ∀ p4, upd (upd (upd H p1 (.lst (b1.map .bl))) p2 (.lst (b2.map .bl))) p3 (.lst (b1.map .bl ++ b2.map .bl)) p4 = none →
  ∀ p5, upd (upd (upd (upd H p1 (.lst (b1.map .bl))) p2 (.lst (b2.map .bl))) p3 (.lst (b1.map .bl ++ b2.map .bl))) p4 (.lst (b3.map .bl)) p5 = none →
  Q (.ref p5) (upd (upd (upd (upd (upd H p1 (.lst (b1.map .bl))) p2 (.lst (b2.map .bl))) p3 (.lst (b1.map .bl ++ b2.map .bl))) p4 (.lst (b3.map .bl))) p5 (.lst ((b1.map .bl ++ b2.map .bl) ++ b3.map .bl)))
def tKindBody (K : PySem.W.Frag) (p : Addr × Obj) (c : Str) (b1 b2 b3 : List Bool) : TS := fun D σ H => σ = [some (.ref p.1), none] ∧ ErrAt K p c H ∧ b1.length + b2.length + b3.length ≤ 100 ∧ KQ b1 b2 b3 H D.rt
theorem kind_body {X : Cx} {p : Addr × Obj} {c : Str} {b1 b2 b3 : List Bool} {s1 s2 s3 : Stmt}
    (h1 : PS X s1 (tAsg (tLst (tKinds X.K p c b1)) (gName 1))) (h2 : PS X s2 (tAsg (tOp rCat (tVar 1) (tLst (tKinds X.K p c b2))) (gName 1))) (h3 : PS X s3 (tRet (tOp rCat (tVar 1) (tLst (tKinds X.K p c b3))))) : PSs X [s1, s2, s3] (tKindBody X.K p c b1 b2 b3) := by
  refine PSs.imp (pss_cons h1 (pss_cons h2 (pss_one h3))) fun D σ H ⟨e, he, hl, hq⟩ => ?_
  subst e
  have z : ∀ n : Nat, n ≤ 100 → n ≤ sizeLine := fun n h => Nat.le_trans h (by decide)
  refine ⟨rfl, he, by rw [List.length_map]; exact z _ (by omega), fun p1 f1 => ?_⟩
  refine ⟨.ref p1, rfl, rfl, he.upd f1, by rw [List.length_map]; exact z _ (by omega), fun p2 f2 => ?_⟩
  have n12 : p2 ≠ p1 := fun z => by rw [z, upd_same] at f2; cases f2
  refine ⟨p1, p2, b1.map .bl, b2.map .bl, rfl, rfl, by rw [upd_ne (Ne.symm n12), upd_same], upd_same, by rw [List.length_map, List.length_map]; exact z _ (by omega), fun p3 f3 => ?_⟩
  refine ⟨.ref p3, rfl, rfl, ((he.upd f1).upd f2).upd f3, by rw [List.length_map]; exact z _ (by omega), fun p4 f4 => ?_⟩
  have n34 : p4 ≠ p3 := fun z => by rw [z, upd_same] at f4; cases f4
  exact ⟨p3, p4, b1.map .bl ++ b2.map .bl, b3.map .bl, rfl, rfl, by rw [upd_ne (Ne.symm n34), upd_same], upd_same, by rw [List.length_append, List.length_map, List.length_map, List.length_map]; exact z _ (by omega), fun p5 f5 => hq p1 f1 p2 f2 p3 f3 p4 f4 p5 f5⟩
/-! ### the def -/
abbrev noCX : CXT := fun _ _ _ _ _ _ => False
abbrev noXK : XK := fun _ _ _ => False
/-- the def's promise at an error of a class c that the table names -/
def FnKd (P : Program) (w : World) (K : PySem.W.Frag) (mg : Str → Option Value) (base : Heap) (k : Nat) (f : Addr) (fd : FuncData) (ps : List Str) (tab : List (Str × List Bool × List Bool × List Bool)) : Prop :=
  ∀ (A : Around) (outer : List Env) (s : Shared) (H : Hp) (args : Args) (p : Addr × Obj) (Q : VK) (row : Str × List Bool × List Bool × List Bool), row ∈ tab → L2H.RoomH k A → L2H.PinOk outer H s p → Env0 P w K mg base A outer s H →
    BindsTo s fd args (ps.zip [.ref p.1]) → ErrAt K p row.1 H → KQ row.2.1 row.2.2.1 row.2.2.2 H Q → codeAny (model P w) A (.call (.ref f) args) (CR noCX outer P w H s Q noXK) s
theorem fn_kind {P : Program} {w : World} {K : PySem.W.Frag} {mg : Str → Option Value} {base : Heap} {x qual e0 e1 : Str} {params : Arguments} {body : List Stmt} {scope : Scope} {f : Addr} {fd : FuncData} {k : Nat} {tab : List (Str × List Bool × List Bool × List Bool)}
    (F : FunD K x qual params body scope [] [] f fd) (sc : FnScope [e0, e1] [e0] scope) (hl : ∀ row ∈ tab, row.2.1.length + row.2.2.1.length + row.2.2.2.length ≤ 100)
    (hb : ∀ (cdv : Value) (A : Around) (outer : List Env) (s : Shared) (H : Hp) (p : Addr × Obj) (row : Str × List Bool × List Bool × List Bool), row ∈ tab → PSs (L2H.cxH noCX P w K mg base [e0, e1] qual scope f cdv A outer s H noXK p) body (tKindBody K p row.1 row.2.1 row.2.2.1 row.2.2.2)) :
    FnKd P w K mg base (k + 1) f fd [e0] tab := by
  intro A outer s H args p Q row hrow hr hpin e0' hb0 hE hq
  obtain ⟨oc, od, dV, kV, doc, pm, an, cdv, ct, osl, rfl, lk, hcd, _, _⟩ := F.ex
  have inK : K.In s.heap := e0'.mod.kin.keeps fun b o e => (e0'.bs b o e).1
  have nl : s.heap.NoLimit := e0'.mod.nolimit.keeps fun b o e => (e0'.bs b o e).1
  have kinds : ∀ y ∈ [e0].zip [Value.ref p.1], scope.names.lookup y.1 = some .local ∨ (scope.names.lookup y.1 = some .cell ∧ ((cellsFrom (s.heap.objs.size + 1) scope.names []).lookup y.1).isSome = true) := fun ⟨n, v⟩ hy => by
    rcases sc.par n (List.of_mem_zip hy).1 with q | q
    · exact Or.inl q
    · exact Or.inr ⟨q, PySem.W.cellsFrom_some _ _ _ (Or.inl q)⟩
  refine codeAny_call_function hr.depth (inK _ _ lk) rfl sc.co sc.gen rfl (PySem.W.codeRec_of inK hcd) (hb0 _ _ _ _ ?_)
  refine wpAny_newFunctionEnv_cells sc.kind kinds fun env he s1 xc => ?_
  subst he
  refine ⟨nl.keeps xc.toInCall.keep, codeAny_func ?_⟩
  have J : Inv (L2H.cxH noCX P w K mg base [e0, e1] qual scope f cdv A outer s H noXK p) [] (L2.start [e0, e1] [.ref p.1]) H s1 := L2H.inv_startH (ps := [e0]) (us := [.ref p.1]) (vs := [.ref p.1]) sc hpin e0' rfl (.cons rfl .nil) xc
  refine wpAny_mono ((hb cdv A outer s H p row hrow).run [] s1 (L2.start [e0, e1] [.ref p.1]) H { nx := fun _ _ => False, rt := Q } J ⟨rfl, hE, hl row hrow, hq⟩) (fun fl s' hs => ?_) fun e s' hs => hs
  cases fl with
  | ret u =>
    obtain ⟨v, σ', H', J', rv, q⟩ := hs
    exact ⟨v, H', J'.os, J'.bare, J'.base, J'.hok, rv, q⟩
  | next => obtain ⟨_, _, _, q⟩ := hs; exact q.elim
  | brk => obtain ⟨_, _, _, q⟩ := hs; exact q.elim
  | cont => obtain ⟨_, _, _, q⟩ := hs; exact q.elim
/-! ### the suite x = f(e) -/
def kindM (tab : List (Str × List Bool × List Bool × List Bool)) (j : Nat) (c : Str) (_ : List (Str × D)) : SM := fun ρ S => match tab.find? (fun row => decide (row.1 = c)) with
  | some row => setR j (.d (.lst ((row.2.1 ++ row.2.2.1 ++ row.2.2.2).map .bl))) ρ S
  | none => none
theorem rep_bls {K : PySem.W.Frag} {w : World} {F : Hp} : ∀ bs : List Bool, RepAll K w F (bs.map D.bl) (bs.map V.bl)
  | [] => .nil
  | b :: bs => .cons (.bl b) (rep_bls bs)
section
variable {X : Cx} {a : Addr} {oe : Obj} {cls : Value} {d : Option Addr} {pn : List (Addr × Obj)} {pos p1 p2 p3 p4 : Pos}
theorem hs_kind (i j : Nat) {k : Nat} {f : Addr} {fd : FuncData} {g n x y : Str} {tab : List (Str × List Bool × List Bool × List Bool)} (F : FnKd X.prog X.w X.K X.mg X.base k f fd [y] tab) (hr : Room k X.A) (hm : X.mg g = some (.ref f)) (hk : PySem.W.keepIn X.K (.ref f) = true) (hb : Binds X.K fd [y] [])
    (hz : Zc cls d oe) (hf : ∃ vs, oe.data = .fields vs) (hN : X.N.Nodup) (hi : X.N[i]? = some n := by rfl) (hj : X.N[j]? = some x := by rfl)
    (vi : Vis X.env.scope n := by first | exact Or.inl rfl | exact Or.inr (Or.inl rfl) | exact Or.inr (Or.inr rfl)) (lj : Loc X.env.scope x := by first | exact Or.inl rfl | exact Or.inr rfl) (hg : Gl X g := by rfl) (d1 : (n == ("__debug__" : Str)) = false := by decide) (d2 : (n == ("__classdict__" : Str)) = false := by decide) (d3 : (g == ("__debug__" : Str)) = false := by decide)
    (hs : swapsWith (.Call (.Name g p1) [.Name n p2] [] pos) (some (.Name x p3)) p4.line X.env = pure false := by rfl) (hfn : X.fn x = true ∨ X.env.scope.names.lookup x = some .local := by first | exact .inl rfl | exact .inr rfl)
    (s1 : starEach [.Name n p2] X.env = (false, eval (.Name n p2) X.env) :: starEach [] X.env := by rfl) (hpl : (backTo pos (starEach [] X.env)).any (·.1) = false := by rfl) :
    PSs (X.suite a ((a, oe) :: pn)) [.Assign [.Name x p3] (.Call (.Name g p1) [.Name n p2] [] pos) p4] (tSx X.K X.w (some i) (kindM tab j) a cls d) := by
  have call : ∀ row ∈ tab, PE (X.suite a ((a, oe) :: pn)) (.Call (.Name g p1) [.Name n p2] [] pos) (fun σ H Q => σ[i]? = some (some (.ref a)) ∧ ErrAt X.K (a, oe) row.1 H ∧ KQ row.2.1 row.2.2.1 row.2.2.2 H Q) := fun row hrow => by
    refine ⟨fun pins s σ H Q I ⟨h1, h2, h3⟩ => ?_⟩
    refine wpAny_Call_Name_kw (ld_glob (X := X.suite a ((a, oe) :: pn)) I hg hm ?_ d3)
    refine PySem.W.callWith_K (h₀ := X.base) I.ok.mod.kin hk (thn ((pa_cons (X := X.suite a ((a, oe) :: pn)) (pe_var (X := X.suite a ((a, oe) :: pn)) hi vi d1 d2) pa_nil s1).run pos pins s σ H (fun vs H' => vs = [.ref a] ∧ H' = H) I ⟨_, h1, rfl, rfl⟩) fun us s2 ⟨vs, H1, I1, r, q1, q2⟩ => ⟨I1.kIn, ?_⟩) s1 hpl
    subst q1 q2
    cases r with
    | cons rv rr =>
      cases rr
      obtain rfl := (show _ = Value.ref a from rv)
      have P1 := I1.pin (a, oe) (List.mem_append_left _ List.mem_cons_self)
      have hpin : L2H.PinOk X.stack H1 s2 (a, oe) := ⟨P1.1, P1.2.1, fun hm => (List.mem_cons.mp (I1.stkSub a hm)).elim P1.2.2.1 P1.2.2.2.1, P1.2.2.2.2⟩
      have b := hb s2 [.ref a] I1.kIn rfl
      rw [List.append_nil] at b
      refine wpAny_call (codeAny_mono (F (X.A.mark (some (.ref a))) X.stack s2 H1 ⟨[.ref a], []⟩ (a, oe) Q row hrow ⟨hr.dp, hr.un⟩ hpin I1.env0 b h2 h3) fun r s' hq => ?_)
      cases r with
      | error e => exact False.elim hq
      | ok fl =>
        cases fl with
        | ret u => exact I1.after hq
        | next => exact False.elim hq
        | brk => exact False.elim hq
        | cont => exact False.elim hq
  refine ⟨fun pins s σ H En I h => ?_⟩
  obtain ⟨B, F0, μ, ρ, S, c, fs, e1, e2, e3, xo, fl⟩ := h
  obtain ⟨g1, g2⟩ := e3 i rfl
  unfold kindM at fl
  cases q : tab.find? (fun row => decide (row.1 = c)) with
  | none => simp only [q] at fl; exact (fl.none_ : False).elim
  | some row =>
    simp only [q] at fl
    have hrow := List.mem_of_find?_eq_some q
    have hc : row.1 = c := of_decide_eq_true (List.find?_some (p := fun row : Str × List Bool × List Bool × List Bool => decide (row.1 = c)) q)
    refine (pss_one (ps_set (X := X.suite a ((a, oe) :: pn)) hN hj lj (call row hrow) hs hfn)).run pins s σ H En I ⟨g1, ⟨?_, hf, ?_⟩, ?_⟩
    · rw [hc]; exact hz.1.trans e1
    · rcases e2 with ⟨h, _⟩ | ⟨dx, vs, h, h4, _⟩
      · exact .inl (hz.2.trans h)
      · exact .inr ⟨dx, vs, hz.2.trans h, xo.rel.le _ _ h4⟩
    · intro p1 f1 p2 f2 p3 f3 p4 f4 p5 f5
      have st1 := Step.new1 xo.rel.le f1 (.lst (row.2.1.map V.bl))
      have st2 := Step.new1 st1.le f2 (.lst (row.2.2.1.map V.bl))
      have st3 := Step.new1 st2.le f3 (.lst (row.2.1.map V.bl ++ row.2.2.1.map V.bl))
      have st4 := Step.new1 st3.le f4 (.lst (row.2.2.2.map V.bl))
      have st5 := Step.new1 st4.le f5 (.lst ((row.2.1.map V.bl ++ row.2.2.1.map V.bl) ++ row.2.2.2.map V.bl))
      have st := st1.trans (st2.trans (st3.trans (st4.trans st5)))
      have x2 := xo.grow st.grow (xo.rel.step st)
      have fl2 := flowAt.mono st.f fl
      unfold setR at fl2
      by_cases cl : closedR (.d (.lst ((row.2.1 ++ row.2.2.1 ++ row.2.2.2).map D.bl))) = true ∧ j < ρ.length
      · rw [if_pos cl] at fl2
        refine fl2.nx (x2.set (r := .d (.lst ((row.2.1 ++ row.2.2.1 ++ row.2.2.2).map D.bl))) (Rep.lst upd_same ?_) rfl cl.2)
        have := rep_bls (K := X.K) (w := X.w) (F := upd (upd (upd (upd (upd F0 p1 (.lst (row.2.1.map V.bl))) p2 (.lst (row.2.2.1.map V.bl))) p3 (.lst (row.2.1.map V.bl ++ row.2.2.1.map V.bl))) p4 (.lst (row.2.2.2.map V.bl))) p5 (.lst ((row.2.1.map V.bl ++ row.2.2.1.map V.bl) ++ row.2.2.2.map V.bl))) (row.2.1 ++ row.2.2.1 ++ row.2.2.2)
        rw [List.map_append, List.map_append] at this
        simpa using this
      · rw [if_neg cl] at fl2; exact fl2.none_
/-- such a def by its name -/
def ClKd (P : Program) (w : World) (K : PySem.W.Frag) (mg : Str → Option Value) (base : Heap) (k : Nat) (g y : Str) (tab : List (Str × List Bool × List Bool × List Bool)) : Prop := ∃ f fd, FnKd P w K mg base k f fd [y] tab ∧ mg g = some (.ref f) ∧ PySem.W.keepIn K (.ref f) = true ∧ Binds K fd [y] []
theorem hs_kindC (i j : Nat) {k m : Nat} {g n x y : Str} {tab : List (Str × List Bool × List Bool × List Bool)} (C : ClKd X.prog X.w X.K X.mg X.base k g y tab) (hr : Room m X.A) (le : k ≤ m)
    (hz : Zc cls d oe) (hf : ∃ vs, oe.data = .fields vs) (hN : X.N.Nodup) (hi : X.N[i]? = some n := by rfl) (hj : X.N[j]? = some x := by rfl)
    (vi : Vis X.env.scope n := by first | exact Or.inl rfl | exact Or.inr (Or.inl rfl) | exact Or.inr (Or.inr rfl)) (lj : Loc X.env.scope x := by first | exact Or.inl rfl | exact Or.inr rfl) (hg : Gl X g := by rfl) (d1 : (n == ("__debug__" : Str)) = false := by decide) (d2 : (n == ("__classdict__" : Str)) = false := by decide) (d3 : (g == ("__debug__" : Str)) = false := by decide)
    (hs : swapsWith (.Call (.Name g p1) [.Name n p2] [] pos) (some (.Name x p3)) p4.line X.env = pure false := by rfl) (hfn : X.fn x = true ∨ X.env.scope.names.lookup x = some .local := by first | exact .inl rfl | exact .inr rfl)
    (s1 : starEach [.Name n p2] X.env = (false, eval (.Name n p2) X.env) :: starEach [] X.env := by rfl) (hpl : (backTo pos (starEach [] X.env)).any (·.1) = false := by rfl) :
    PSs (X.suite a ((a, oe) :: pn)) [.Assign [.Name x p3] (.Call (.Name g p1) [.Name n p2] [] pos) p4] (tSx X.K X.w (some i) (kindM tab j) a cls d) := by
  obtain ⟨f, fd, F, hm, hk, hb⟩ := C
  exact hs_kind i j F (hr.mono le) hm hk hb hz hf hN hi hj vi lj hg d1 d2 d3 hs hfn s1 hpl
end
end MM
namespace SH
open PySem PySem.Spec PyProof.Rows L2 MM
noncomputable section
def b_is_number : SM := retM (andV (callM isiF (consA (varM 0) (consA (litM (.ty "int")) (nilA)))) (andV (notV (callM isiF (consA (varM 0) (consA (litM (.ty "bool")) (nilA))))) (chainM leD leD (varM 1) (varM 0) (varM 2))))
def m_is_number : FM := funM true 3 0 b_is_number
def b_is_rule : SM := seqM (ifM (orT (notT (truM (callM isiF (consA (varM 0) (consA (litM (.ty "tuple")) (nilA)))))) (orT (bT (op2M neD (callM lenF (consA (varM 0) (nilA))) (litM (.int 7)))) (orT (notT (truM (callM isiF (consA (op2M ixD (varM 0) (litM (.int 0))) (consA (litM (.ty "str")) (nilA)))))) (bT (op2M ninD (op2M ixD (varM 0) (litM (.int 0))) (litM (.tup [(.str "account"), (.str "place"), (.str "both")]))))))) (retM (litM (.bl false))) (nxM)) (seqM (ifM (orT (notT (truM (callN 3 m_is_number (consA (op2M ixD (varM 0) (litM (.int 1))) (consA (litM (.int 1)) (consA (litM (.int 3)) (nilA))))))) (orT (notT (truM (callN 3 m_is_number (consA (op2M ixD (varM 0) (litM (.int 2))) (consA (litM (.int 1)) (consA (litM (.int 4)) (nilA))))))) (notT (truM (callN 3 m_is_number (consA (op2M ixD (varM 0) (litM (.int 3))) (consA (litM (.int 0)) (consA (litM (.int 5)) (nilA))))))))) (retM (litM (.bl false))) (nxM)) (retM (callM allF (consA (ofNew (lcM (iSeqM (slM (varM 0) (partM (litM (.int 4))) (noP))) [1] (nameT 1) (yesT) (callM isiF (consA (varM 1) (consA (litM (.ty "bool")) (nilA)))))) (nilA)))))
def m_is_rule : FM := funM true 1 1 b_is_rule
def b_Book_init : SM := seqM (ifM (bT (op2M gtD (callM lenF (consA (varM 1) (nilA))) (litM (.int 3)))) (raise1M "BadRule" "index" (litM (.int 3))) (nxM)) (seqM (forX (consA (varM 1) (nilA)) (tupT [nameT 4, nameT 5]) (ifM (notT (truM (callN 1 m_is_rule (consA (varM 5) (nilA))))) (raise1M "BadRule" "index" (varM 4)) (nxM))) (seqM (ifM (orT (notT (truM (callN 3 m_is_number (consA (varM 2) (consA (litM (.int 1)) (consA (litM (.int 2)) (nilA))))))) (orT (notT (truM (callN 3 m_is_number (consA (varM 3) (consA (litM (.int 1)) (consA (litM (.int 2)) (nilA))))))) (bT (op2M gtD (op2M mulD (varM 2) (varM 3)) (litM (.int 2)))))) (raiseM "BadCount") (nxM)) (seqM (sfldM "Book" "rules" (callM tupleF (consA (varM 1) (nilA))) (varM 0)) (seqM (sfldM "Book" "accounts" (varM 2) (varM 0)) (sfldM "Book" "places" (varM 3) (varM 0))))))
def m_Book_init : FM := funM true 4 2 b_Book_init
def b_is_action : SM := seqM (ifM (bT (op2M isD (varM 1) (litM .non))) (retM (litM (.bl true))) (nxM)) (seqM (ifM (orT (notT (truM (callM isiF (consA (varM 1) (consA (litM (.ty "tuple")) (nilA)))))) (orT (notT (truM (varM 1))) (notT (truM (callM isiF (consA (op2M ixD (varM 1) (litM (.int 0))) (consA (litM (.ty "str")) (nilA)))))))) (retM (litM (.bl false))) (nxM)) (seqM (ifM (bT (op2M eqD (op2M ixD (varM 1) (litM (.int 0))) (litM (.str "open")))) (retM (andV (op2M eqD (callM lenF (consA (varM 1) (nilA))) (litM (.int 2))) (callN 3 m_is_number (consA (op2M ixD (varM 1) (litM (.int 1))) (consA (litM (.int 0)) (consA (op2M subD (fldM "Book" "accounts" (varM 0)) (litM (.int 1))) (nilA))))))) (nxM)) (seqM (ifM (orT (bT (op2M neD (op2M ixD (varM 1) (litM (.int 0))) (litM (.str "try")))) (orT (bT (op2M neD (callM lenF (consA (varM 1) (nilA))) (litM (.int 4)))) (notT (truM (callM isiF (consA (op2M ixD (varM 1) (litM (.int 3))) (consA (litM (.ty "bool")) (nilA)))))))) (retM (litM (.bl false))) (nxM)) (retM (andV (callN 3 m_is_number (consA (op2M ixD (varM 1) (litM (.int 1))) (consA (litM (.int 0)) (consA (op2M subD (fldM "Book" "accounts" (varM 0)) (litM (.int 1))) (nilA))))) (callN 3 m_is_number (consA (op2M ixD (varM 1) (litM (.int 2))) (consA (litM (.int 0)) (consA (op2M subD (fldM "Book" "places" (varM 0)) (litM (.int 1))) (nilA))))))))))
def m_is_action : FM := funM true 2 0 b_is_action
def b_check_actions : SM := ifM (notT (truM (callM allF (consA (ofNew (lcM (iSeqM (varM 1)) [2] (nameT 2) (yesT) (callN 2 m_is_action (consA (varM 0) (consA (varM 2) (nilA)))))) (nilA))))) (raiseM "BadAction") (nxM)
def m_check_actions : FM := funM true 2 1 b_check_actions
def b_pairs_of : SM := retM (ofNew (lc2M (iRng1M (consA (fldM "Book" "accounts" (varM 0)) (nilA))) [1, 2] [2] (nameT 1) (yesT) (iRng1M (consA (fldM "Book" "places" (varM 0)) (nilA))) (nameT 2) (yesT) (tupM (consA (varM 1) (consA (varM 2) (nilA))))))
def m_pairs_of : FM := funM true 1 2 b_pairs_of
def b_keys_of : SM := seqM (ifM (bT (op2M eqD (op2M ixD (varM 1) (litM (.int 0))) (litM (.str "account")))) (retM (ofNew (lcM (iRng1M (consA (fldM "Book" "accounts" (varM 0)) (nilA))) [2] (nameT 2) (yesT) (tupM (consA (varM 2) (consA (litM .non) (nilA))))))) (nxM)) (seqM (ifM (bT (op2M eqD (op2M ixD (varM 1) (litM (.int 0))) (litM (.str "place")))) (retM (ofNew (lcM (iRng1M (consA (fldM "Book" "places" (varM 0)) (nilA))) [3] (nameT 3) (yesT) (tupM (consA (litM .non) (consA (varM 3) (nilA))))))) (nxM)) (retM (callN 1 m_pairs_of (consA (varM 0) (nilA)))))
def m_keys_of : FM := funM true 2 2 b_keys_of
def b_first_standing : SM := retM (callM tupleF (consA (ofNew (lcM (iSeqM (fldM "Book" "rules" (varM 0))) [1] (nameT 1) (yesT) (callM tupleF (consA (ofNew (lcM (iSeqM (callN 2 m_keys_of (consA (varM 0) (consA (varM 1) (nilA))))) [2] (nameT 2) (yesT) (litM (.tup [(.int 0), (.int 0), (.int 0), (.int 0), (.int 0)])))) (nilA))))) (nilA)))
def m_first_standing : FM := funM true 1 2 b_first_standing
def b_is_at : SM := retM (andV (op2M inD (op2M ixD (varM 0) (litM (.int 0))) (tupM (consA (litM .non) (consA (varM 1) (nilA))))) (op2M inD (op2M ixD (varM 0) (litM (.int 1))) (tupM (consA (litM .non) (consA (varM 2) (nilA))))))
def m_is_at : FM := funM true 3 0 b_is_at
def b_left_at : SM := seqM (ownM 4 (newR (nilA))) (seqM (forM (iZipM (consA (fldM "Book" "rules" (varM 0)) (consA (varM 1) (nilA)))) (tupT [nameT 5, nameT 6]) (forM (iZipXM (consA (callN 2 m_keys_of (consA (varM 0) (consA (varM 5) (nilA)))) (consA (varM 6) (nilA)))) (tupT [nameT 7, nameT 8]) (ifM (truM (callN 3 m_is_at (consA (varM 7) (consA (varM 2) (consA (varM 3) (nilA)))))) (appM (varM 4) (op2M ixD (varM 8) (litM (.int 2)))) (nxM)))) (seqM (frzS 4) (retM (varM 4))))
def m_left_at : FM := funM true 4 5 b_left_at
def b_is_locked : SM := retM (callM anyF (consA (ofNew (lcM (iSeqM (callN 4 m_left_at (consA (varM 0) (consA (varM 1) (consA (varM 2) (consA (varM 3) (nilA))))))) [4] (nameT 4) (yesT) (op2M gtD (varM 4) (litM (.int 0))))) (nilA)))
def m_is_locked : FM := funM true 4 1 b_is_locked
def b_passed : SM := seqM (asgM (varM 1) (tupT [nameT 3, nameT 4, nameT 5, nameT 6, nameT 7])) (seqM (setM 5 (callM maxF (consA (op2M subD (varM 5) (varM 2)) (consA (litM (.int 0)) (nilA))))) (seqM (ifM (andT (truM (op2M ixD (varM 0) (litM (.int 3)))) (truM (varM 3))) (seqM (augM (fun i j => i + j) 4 (varM 2)) (ifM (bT (op2M geD (varM 4) (op2M ixD (varM 0) (litM (.int 3))))) (asgM (tupM (consA (litM (.int 0)) (consA (litM (.int 0)) (nilA)))) (tupT [nameT 3, nameT 4])) (nxM))) (nxM)) (retM (tupM (consA (varM 3) (consA (varM 4) (consA (varM 5) (consA (ifV (truM (varM 5)) (varM 6) (litM (.int 0))) (consA (varM 7) (nilA))))))))))
def m_passed : FM := funM true 3 5 b_passed
def b_idle : SM := retM (callM tupleF (consA (ofNew (lcM (iZipM (consA (fldM "Book" "rules" (varM 0)) (consA (varM 1) (nilA)))) [3, 4] (tupT [nameT 3, nameT 4]) (yesT) (callM tupleF (consA (ofNew (lcM (iSeqM (varM 4)) [5] (nameT 5) (yesT) (callN 3 m_passed (consA (varM 3) (consA (varM 5) (consA (varM 2) (nilA))))))) (nilA))))) (nilA)))
def m_idle : FM := funM true 3 3 b_idle
def b_begun : SM := seqM (asgM (varM 1) (tupT [nameT 2, nameT 3, nameT 4, nameT 5, nameT 6])) (seqM (ifM (bT (op2M ltD (op2M addD (varM 2) (litM (.int 1))) (op2M ixD (varM 0) (litM (.int 1))))) (retM (callN 3 m_passed (consA (varM 0) (consA (tupM (consA (op2M addD (varM 2) (litM (.int 1))) (consA (litM (.int 0)) (consA (litM (.int 0)) (consA (litM (.int 0)) (consA (varM 6) (nilA))))))) (consA (litM (.int 1)) (nilA)))))) (nxM)) (seqM (setM 7 (op2M mulD (op2M ixD (varM 0) (litM (.int 2))) (ifV (truM (op2M ixD (varM 0) (litM (.int 5)))) (op2M ixD (litM (.tup [(.int 1), (.int 2), (.int 4)])) (varM 6)) (litM (.int 1))))) (retM (tupM (consA (litM (.int 0)) (consA (litM (.int 0)) (consA (varM 7) (consA (varM 7) (consA (ifV (truM (op2M ixD (varM 0) (litM (.int 5)))) (callM minF (consA (op2M addD (varM 6) (litM (.int 1))) (consA (litM (.int 2)) (nilA)))) (litM (.int 0))) (nilA))))))))))
def m_begun : FM := funM true 2 6 b_begun
def b_kept_part : SM := seqM (ifM (andT (truM (op2M ixD (varM 0) (litM (.int 6)))) (bT (op2M gtD (op2M ixD (varM 1) (litM (.int 2))) (litM (.int 0))))) (seqM (asgM (callN 3 m_passed (consA (varM 0) (consA (varM 1) (consA (litM (.int 1)) (nilA))))) (tupT [nameT 2, nameT 3, nameT 4, nameT 5, nameT 6])) (retM (tupM (consA (varM 2) (consA (varM 3) (consA (op2M ixD (varM 1) (litM (.int 3))) (consA (op2M ixD (varM 1) (litM (.int 3))) (consA (varM 6) (nilA))))))))) (nxM)) (retM (callN 3 m_passed (consA (varM 0) (consA (varM 1) (consA (litM (.int 1)) (nilA))))))
def m_kept_part : FM := funM true 2 5 b_kept_part
def b_let_part : SM := seqM (ifM (truM (op2M ixD (varM 0) (litM (.int 4)))) (retM (tupM (consA (litM (.int 0)) (consA (litM (.int 0)) (consA (litM (.int 0)) (consA (litM (.int 0)) (consA (litM (.int 0)) (nilA)))))))) (nxM)) (retM (callN 3 m_passed (consA (varM 0) (consA (varM 1) (consA (litM (.int 1)) (nilA))))))
def m_let_part : FM := funM true 2 0 b_let_part
def b_changed (tb : D → Option FM) : SM := seqM (ownM 4 (newR (nilA))) (seqM (forM (iZipM (consA (fldM "Book" "rules" (varM 0)) (consA (varM 1) (nilA)))) (tupT [nameT 5, nameT 6]) (seqM (ownM 7 (newR (nilA))) (seqM (forM (iZipXM (consA (callN 2 m_keys_of (consA (varM 0) (consA (varM 5) (nilA)))) (consA (varM 6) (nilA)))) (tupT [nameT 8, nameT 9]) (appM (varM 7) (ifV (truM (callL 2 2 tb (consA (varM 5) (consA (varM 8) (nilA))))) (callL 3 2 tb (consA (varM 5) (consA (varM 9) (nilA)))) (callN 3 m_passed (consA (varM 5) (consA (varM 9) (consA (litM (.int 1)) (nilA)))))))) (appM (varM 4) (callM tupleF (consA (varM 7) (nilA))))))) (retM (callM tupleF (consA (varM 4) (nilA)))))
def m_changed (tb : D → Option FM) : FM := funM true 4 6 (b_changed tb)
def e_step_0 : EM := op2M eqD (op2M ixD (varM 1) (litM (.int 0))) (op2M ixD (varM 2) (litM (.int 1)))
def e_step_1 : EM := litM (.tup [(.int 0), (.int 0), (.int 0), (.int 0), (.int 0)])
def e_step_2 : EM := callN 3 m_is_at (consA (varM 1) (consA (varM 2) (consA (varM 3) (nilA))))
def lamG : GTab := ⟨fun t => match t with
  | 0 => some (lamFM 2 e_step_0)
  | 1 => some (lamFM 2 e_step_1)
  | 2 => some (lamFM 2 e_step_2)
  | _ => none, fun x => if x = "kept_part" then some m_kept_part else if x = "let_part" then some m_let_part else if x = "begun" then some m_begun else none⟩
def b_step : SM := seqM (ifM (bT (op2M isD (varM 2) (litM .non))) (retM (tupM (consA (litM (.str "none")) (consA (callN 3 m_idle (consA (varM 0) (consA (varM 1) (consA (litM (.int 1)) (nilA))))) (nilA))))) (nxM)) (seqM (ifM (bT (op2M eqD (op2M ixD (varM 2) (litM (.int 0))) (litM (.str "open")))) (retM (tupM (consA (litM (.str "opened")) (consA (callC lamG 4 m_changed (consC (exC (varM 0)) (consC (exC (varM 1)) (consC (lamC 0 0 "step" [2]) (consC (lamC 1 0 "step" []) (nilC)))))) (nilA))))) (nxM)) (seqM (asgM (varM 2) (tupT [nameT 3, nameT 4, nameT 5, nameT 6])) (seqM (ifM (truM (callN 4 m_is_locked (consA (varM 0) (consA (varM 1) (consA (varM 4) (consA (varM 5) (nilA))))))) (parM 7 8 (consA (litM (.str "kept")) (consA (litM (.gl "kept_part")) (nilA)))) (ifM (truM (varM 6)) (parM 7 8 (consA (litM (.str "in")) (consA (litM (.gl "let_part")) (nilA)))) (parM 7 8 (consA (litM (.str "wrong")) (consA (litM (.gl "begun")) (nilA)))))) (retM (tupM (consA (varM 7) (consA (callC lamG 4 m_changed (consC (exC (varM 0)) (consC (exC (varM 1)) (consC (lamC 2 0 "step" [4, 5]) (consC (exC (varM 8)) (nilC)))))) (nilA))))))))
def m_step : FM := funM true 3 6 b_step
def b__law_begin : SM := retM (locOf (newR (consA (callM listF (consA (varM 0) (nilA))) (consA (litM (.int 0)) (consA (litM (.int 0)) (consA (litM (.int 7)) (nilA)))))))
def m__law_begin : FM := funM true 1 0 b__law_begin
def b__law_draw : SM := seqM (ifM (bT (op2M eqD (op2M ixD (varM 0) (litM (.int 2))) (litM (.int 0)))) (ifM (bT (op2M ltD (op2M ixD (varM 0) (litM (.int 1))) (callM lenF (consA (op2M ixD (varM 0) (litM (.int 0))) (nilA))))) (seqM (setM 2 (op2M ixD (op2M ixD (varM 0) (litM (.int 0))) (op2M ixD (varM 0) (litM (.int 1))))) (seqM (setIxM (op2M addD (op2M ixD (varM 0) (litM (.int 1))) (litM (.int 1))) (varM 0) (litM (.int 1))) (ifM (bT (op2M geD (varM 2) (op2M powD (litM (.int 10)) (litM (.int 18))))) (setIxM (varM 2) (varM 0) (litM (.int 2))) (setIxM (op2M modD (callM intF (consA (op2M addD (op2M addD (op2M mulD (op2M ixD (varM 0) (litM (.int 3))) (litM (.int 48271))) (op2M mulD (varM 2) (litM (.int 69621)))) (litM (.int 11))) (nilA))) (litM (.int 2147483647))) (varM 0) (litM (.int 3)))))) (setIxM (op2M modD (callM intF (consA (op2M addD (op2M mulD (op2M ixD (varM 0) (litM (.int 3))) (litM (.int 48271))) (litM (.int 7))) (nilA))) (litM (.int 2147483647))) (varM 0) (litM (.int 3)))) (nxM)) (seqM (ifM (bT (op2M gtD (op2M ixD (varM 0) (litM (.int 2))) (litM (.int 0)))) (seqM (setM 3 (op2M modD (callM intF (consA (op2M ixD (varM 0) (litM (.int 2))) (nilA))) (varM 1))) (seqM (setIxM (op2M divD (op2M ixD (varM 0) (litM (.int 2))) (varM 1)) (varM 0) (litM (.int 2))) (retM (varM 3)))) (nxM)) (retM (op2M modD (op2M modD (callM intF (consA (op2M mulD (op2M ixD (varM 0) (litM (.int 3))) (litM (.int 16807))) (nilA))) (litM (.int 2147483629))) (varM 1))))
def m__law_draw : FM := funM true 2 2 b__law_draw
def b__law_flag : SM := retM (op2M eqD (callN 2 m__law_draw (consA (varM 0) (consA (litM (.int 2)) (nilA)))) (litM (.int 1)))
def m__law_flag : FM := funM true 1 0 b__law_flag
def b__law_rule : SM := seqM (setM 1 (op2M ixD (lstM (consA (litM (.str "account")) (consA (litM (.str "place")) (consA (litM (.str "both")) (nilA))))) (callN 2 m__law_draw (consA (varM 0) (consA (litM (.int 3)) (nilA)))))) (seqM (setM 2 (op2M addD (litM (.int 1)) (callN 2 m__law_draw (consA (varM 0) (consA (litM (.int 3)) (nilA)))))) (seqM (setM 3 (op2M addD (litM (.int 1)) (callN 2 m__law_draw (consA (varM 0) (consA (litM (.int 4)) (nilA)))))) (seqM (setM 4 (op2M ixD (lstM (consA (litM (.int 0)) (consA (litM (.int 1)) (consA (litM (.int 2)) (consA (litM (.int 3)) (consA (litM (.int 5)) (nilA))))))) (callN 2 m__law_draw (consA (varM 0) (consA (litM (.int 5)) (nilA)))))) (retM (tupM (consA (varM 1) (consA (varM 2) (consA (varM 3) (consA (varM 4) (consA (callN 1 m__law_flag (consA (varM 0) (nilA))) (consA (callN 1 m__law_flag (consA (varM 0) (nilA))) (consA (callN 1 m__law_flag (consA (varM 0) (nilA))) (nilA)))))))))))))
def m__law_rule : FM := funM true 1 4 b__law_rule
def b__law_rules : SM := retM (ofNew (lcM (iRng1M (consA (callN 2 m__law_draw (consA (varM 0) (consA (op2M addD (varM 1) (litM (.int 1))) (nilA)))) (nilA))) [2] (nameT 2) (yesT) (callN 1 m__law_rule (consA (varM 0) (nilA)))))
def m__law_rules : FM := funM true 2 1 b__law_rules
def b__law_actions : SM := seqM (ownM 2 (newR (consA (litM .non) (nilA)))) (seqM (forM (iRng1M (consA (varM 0) (nilA))) (nameT 3) (forM (iRng1M (consA (varM 1) (nilA))) (nameT 4) (seqM (appM (varM 2) (tupM (consA (litM (.str "try")) (consA (varM 3) (consA (varM 4) (consA (litM (.bl false)) (nilA))))))) (appM (varM 2) (tupM (consA (litM (.str "try")) (consA (varM 3) (consA (varM 4) (consA (litM (.bl true)) (nilA)))))))))) (retM (op2M addD (varM 2) (ofNew (lcM (iRng1M (consA (varM 0) (nilA))) [3] (nameT 3) (yesT) (tupM (consA (litM (.str "open")) (consA (varM 3) (nilA)))))))))
def m__law_actions : FM := funM true 2 3 b__law_actions
def b__law_key : SM := seqM (ifM (bT (op2M eqD (op2M ixD (varM 0) (litM (.int 0))) (litM (.str "account")))) (retM (tupM (consA (op2M ixD (varM 1) (litM (.int 1))) (consA (litM .non) (nilA))))) (nxM)) (seqM (ifM (bT (op2M eqD (op2M ixD (varM 0) (litM (.int 0))) (litM (.str "place")))) (retM (tupM (consA (litM .non) (consA (op2M ixD (varM 1) (litM (.int 2))) (nilA))))) (nxM)) (retM (tupM (consA (op2M ixD (varM 1) (litM (.int 1))) (consA (op2M ixD (varM 1) (litM (.int 2))) (nilA))))))
def m__law_key : FM := funM true 2 0 b__law_key
def b__law_cell : SM := retM (dget2M (varM 0) (tupM (consA (varM 1) (consA (varM 2) (nilA)))) (tupM (consA (litM (.int 0)) (consA (litM (.int 0)) (consA (negM (litM (.int 1))) (consA (litM (.int 0)) (consA (litM (.int 0)) (nilA))))))))
def m__law_cell : FM := funM true 3 0 b__law_cell
def b__law_fresh : SM := seqM (ifM (andT (bT (op2M gtD (op2M ixD (varM 1) (litM (.int 0))) (litM (.int 0)))) (andT (bT (op2M gtD (op2M ixD (varM 0) (litM (.int 3))) (litM (.int 0)))) (bT (op2M geD (varM 2) (op2M addD (op2M ixD (varM 1) (litM (.int 1))) (op2M ixD (varM 0) (litM (.int 3)))))))) (retM (op2M addD (tupM (consA (litM (.int 0)) (consA (litM (.int 0)) (nilA)))) (slM (varM 1) (partM (litM (.int 2))) (noP)))) (nxM)) (retM (varM 1))
def m__law_fresh : FM := funM true 3 0 b__law_fresh
def b__law_locked : SM := seqM (ownM 5 (newR (nilA))) (seqM (forM (iRng1M (consA (callM lenF (consA (varM 0) (nilA))) (nilA))) (nameT 6) (seqM (setM 7 (callN 2 m__law_key (consA (op2M ixD (varM 0) (varM 6)) (consA (tupM (consA (litM (.str "try")) (consA (varM 3) (consA (varM 4) (nilA))))) (nilA))))) (ifM (bT (op2M geD (op2M ixD (callN 3 m__law_cell (consA (varM 1) (consA (varM 6) (consA (varM 7) (nilA))))) (litM (.int 2))) (varM 2))) (appM (varM 5) (varM 6)) (nxM)))) (seqM (frzS 5) (retM (varM 5))))
def m__law_locked : FM := funM true 5 3 b__law_locked
def b__law_counted : SM := seqM (setM 3 (op2M addD (op2M ixD (varM 1) (litM (.int 0))) (litM (.int 1)))) (seqM (ifM (bT (op2M ltD (varM 3) (op2M ixD (varM 0) (litM (.int 1))))) (retM (op2M addD (tupM (consA (varM 3) (consA (varM 2) (nilA)))) (slM (varM 1) (partM (litM (.int 2))) (noP)))) (nxM)) (seqM (setM 4 (op2M ixD (varM 0) (litM (.int 2)))) (seqM (setM 5 (op2M ixD (varM 1) (litM (.int 4)))) (seqM (ifM (truM (op2M ixD (varM 0) (litM (.int 5)))) (setM 4 (op2M mulD (varM 4) (op2M ixD (lstM (consA (litM (.int 1)) (consA (litM (.int 2)) (consA (litM (.int 4)) (consA (litM (.int 4)) (nilA)))))) (callM minF (consA (varM 5) (consA (litM (.int 3)) (nilA))))))) (nxM)) (retM (tupM (consA (litM (.int 0)) (consA (litM (.int 0)) (consA (op2M addD (varM 2) (varM 4)) (consA (varM 4) (consA (op2M addD (varM 5) (litM (.int 1))) (nilA))))))))))))
def m__law_counted : FM := funM true 3 3 b__law_counted
def b__law_do : SM := seqM (ifM (bT (op2M isD (varM 3) (litM .non))) (retM (litM (.str "none"))) (nxM)) (seqM (ifM (bT (op2M eqD (op2M ixD (varM 3) (litM (.int 0))) (litM (.str "open")))) (seqM (forM (iSeqM (callM keysF (consA (varM 1) (nilA)))) (nameT 4) (ifM (bT (op2M eqD (op2M ixD (op2M ixD (varM 4) (litM (.int 1))) (litM (.int 0))) (op2M ixD (varM 3) (litM (.int 1))))) (dputM (tupM (consA (litM (.int 0)) (consA (litM (.int 0)) (consA (negM (litM (.int 1))) (consA (litM (.int 0)) (consA (litM (.int 0)) (nilA))))))) (varM 1) (varM 4)) (nxM))) (retM (litM (.str "opened")))) (nxM)) (seqM (setM 5 (callN 5 m__law_locked (consA (varM 0) (consA (varM 1) (consA (varM 2) (consA (op2M ixD (varM 3) (litM (.int 1))) (consA (op2M ixD (varM 3) (litM (.int 2))) (nilA)))))))) (seqM (forM (iRng1M (consA (callM lenF (consA (varM 0) (nilA))) (nilA))) (nameT 6) (seqM (setM 7 (op2M ixD (varM 0) (varM 6))) (seqM (setM 8 (callN 2 m__law_key (consA (varM 7) (consA (varM 3) (nilA))))) (seqM (setM 9 (callN 3 m__law_fresh (consA (varM 7) (consA (callN 3 m__law_cell (consA (varM 1) (consA (varM 6) (consA (varM 8) (nilA))))) (consA (varM 2) (nilA)))))) (seqM (ifM (bT (op2M gtD (callM lenF (consA (varM 5) (nilA))) (litM (.int 0)))) (ifM (andT (bT (op2M inD (varM 6) (varM 5))) (truM (op2M ixD (varM 7) (litM (.int 6))))) (setM 9 (op2M addD (slM (varM 9) (noP) (partM (litM (.int 2)))) (tupM (consA (op2M addD (varM 2) (op2M ixD (varM 9) (litM (.int 3)))) (consA (op2M ixD (varM 9) (litM (.int 3))) (consA (op2M ixD (varM 9) (litM (.int 4))) (nilA))))))) (nxM)) (ifM (truM (op2M ixD (varM 3) (litM (.int 3)))) (ifM (truM (op2M ixD (varM 7) (litM (.int 4)))) (setM 9 (tupM (consA (litM (.int 0)) (consA (litM (.int 0)) (consA (negM (litM (.int 1))) (consA (litM (.int 0)) (consA (litM (.int 0)) (nilA)))))))) (nxM)) (setM 9 (callN 3 m__law_counted (consA (varM 7) (consA (varM 9) (consA (varM 2) (nilA)))))))) (dputM (varM 9) (varM 1) (tupM (consA (varM 6) (consA (varM 8) (nilA)))))))))) (seqM (ifM (bT (op2M gtD (callM lenF (consA (varM 5) (nilA))) (litM (.int 0)))) (retM (litM (.str "kept"))) (nxM)) (seqM (ifM (truM (op2M ixD (varM 3) (litM (.int 3)))) (retM (litM (.str "in"))) (nxM)) (retM (litM (.str "wrong"))))))))
def m__law_do : FM := funM true 4 6 b__law_do
def b_Door_init : SM := seqM (sfldM "Door" "book" (varM 1) (varM 0)) (seqM (sfldM "Door" "rows" (locOf (newR (nilA))) (varM 0)) (sfldM "Door" "standings" (locOf (newR (consA (callN 1 m_first_standing (consA (varM 1) (nilA))) (nilA)))) (varM 0)))
def m_Door_init : FM := funM true 2 0 b_Door_init
def b_Door_now : SM := retM (ifV (truM (fldM "Door" "rows" (varM 0))) (op2M ixD (op2M ixD (fldM "Door" "rows" (varM 0)) (negM (litM (.int 1)))) (litM (.int 0))) (negM (litM (.int 1))))
def m_Door_now : FM := funM true 1 0 b_Door_now
def b_Door_at : SM := seqM (ifM (orT (notT (truM (callM isiF (consA (varM 1) (consA (litM (.ty "int")) (nilA)))))) (orT (truM (callM isiF (consA (varM 1) (consA (litM (.ty "bool")) (nilA))))) (bT (op2M leD (varM 1) (propM "Door" "now" m_Door_now (varM 0)))))) (raiseM "BadMoment") (nxM)) (retM (callN 3 m_idle (consA (fldM "Door" "book" (varM 0)) (consA (op2M ixD (fldM "Door" "standings" (varM 0)) (negM (litM (.int 1)))) (consA (op2M subD (op2M subD (varM 1) (propM "Door" "now" m_Door_now (varM 0))) (litM (.int 1))) (nilA))))))
def m_Door_at : FM := funM true 2 0 b_Door_at
def b_Door_act : SM := seqM (dropM (callN 2 m_check_actions (consA (fldM "Door" "book" (varM 0)) (consA (lstM (consA (varM 2) (nilA))) (nilA))))) (seqM (asgM (callN 3 m_step (consA (fldM "Door" "book" (varM 0)) (consA (methO "Door" "at" 2 m_Door_at (varM 0) (consA (varM 1) (nilA))) (consA (varM 2) (nilA))))) (tupT [nameT 3, nameT 4])) (seqM (appM (fldM "Door" "rows" (varM 0)) (tupM (consA (varM 1) (consA (varM 2) (consA (varM 3) (nilA)))))) (seqM (appM (fldM "Door" "standings" (varM 0)) (varM 4)) (retM (varM 3)))))
def m_Door_act : FM := funM true 3 2 b_Door_act
def b_Door_undo : SM := seqM (ifM (notT (truM (fldM "Door" "rows" (varM 0)))) (raiseM "NothingToUndo") (nxM)) (seqM (popM (fldM "Door" "rows" (varM 0))) (popM (fldM "Door" "standings" (varM 0))))
def m_Door_undo : FM := funM true 1 0 b_Door_undo
def b_replay : SM := seqM (setM 2 (makeM "Door" 2 m_Door_init (consA (varM 0) (nilA)))) (seqM (forM (iSeqM (varM 1)) (tupT [nameT 3, nameT 4, nameT 5]) (dropM (methO "Door" "act" 3 m_Door_act (varM 2) (consA (varM 3) (consA (varM 4) (nilA)))))) (retM (varM 2)))
def m_replay : FM := funM true 2 4 b_replay
def b__law_allowed : SM := seqM (ownM 3 (newR (nilA))) (seqM (forM (iSeqM (slM (callN 2 m__law_actions (consA (varM 1) (consA (varM 2) (nilA)))) (partM (litM (.int 1))) (noP))) (nameT 4) (ifM (bT (op2M gtD (callN 2 m__law_draw (consA (varM 0) (consA (litM (.int 3)) (nilA)))) (litM (.int 0)))) (appM (varM 3) (varM 4)) (nxM))) (seqM (frzS 3) (retM (varM 3))))
def m__law_allowed : FM := funM true 3 2 b__law_allowed
def b__law_drawn : SM := seqM (ownM 3 (newR (nilA))) (seqM (forM (iRng1M (consA (varM 2) (nilA))) (nameT 4) (ifM (orT (bT (op2M eqD (callM lenF (consA (varM 1) (nilA))) (litM (.int 0)))) (bT (op2M eqD (callN 2 m__law_draw (consA (varM 0) (consA (litM (.int 5)) (nilA)))) (litM (.int 0))))) (appM (varM 3) (litM .non)) (appM (varM 3) (op2M ixD (varM 1) (callN 2 m__law_draw (consA (varM 0) (consA (callM lenF (consA (varM 1) (nilA))) (nilA)))))))) (seqM (frzS 3) (retM (varM 3))))
def m__law_drawn : FM := funM true 3 2 b__law_drawn
def b_actions_of : SM := seqM (setM 1 (lstM (consA (litM .non) (nilA)))) (seqM (forM (iRng1M (consA (fldM "Book" "accounts" (varM 0)) (nilA))) (nameT 2) (forM (iRng1M (consA (fldM "Book" "places" (varM 0)) (nilA))) (nameT 3) (setM 1 (op2M addD (varM 1) (lstM (consA (tupM (consA (litM (.str "try")) (consA (varM 2) (consA (varM 3) (consA (litM (.bl false)) (nilA)))))) (consA (tupM (consA (litM (.str "try")) (consA (varM 2) (consA (varM 3) (consA (litM (.bl true)) (nilA)))))) (nilA)))))))) (retM (op2M addD (varM 1) (ofNew (lcM (iRng1M (consA (fldM "Book" "accounts" (varM 0)) (nilA))) [2] (nameT 2) (yesT) (tupM (consA (litM (.str "open")) (consA (varM 2) (nilA)))))))))
def m_actions_of : FM := funM true 1 3 b_actions_of
def b_parting : SM := seqM (ifM (orT (bT (op2M neD (fldM "Book" "accounts" (varM 0)) (fldM "Book" "accounts" (varM 1)))) (bT (op2M neD (fldM "Book" "places" (varM 0)) (fldM "Book" "places" (varM 1))))) (raiseM "NotComparable") (nxM)) (seqM (setM 2 (callN 1 m_actions_of (consA (varM 0) (nilA)))) (seqM (setM 3 (tupM (consA (callN 1 m_first_standing (consA (varM 0) (nilA))) (consA (callN 1 m_first_standing (consA (varM 1) (nilA))) (nilA))))) (seqM (setM 4 (dispM (varM 3) (litM (.bl true)))) (seqM (ownM 5 (newR (consA (tupM (consA (varM 3) (consA (tupM (nilA)) (nilA)))) (nilA)))) (seqM (setM 6 (litM (.int 0))) (seqM (whlM (fun _ _ => 100000000) (bT (op2M ltD (varM 6) (callM lenF (consA (varM 5) (nilA))))) (seqM (asgM (op2M ixD (varM 5) (varM 6)) (tupT [tupT [nameT 7, nameT 8], nameT 9])) (seqM (augM (fun i j => i + j) 6 (litM (.int 1))) (forM (iSeqM (varM 2)) (nameT 10) (seqM (asgM (callN 3 m_step (consA (varM 0) (consA (varM 7) (consA (varM 10) (nilA))))) (tupT [nameT 11, nameT 12])) (seqM (asgM (callN 3 m_step (consA (varM 1) (consA (varM 8) (consA (varM 10) (nilA))))) (tupT [nameT 13, nameT 14])) (seqM (ifM (bT (op2M neD (varM 11) (varM 13))) (retM (op2M addD (callM listF (consA (varM 9) (nilA))) (lstM (consA (varM 10) (nilA))))) (nxM)) (ifM (bT (op2M kninD (tupM (consA (varM 12) (consA (varM 14) (nilA)))) (varM 4))) (seqM (dputM (litM (.bl true)) (varM 4) (tupM (consA (varM 12) (consA (varM 14) (nilA))))) (appM (varM 5) (tupM (consA (tupM (consA (varM 12) (consA (varM 14) (nilA)))) (consA (op2M addD (varM 9) (tupM (consA (varM 10) (nilA)))) (nilA)))))) (nxM))))))))) (retM (litM .non))))))))
def m_parting : FM := funM true 2 13 b_parting
def b_alike : SM := retM (op2M isD (callN 2 m_parting (consA (varM 0) (consA (varM 1) (nilA)))) (litM .non))
def m_alike : FM := funM true 2 0 b_alike
end
end SH
namespace K15
open PySem PySem.Spec PyProof.Rows L2 MM SH
noncomputable section
def top (i : Nat) : Stmt := PySem.Challenge.pw_trylocks_k15_errors_are_apart.main.body.getD i (.Pass ⟨0, 0, 0, 0⟩)
def kid (st : Stmt) (j : Nat) : Stmt := match st with
  | .ClassDef _ _ _ b _ _ _ _ _ _ _ => b.getD j (.Pass ⟨0, 0, 0, 0⟩)
  | _ => .Pass ⟨0, 0, 0, 0⟩
structure Zf (K : PySem.W.Frag) (mg : Str → Option Value) : Prop where
  d_BadRule_init : ∃ fd, FunD K "__init__" "BadRule.__init__" (defArgs (kid (top 8) 0)) (defBody (kid (top 8) 0)) (defScope (kid (top 8) 0)) [] [] (He.fAd K ("BadRule", some "__init__")) fd
  o_BadRule : OexC K (He.ga K "BadRule")
  g_BadRule : mg "BadRule" = some (.ref (He.ga K "BadRule"))
  xi_BadRule : PySem.W.findIn K (.ref (He.ga K "BadRule")) "__init__" = some (some (.ref (He.fAd K ("BadRule", some "__init__")))) ∧ PySem.W.typeIn K (.ref (He.fAd K ("BadRule", some "__init__"))) = some (.type "function")
  n_BadRule_index : NoAttr K (He.ga K "BadRule") "index"
  d_BadLine_init : ∃ fd, FunD K "__init__" "BadLine.__init__" (defArgs (kid (top 9) 0)) (defBody (kid (top 9) 0)) (defScope (kid (top 9) 0)) [] [] (He.fAd K ("BadLine", some "__init__")) fd
  o_BadLine : OexC K (He.ga K "BadLine")
  g_BadLine : mg "BadLine" = some (.ref (He.ga K "BadLine"))
  xi_BadLine : PySem.W.findIn K (.ref (He.ga K "BadLine")) "__init__" = some (some (.ref (He.fAd K ("BadLine", some "__init__")))) ∧ PySem.W.typeIn K (.ref (He.fAd K ("BadLine", some "__init__"))) = some (.type "function")
  n_BadLine_line : NoAttr K (He.ga K "BadLine") "line"
  f_int : mg "int" = none
  f_isinstance : mg "isinstance" = none
  f_bool : mg "bool" = none
  d_is_number : ∃ fd, FunD K "is_number" "is_number" (defArgs (top 13)) (defBody (top 13)) (defScope (top 13)) [] [] (He.ga K "is_number") fd
  g_is_number : mg "is_number" = some (.ref (He.ga K "is_number"))
  f_tuple : mg "tuple" = none
  f_len : mg "len" = none
  f_str : mg "str" = none
  k_KEYS : ∃ v u, mg "KEYS" = some u ∧ RelV v u ∧ ∀ (w : World) (F : Hp), Rep K w F (.tup [(.str "account"), (.str "place"), (.str "both")]) v
  f_all : mg "all" = none
  d_is_rule : ∃ fd, FunD K "is_rule" "is_rule" (defArgs (top 14)) (defBody (top 14)) (defScope (top 14)) [] [] (He.ga K "is_rule") fd
  g_is_rule : mg "is_rule" = some (.ref (He.ga K "is_rule"))
  k_MOST_RULES : ∃ v u, mg "MOST_RULES" = some u ∧ RelV v u ∧ ∀ (w : World) (F : Hp), Rep K w F (.int 3) v
  f_enumerate : mg "enumerate" = none
  g_BadCount : mg "BadCount" = some (.ref (He.ga K "BadCount"))
  x_BadCount : ExcF K mg "BadCount"
  c_Book : Cls K (He.ga K "Book")
  n_Book_rules : NoAttr K (He.ga K "Book") "rules"
  n_Book_accounts : NoAttr K (He.ga K "Book") "accounts"
  n_Book_places : NoAttr K (He.ga K "Book") "places"
  d_Book_init : ∃ fd, FunD K "__init__" "Book.__init__" (defArgs (kid (top 15) 0)) (defBody (kid (top 15) 0)) (defScope (kid (top 15) 0)) [] [] (He.fAd K ("Book", some "__init__")) fd
  g_Book : mg "Book" = some (.ref (He.ga K "Book"))
  mk_Book : Mk K (He.ga K "Book") (He.fAd K ("Book", some "__init__"))
  f_range : mg "range" = none
  d_actions_of : ∃ fd, FunD K "actions_of" "actions_of" (defArgs (top 16)) (defBody (top 16)) (defScope (top 16)) [] [] (He.ga K "actions_of") fd
  g_actions_of : mg "actions_of" = some (.ref (He.ga K "actions_of"))
  d_is_action : ∃ fd, FunD K "is_action" "is_action" (defArgs (top 17)) (defBody (top 17)) (defScope (top 17)) [] [] (He.ga K "is_action") fd
  g_is_action : mg "is_action" = some (.ref (He.ga K "is_action"))
  g_BadAction : mg "BadAction" = some (.ref (He.ga K "BadAction"))
  x_BadAction : ExcF K mg "BadAction"
  d_check_actions : ∃ fd, FunD K "check_actions" "check_actions" (defArgs (top 18)) (defBody (top 18)) (defScope (top 18)) [] [] (He.ga K "check_actions") fd
  g_check_actions : mg "check_actions" = some (.ref (He.ga K "check_actions"))
  d_pairs_of : ∃ fd, FunD K "pairs_of" "pairs_of" (defArgs (top 22)) (defBody (top 22)) (defScope (top 22)) [] [] (He.ga K "pairs_of") fd
  g_pairs_of : mg "pairs_of" = some (.ref (He.ga K "pairs_of"))
  d_keys_of : ∃ fd, FunD K "keys_of" "keys_of" (defArgs (top 23)) (defBody (top 23)) (defScope (top 23)) [] [] (He.ga K "keys_of") fd
  g_keys_of : mg "keys_of" = some (.ref (He.ga K "keys_of"))
  k_NEW : ∃ v u, mg "NEW" = some u ∧ RelV v u ∧ ∀ (w : World) (F : Hp), Rep K w F (.tup [(.int 0), (.int 0), (.int 0), (.int 0), (.int 0)]) v
  d_first_standing : ∃ fd, FunD K "first_standing" "first_standing" (defArgs (top 24)) (defBody (top 24)) (defScope (top 24)) [] [] (He.ga K "first_standing") fd
  g_first_standing : mg "first_standing" = some (.ref (He.ga K "first_standing"))
  d_is_at : ∃ fd, FunD K "is_at" "is_at" (defArgs (top 25)) (defBody (top 25)) (defScope (top 25)) [] [] (He.ga K "is_at") fd
  g_is_at : mg "is_at" = some (.ref (He.ga K "is_at"))
  f_zip : mg "zip" = none
  d_left_at : ∃ fd, FunD K "left_at" "left_at" (defArgs (top 26)) (defBody (top 26)) (defScope (top 26)) [] [] (He.ga K "left_at") fd
  g_left_at : mg "left_at" = some (.ref (He.ga K "left_at"))
  f_any : mg "any" = none
  d_is_locked : ∃ fd, FunD K "is_locked" "is_locked" (defArgs (top 27)) (defBody (top 27)) (defScope (top 27)) [] [] (He.ga K "is_locked") fd
  g_is_locked : mg "is_locked" = some (.ref (He.ga K "is_locked"))
  f_max : mg "max" = none
  d_passed : ∃ fd, FunD K "passed" "passed" (defArgs (top 28)) (defBody (top 28)) (defScope (top 28)) [] [] (He.ga K "passed") fd
  g_passed : mg "passed" = some (.ref (He.ga K "passed"))
  d_idle : ∃ fd, FunD K "idle" "idle" (defArgs (top 29)) (defBody (top 29)) (defScope (top 29)) [] [] (He.ga K "idle") fd
  g_idle : mg "idle" = some (.ref (He.ga K "idle"))
  k_FACTORS : ∃ v u, mg "FACTORS" = some u ∧ RelV v u ∧ ∀ (w : World) (F : Hp), Rep K w F (.tup [(.int 1), (.int 2), (.int 4)]) v
  f_min : mg "min" = none
  d_begun : ∃ fd, FunD K "begun" "begun" (defArgs (top 30)) (defBody (top 30)) (defScope (top 30)) [] [] (He.ga K "begun") fd
  g_begun : mg "begun" = some (.ref (He.ga K "begun"))
  d_kept_part : ∃ fd, FunD K "kept_part" "kept_part" (defArgs (top 31)) (defBody (top 31)) (defScope (top 31)) [] [] (He.ga K "kept_part") fd
  g_kept_part : mg "kept_part" = some (.ref (He.ga K "kept_part"))
  d_let_part : ∃ fd, FunD K "let_part" "let_part" (defArgs (top 32)) (defBody (top 32)) (defScope (top 32)) [] [] (He.ga K "let_part") fd
  g_let_part : mg "let_part" = some (.ref (He.ga K "let_part"))
  d_changed : ∃ fd, FunD K "changed" "changed" (defArgs (top 33)) (defBody (top 33)) (defScope (top 33)) [] [] (He.ga K "changed") fd
  g_changed : mg "changed" = some (.ref (He.ga K "changed"))
  v_kept_part : ∃ v u, mg "kept_part" = some u ∧ RelV v u ∧ ∀ (w : World) (F : Hp), Rep K w F (.gl "kept_part") v
  v_let_part : ∃ v u, mg "let_part" = some u ∧ RelV v u ∧ ∀ (w : World) (F : Hp), Rep K w F (.gl "let_part") v
  v_begun : ∃ v u, mg "begun" = some u ∧ RelV v u ∧ ∀ (w : World) (F : Hp), Rep K w F (.gl "begun") v
  d_step : ∃ fd, FunD K "step" "step" (defArgs (top 34)) (defBody (top 34)) (defScope (top 34)) [] [] (He.ga K "step") fd
  g_step : mg "step" = some (.ref (He.ga K "step"))
  g_NotComparable : mg "NotComparable" = some (.ref (He.ga K "NotComparable"))
  x_NotComparable : ExcF K mg "NotComparable"
  f_list : mg "list" = none
  d_parting : ∃ fd, FunD K "parting" "parting" (defArgs (top 36)) (defBody (top 36)) (defScope (top 36)) [] [] (He.ga K "parting") fd
  g_parting : mg "parting" = some (.ref (He.ga K "parting"))
  d_alike : ∃ fd, FunD K "alike" "alike" (defArgs (top 37)) (defBody (top 37)) (defScope (top 37)) [] [] (He.ga K "alike") fd
  g_alike : mg "alike" = some (.ref (He.ga K "alike"))
  c_Door : Cls K (He.ga K "Door")
  n_Door_book : NoAttr K (He.ga K "Door") "book"
  n_Door_rows : NoAttr K (He.ga K "Door") "rows"
  n_Door_standings : NoAttr K (He.ga K "Door") "standings"
  d_Door_init : ∃ fd, FunD K "__init__" "Door.__init__" (defArgs (kid (top 39) 0)) (defBody (kid (top 39) 0)) (defScope (kid (top 39) 0)) [] [] (He.fAd K ("Door", some "__init__")) fd
  g_Door : mg "Door" = some (.ref (He.ga K "Door"))
  mk_Door : Mk K (He.ga K "Door") (He.fAd K ("Door", some "__init__"))
  d_Door_now : ∃ fd, FunD K "now" "Door.now" (defArgs (kid (top 39) 1)) (defBody (kid (top 39) 1)) (defScope (kid (top 39) 1)) [] [] (gAd "Door" "now" K) fd
  pr_Door_now : PropOf K (He.ga K "Door") "now" (He.fAd K ("Door", some "now")) (gAd "Door" "now" K)
  g_BadMoment : mg "BadMoment" = some (.ref (He.ga K "BadMoment"))
  x_BadMoment : ExcF K mg "BadMoment"
  d_Door_at : ∃ fd, FunD K "at" "Door.at" (defArgs (kid (top 39) 2)) (defBody (kid (top 39) 2)) (defScope (kid (top 39) 2)) [] [] (He.fAd K ("Door", some "at")) fd
  me_Door_at : Meth K (He.ga K "Door") "at" (He.fAd K ("Door", some "at"))
  d_Door_act : ∃ fd, FunD K "act" "Door.act" (defArgs (kid (top 39) 3)) (defBody (kid (top 39) 3)) (defScope (kid (top 39) 3)) [] [] (He.fAd K ("Door", some "act")) fd
  me_Door_act : Meth K (He.ga K "Door") "act" (He.fAd K ("Door", some "act"))
  g_NothingToUndo : mg "NothingToUndo" = some (.ref (He.ga K "NothingToUndo"))
  x_NothingToUndo : ExcF K mg "NothingToUndo"
  d_Door_undo : ∃ fd, FunD K "undo" "Door.undo" (defArgs (kid (top 39) 6)) (defBody (kid (top 39) 6)) (defScope (kid (top 39) 6)) [] [] (He.fAd K ("Door", some "undo")) fd
  me_Door_undo : Meth K (He.ga K "Door") "undo" (He.fAd K ("Door", some "undo"))
  k_WORDS : ∃ v u, mg "WORDS" = some u ∧ RelV v u ∧ ∀ (w : World) (F : Hp), Rep K w F (.tup [(.str "clears"), (.str "grows"), (.str "strict")]) v
  d_rule_line : ∃ fd, FunD K "rule_line" "rule_line" (defArgs (top 43)) (defBody (top 43)) (defScope (top 43)) [] [] (He.ga K "rule_line") fd
  g_rule_line : mg "rule_line" = some (.ref (He.ga K "rule_line"))
  k_FIGURES : ∃ v u, mg "FIGURES" = some u ∧ RelV v u ∧ ∀ (w : World) (F : Hp), Rep K w F (.str "012345") v
  d_number_of : ∃ fd, FunD K "number_of" "number_of" (defArgs (top 44)) (defBody (top 44)) (defScope (top 44)) [] [] (He.ga K "number_of") fd
  g_number_of : mg "number_of" = some (.ref (He.ga K "number_of"))
  d_rule_of : ∃ fd, FunD K "rule_of" "rule_of" (defArgs (top 45)) (defBody (top 45)) (defScope (top 45)) [] [] (He.ga K "rule_of") fd
  g_rule_of : mg "rule_of" = some (.ref (He.ga K "rule_of"))
  t_BadLine_LockError : exmB K "BadLine" "LockError" true = true
  t_NotComparable_LockError : exmB K "NotComparable" "LockError" true = true
  t_NothingToUndo_LockError : exmB K "NothingToUndo" "LockError" true = true
  t_BadMoment_LockError : exmB K "BadMoment" "LockError" true = true
  t_BadAction_LockError : exmB K "BadAction" "LockError" true = true
  t_BadCount_LockError : exmB K "BadCount" "LockError" true = true
  t_BadRule_LockError : exmB K "BadRule" "LockError" true = true
  g_LockError : mg "LockError" = some (.ref (He.ga K "LockError"))
  d_read : ∃ fd, FunD K "read" "read" (defArgs (top 46)) (defBody (top 46)) (defScope (top 46)) [] [] (He.ga K "read") fd
  g_read : mg "read" = some (.ref (He.ga K "read"))
  d__law_begin : ∃ fd, FunD K "_law_begin" "_law_begin" (defArgs (top 48)) (defBody (top 48)) (defScope (top 48)) [] [] (He.ga K "_law_begin") fd
  g__law_begin : mg "_law_begin" = some (.ref (He.ga K "_law_begin"))
  d__law_draw : ∃ fd, FunD K "_law_draw" "_law_draw" (defArgs (top 49)) (defBody (top 49)) (defScope (top 49)) [] [] (He.ga K "_law_draw") fd
  g__law_draw : mg "_law_draw" = some (.ref (He.ga K "_law_draw"))
  d__law_raise : ∃ fd, FunD K "_law_raise" "_law_raise" (defArgs (top 50)) (defBody (top 50)) (defScope (top 50)) [] [] (He.ga K "_law_raise") fd
  g__law_raise : mg "_law_raise" = some (.ref (He.ga K "_law_raise"))
  d__law_kinds : ∃ fd, FunD K "_law_kinds" "_law_kinds" (defArgs (top 51)) (defBody (top 51)) (defScope (top 51)) [] [] (He.ga K "_law_kinds") fd
  g__law_kinds : mg "_law_kinds" = some (.ref (He.ga K "_law_kinds"))
  f_ValueError : mg "ValueError" = none
  kk_BadRule_BadCount : kitB2 K "BadRule" (.ref (He.ga K "BadCount")) false = true
  kk_BadRule_BadAction : kitB2 K "BadRule" (.ref (He.ga K "BadAction")) false = true
  kk_BadRule_BadMoment : kitB2 K "BadRule" (.ref (He.ga K "BadMoment")) false = true
  kk_BadRule_NothingToUndo : kitB2 K "BadRule" (.ref (He.ga K "NothingToUndo")) false = true
  kk_BadRule_NotComparable : kitB2 K "BadRule" (.ref (He.ga K "NotComparable")) false = true
  kk_BadRule_BadRule : kitB2 K "BadRule" (.ref (He.ga K "BadRule")) true = true
  kk_BadRule_BadLine : kitB2 K "BadRule" (.ref (He.ga K "BadLine")) false = true
  kk_BadRule_ValueError : kitB2 K "BadRule" (.type "ValueError") true = true
  kc_BadRule : kindB K "BadRule" = true
  kk_BadCount_BadCount : kitB2 K "BadCount" (.ref (He.ga K "BadCount")) true = true
  kk_BadCount_BadAction : kitB2 K "BadCount" (.ref (He.ga K "BadAction")) false = true
  kk_BadCount_BadMoment : kitB2 K "BadCount" (.ref (He.ga K "BadMoment")) false = true
  kk_BadCount_NothingToUndo : kitB2 K "BadCount" (.ref (He.ga K "NothingToUndo")) false = true
  kk_BadCount_NotComparable : kitB2 K "BadCount" (.ref (He.ga K "NotComparable")) false = true
  kk_BadCount_BadRule : kitB2 K "BadCount" (.ref (He.ga K "BadRule")) false = true
  kk_BadCount_BadLine : kitB2 K "BadCount" (.ref (He.ga K "BadLine")) false = true
  kk_BadCount_ValueError : kitB2 K "BadCount" (.type "ValueError") true = true
  kc_BadCount : kindB K "BadCount" = true
  kk_BadAction_BadCount : kitB2 K "BadAction" (.ref (He.ga K "BadCount")) false = true
  kk_BadAction_BadAction : kitB2 K "BadAction" (.ref (He.ga K "BadAction")) true = true
  kk_BadAction_BadMoment : kitB2 K "BadAction" (.ref (He.ga K "BadMoment")) false = true
  kk_BadAction_NothingToUndo : kitB2 K "BadAction" (.ref (He.ga K "NothingToUndo")) false = true
  kk_BadAction_NotComparable : kitB2 K "BadAction" (.ref (He.ga K "NotComparable")) false = true
  kk_BadAction_BadRule : kitB2 K "BadAction" (.ref (He.ga K "BadRule")) false = true
  kk_BadAction_BadLine : kitB2 K "BadAction" (.ref (He.ga K "BadLine")) false = true
  kk_BadAction_ValueError : kitB2 K "BadAction" (.type "ValueError") true = true
  kc_BadAction : kindB K "BadAction" = true
  kk_BadMoment_BadCount : kitB2 K "BadMoment" (.ref (He.ga K "BadCount")) false = true
  kk_BadMoment_BadAction : kitB2 K "BadMoment" (.ref (He.ga K "BadAction")) false = true
  kk_BadMoment_BadMoment : kitB2 K "BadMoment" (.ref (He.ga K "BadMoment")) true = true
  kk_BadMoment_NothingToUndo : kitB2 K "BadMoment" (.ref (He.ga K "NothingToUndo")) false = true
  kk_BadMoment_NotComparable : kitB2 K "BadMoment" (.ref (He.ga K "NotComparable")) false = true
  kk_BadMoment_BadRule : kitB2 K "BadMoment" (.ref (He.ga K "BadRule")) false = true
  kk_BadMoment_BadLine : kitB2 K "BadMoment" (.ref (He.ga K "BadLine")) false = true
  kk_BadMoment_ValueError : kitB2 K "BadMoment" (.type "ValueError") true = true
  kc_BadMoment : kindB K "BadMoment" = true
  kk_NothingToUndo_BadCount : kitB2 K "NothingToUndo" (.ref (He.ga K "BadCount")) false = true
  kk_NothingToUndo_BadAction : kitB2 K "NothingToUndo" (.ref (He.ga K "BadAction")) false = true
  kk_NothingToUndo_BadMoment : kitB2 K "NothingToUndo" (.ref (He.ga K "BadMoment")) false = true
  kk_NothingToUndo_NothingToUndo : kitB2 K "NothingToUndo" (.ref (He.ga K "NothingToUndo")) true = true
  kk_NothingToUndo_NotComparable : kitB2 K "NothingToUndo" (.ref (He.ga K "NotComparable")) false = true
  kk_NothingToUndo_BadRule : kitB2 K "NothingToUndo" (.ref (He.ga K "BadRule")) false = true
  kk_NothingToUndo_BadLine : kitB2 K "NothingToUndo" (.ref (He.ga K "BadLine")) false = true
  kk_NothingToUndo_ValueError : kitB2 K "NothingToUndo" (.type "ValueError") true = true
  kc_NothingToUndo : kindB K "NothingToUndo" = true
  kk_NotComparable_BadCount : kitB2 K "NotComparable" (.ref (He.ga K "BadCount")) false = true
  kk_NotComparable_BadAction : kitB2 K "NotComparable" (.ref (He.ga K "BadAction")) false = true
  kk_NotComparable_BadMoment : kitB2 K "NotComparable" (.ref (He.ga K "BadMoment")) false = true
  kk_NotComparable_NothingToUndo : kitB2 K "NotComparable" (.ref (He.ga K "NothingToUndo")) false = true
  kk_NotComparable_NotComparable : kitB2 K "NotComparable" (.ref (He.ga K "NotComparable")) true = true
  kk_NotComparable_BadRule : kitB2 K "NotComparable" (.ref (He.ga K "BadRule")) false = true
  kk_NotComparable_BadLine : kitB2 K "NotComparable" (.ref (He.ga K "BadLine")) false = true
  kk_NotComparable_ValueError : kitB2 K "NotComparable" (.type "ValueError") true = true
  kc_NotComparable : kindB K "NotComparable" = true
  kk_BadLine_BadCount : kitB2 K "BadLine" (.ref (He.ga K "BadCount")) false = true
  kk_BadLine_BadAction : kitB2 K "BadLine" (.ref (He.ga K "BadAction")) false = true
  kk_BadLine_BadMoment : kitB2 K "BadLine" (.ref (He.ga K "BadMoment")) false = true
  kk_BadLine_NothingToUndo : kitB2 K "BadLine" (.ref (He.ga K "NothingToUndo")) false = true
  kk_BadLine_NotComparable : kitB2 K "BadLine" (.ref (He.ga K "NotComparable")) false = true
  kk_BadLine_BadRule : kitB2 K "BadLine" (.ref (He.ga K "BadRule")) false = true
  kk_BadLine_BadLine : kitB2 K "BadLine" (.ref (He.ga K "BadLine")) true = true
  kk_BadLine_ValueError : kitB2 K "BadLine" (.type "ValueError") true = true
  kc_BadLine : kindB K "BadLine" = true
  d_law : ∃ fd, FunD K "law" "law" (defArgs (top 52)) (defBody (top 52)) (defScope (top 52)) [] [] (He.ga K "law") fd
  g_law : mg "law" = some (.ref (He.ga K "law"))
structure Zb (K : PySem.W.Frag) (mg : Str → Option Value) (base : Heap) : Prop extends Zf K mg where
  tab : LamX.TabB base mg (He.cT K ("step", none)).1 (He.cT K ("step", none)).2
abbrev s_BadRule_init : Stmt := (kid (top 8) 0)
theorem sc_BadRule_init : FnScope ["self", "index"] ["self", "index"] (defScope s_BadRule_init) := ⟨rfl, rfl, rfl, by decide +kernel, rfl, by decide +kernel, by decide +kernel⟩
abbrev s_BadLine_init : Stmt := (kid (top 9) 0)
theorem sc_BadLine_init : FnScope ["self", "line"] ["self", "line"] (defScope s_BadLine_init) := ⟨rfl, rfl, rfl, by decide +kernel, rfl, by decide +kernel, by decide +kernel⟩
abbrev s_is_number : Stmt := (top 13)
theorem sc_is_number : FnScope ["value", "least", "most"] ["value", "least", "most"] (defScope s_is_number) := ⟨rfl, rfl, rfl, by decide +kernel, rfl, by decide +kernel, by decide +kernel⟩
abbrev s_is_rule : Stmt := (top 14)
theorem sc_is_rule : FnScope ["value", "one"] ["value"] (defScope s_is_rule) := ⟨rfl, rfl, rfl, by decide +kernel, rfl, by decide +kernel, by decide +kernel⟩
abbrev s_Book_init : Stmt := (kid (top 15) 0)
theorem sc_Book_init : FnScope ["self", "rules", "accounts", "places", "index", "rule"] ["self", "rules", "accounts", "places"] (defScope s_Book_init) := ⟨rfl, rfl, rfl, by decide +kernel, rfl, by decide +kernel, by decide +kernel⟩
abbrev s_actions_of : Stmt := (top 16)
theorem sc_actions_of : FnScope ["book", "found", "account", "place"] ["book"] (defScope s_actions_of) := ⟨rfl, rfl, rfl, by decide +kernel, rfl, by decide +kernel, by decide +kernel⟩
abbrev s_is_action : Stmt := (top 17)
theorem sc_is_action : FnScope ["book", "value"] ["book", "value"] (defScope s_is_action) := ⟨rfl, rfl, rfl, by decide +kernel, rfl, by decide +kernel, by decide +kernel⟩
abbrev s_check_actions : Stmt := (top 18)
theorem sc_check_actions : FnScope ["book", "values", "value"] ["book", "values"] (defScope s_check_actions) := ⟨rfl, rfl, rfl, by decide +kernel, rfl, by decide +kernel, by decide +kernel⟩
abbrev s_pairs_of : Stmt := (top 22)
theorem sc_pairs_of : FnScope ["book", "account", "place"] ["book"] (defScope s_pairs_of) := ⟨rfl, rfl, rfl, by decide +kernel, rfl, by decide +kernel, by decide +kernel⟩
abbrev s_keys_of : Stmt := (top 23)
theorem sc_keys_of : FnScope ["book", "rule", "account", "place"] ["book", "rule"] (defScope s_keys_of) := ⟨rfl, rfl, rfl, by decide +kernel, rfl, by decide +kernel, by decide +kernel⟩
abbrev s_first_standing : Stmt := (top 24)
theorem sc_first_standing : FnScope ["book", "rule", "key"] ["book"] (defScope s_first_standing) := ⟨rfl, rfl, rfl, by decide +kernel, rfl, by decide +kernel, by decide +kernel⟩
abbrev s_is_at : Stmt := (top 25)
theorem sc_is_at : FnScope ["key", "account", "place"] ["key", "account", "place"] (defScope s_is_at) := ⟨rfl, rfl, rfl, by decide +kernel, rfl, by decide +kernel, by decide +kernel⟩
abbrev s_left_at : Stmt := (top 26)
theorem sc_left_at : FnScope ["book", "standing", "account", "place", "found", "rule", "parts", "key", "part"] ["book", "standing", "account", "place"] (defScope s_left_at) := ⟨rfl, rfl, rfl, by decide +kernel, rfl, by decide +kernel, by decide +kernel⟩
abbrev s_is_locked : Stmt := (top 27)
theorem sc_is_locked : FnScope ["book", "standing", "account", "place", "left"] ["book", "standing", "account", "place"] (defScope s_is_locked) := ⟨rfl, rfl, rfl, by decide +kernel, rfl, by decide +kernel, by decide +kernel⟩
abbrev s_passed : Stmt := (top 28)
theorem sc_passed : FnScope ["rule", "part", "many", "count", "age", "left", "whole", "streak"] ["rule", "part", "many"] (defScope s_passed) := ⟨rfl, rfl, rfl, by decide +kernel, rfl, by decide +kernel, by decide +kernel⟩
abbrev s_idle : Stmt := (top 29)
theorem sc_idle : FnScope ["book", "standing", "many", "rule", "parts", "part"] ["book", "standing", "many"] (defScope s_idle) := ⟨rfl, rfl, rfl, by decide +kernel, rfl, by decide +kernel, by decide +kernel⟩
abbrev s_begun : Stmt := (top 30)
theorem sc_begun : FnScope ["rule", "part", "count", "age", "left", "whole", "streak", "size"] ["rule", "part"] (defScope s_begun) := ⟨rfl, rfl, rfl, by decide +kernel, rfl, by decide +kernel, by decide +kernel⟩
abbrev s_kept_part : Stmt := (top 31)
theorem sc_kept_part : FnScope ["rule", "part", "count", "age", "left", "whole", "streak"] ["rule", "part"] (defScope s_kept_part) := ⟨rfl, rfl, rfl, by decide +kernel, rfl, by decide +kernel, by decide +kernel⟩
abbrev s_let_part : Stmt := (top 32)
theorem sc_let_part : FnScope ["rule", "part"] ["rule", "part"] (defScope s_let_part) := ⟨rfl, rfl, rfl, by decide +kernel, rfl, by decide +kernel, by decide +kernel⟩
abbrev s_changed : Stmt := (top 33)
theorem sc_changed : FnScope ["book", "standing", "is_touched", "change", "found", "rule", "parts", "row", "key", "part"] ["book", "standing", "is_touched", "change"] (defScope s_changed) := ⟨rfl, rfl, rfl, by decide +kernel, rfl, by decide +kernel, by decide +kernel⟩
abbrev s_step : Stmt := (top 34)
theorem sc_step : FnScope ["book", "standing", "action", "word", "account", "place", "right", "told", "change"] ["book", "standing", "action"] (defScope s_step) := ⟨rfl, rfl, rfl, by decide +kernel, rfl, by decide +kernel, by decide +kernel⟩
abbrev l_step_0 : Option Expr := (lams (defBody s_step))[0]?
theorem nd_step_0 : NdefX.ndefB (defScope s_step) (lamS l_step_0) ["action"] = true := by decide +kernel
abbrev l_step_1 : Option Expr := (lams (defBody s_step))[1]?
theorem nd_step_1 : NdefX.ndefB (defScope s_step) (lamS l_step_1) [] = true := by decide +kernel
abbrev l_step_2 : Option Expr := (lams (defBody s_step))[2]?
theorem nd_step_2 : NdefX.ndefB (defScope s_step) (lamS l_step_2) ["account", "place"] = true := by decide +kernel
def lamT : LTab := fun t => match t with
  | 0 => some ⟨lamP l_step_0, lamB l_step_0, lamS l_step_0, ["action"], [2]⟩
  | 1 => some ⟨lamP l_step_1, lamB l_step_1, lamS l_step_1, [], []⟩
  | 2 => some ⟨lamP l_step_2, lamB l_step_2, lamS l_step_2, ["account", "place"], [4, 5]⟩
  | _ => none
abbrev s_parting : Stmt := (top 36)
theorem sc_parting : FnScope ["one", "two", "actions", "begin", "known", "waiting", "at", "here", "there", "row", "action", "told", "after", "other", "later"] ["one", "two"] (defScope s_parting) := ⟨rfl, rfl, rfl, by decide +kernel, rfl, by decide +kernel, by decide +kernel⟩
abbrev s_alike : Stmt := (top 37)
theorem sc_alike : FnScope ["one", "two"] ["one", "two"] (defScope s_alike) := ⟨rfl, rfl, rfl, by decide +kernel, rfl, by decide +kernel, by decide +kernel⟩
abbrev s_Door_init : Stmt := (kid (top 39) 0)
theorem sc_Door_init : FnScope ["self", "book"] ["self", "book"] (defScope s_Door_init) := ⟨rfl, rfl, rfl, by decide +kernel, rfl, by decide +kernel, by decide +kernel⟩
abbrev s_Door_now : Stmt := (kid (top 39) 1)
theorem sc_Door_now : FnScope ["self"] ["self"] (defScope s_Door_now) := ⟨rfl, rfl, rfl, by decide +kernel, rfl, by decide +kernel, by decide +kernel⟩
abbrev s_Door_at : Stmt := (kid (top 39) 2)
theorem sc_Door_at : FnScope ["self", "moment"] ["self", "moment"] (defScope s_Door_at) := ⟨rfl, rfl, rfl, by decide +kernel, rfl, by decide +kernel, by decide +kernel⟩
abbrev s_Door_act : Stmt := (kid (top 39) 3)
theorem sc_Door_act : FnScope ["self", "moment", "action", "told", "after"] ["self", "moment", "action"] (defScope s_Door_act) := ⟨rfl, rfl, rfl, by decide +kernel, rfl, by decide +kernel, by decide +kernel⟩
abbrev s_Door_undo : Stmt := (kid (top 39) 6)
theorem sc_Door_undo : FnScope ["self"] ["self"] (defScope s_Door_undo) := ⟨rfl, rfl, rfl, by decide +kernel, rfl, by decide +kernel, by decide +kernel⟩
abbrev s_rule_line : Stmt := (top 43)
theorem sc_rule_line : FnScope ["rule", "words", "number", "word", "one"] ["rule"] (defScope s_rule_line) := ⟨rfl, rfl, rfl, by decide +kernel, rfl, by decide +kernel, by decide +kernel⟩
def b_rule_line : SM := seqM (setM 1 (op2M addD (lstM (consA (op2M ixD (varM 0) (litM (.int 0))) (nilA))) (ofNew (lcM (iSeqM (slM (varM 0) (partM (litM (.int 1))) (partM (litM (.int 4))))) [2] (nameT 2) (yesT) (callM strF (consA (varM 2) (nilA))))))) (retM (methM joinF (strR (litM (.str " "))) (consA (op2M addD (varM 1) (ofNew (lcM (iZipM (consA (litM (.tup [(.str "clears"), (.str "grows"), (.str "strict")])) (consA (slM (varM 0) (partM (litM (.int 4))) (noP)) (nilA)))) [3, 4] (tupT [nameT 3, nameT 4]) (yesT) (ifV (truM (varM 4)) (varM 3) (litM (.str "-")))))) (nilA))))
def m_rule_line : FM := funM true 1 4 b_rule_line
abbrev s_number_of : Stmt := (top 44)
theorem sc_number_of : FnScope ["word"] ["word"] (defScope s_number_of) := ⟨rfl, rfl, rfl, by decide +kernel, rfl, by decide +kernel, by decide +kernel⟩
def b_number_of : SM := retM (ifV (andT (bT (op2M eqD (callM lenF (consA (varM 0) (nilA))) (litM (.int 1)))) (bT (op2M inD (varM 0) (litM (.str "012345"))))) (callM intF (consA (varM 0) (nilA))) (litM .non))
def m_number_of : FM := funM true 1 0 b_number_of
abbrev s_rule_of : Stmt := (top 45)
theorem sc_rule_of : FnScope ["line", "words", "rule", "word"] ["line"] (defScope s_rule_of) := ⟨rfl, rfl, rfl, by decide +kernel, rfl, by decide +kernel, by decide +kernel⟩
def b_rule_of : SM := seqM (setM 1 (methM splitF (strR (varM 0)) (consA (litM (.str " ")) (nilA)))) (seqM (ifM (bT (op2M neD (callM lenF (consA (varM 1) (nilA))) (litM (.int 7)))) (retM (litM .non)) (nxM)) (seqM (setM 2 (op2M addD (op2M addD (tupM (consA (op2M ixD (varM 1) (litM (.int 0))) (nilA))) (callM tupleF (consA (ofNew (lcM (iSeqM (slM (varM 1) (partM (litM (.int 1))) (partM (litM (.int 4))))) [3] (nameT 3) (yesT) (callN 1 m_number_of (consA (varM 3) (nilA))))) (nilA)))) (callM tupleF (consA (ofNew (lcM (iSeqM (slM (varM 1) (partM (litM (.int 4))) (noP))) [3] (nameT 3) (yesT) (op2M neD (varM 3) (litM (.str "-"))))) (nilA))))) (retM (ifV (andT (truM (callN 1 m_is_rule (consA (varM 2) (nilA)))) (bT (op2M eqD (callN 1 m_rule_line (consA (varM 2) (nilA))) (varM 0)))) (varM 2) (litM .non)))))
def m_rule_of : FM := funM true 1 3 b_rule_of
abbrev s_read : Stmt := (top 46)
theorem sc_read : FnScope ["text", "lines", "words", "made", "rules", "at", "rule", "line"] ["text"] (defScope s_read) := ⟨rfl, rfl, rfl, by decide +kernel, rfl, by decide +kernel, by decide +kernel⟩
def b_read : SM := seqM (setM 1 (methM splitF (strR (varM 0)) (consA (litM (.str "\n")) (nilA)))) (seqM (setM 2 (methM splitF (strR (op2M ixD (varM 1) (litM (.int 0)))) (consA (litM (.str " ")) (nilA)))) (seqM (setM 3 (litM .non)) (seqM (ifM (andT (bT (op2M eqD (callM lenF (consA (varM 2) (nilA))) (litM (.int 3)))) (bT (op2M eqD (op2M ixD (varM 2) (litM (.int 0))) (litM (.str "door"))))) (tryM [("BadRule", "LockError", true), ("BadCount", "LockError", true), ("BadAction", "LockError", true), ("BadMoment", "LockError", true), ("NothingToUndo", "LockError", true), ("NotComparable", "LockError", true), ("BadLine", "LockError", true)] (setM 3 (frzM (makeM "Book" 4 m_Book_init (consA (lstM (nilA)) (consA (callN 1 m_number_of (consA (op2M ixD (varM 2) (litM (.int 1))) (nilA))) (consA (callN 1 m_number_of (consA (op2M ixD (varM 2) (litM (.int 2))) (nilA))) (nilA))))))) [⟨"LockError", none, (fun _ _ => setM 3 (litM .non))⟩]) (nxM)) (seqM (ifM (bT (op2M isD (varM 3) (litM .non))) (raise1M "BadLine" "line" (litM (.int 1))) (nxM)) (seqM (setM 4 (ofNew (lcM (iSeqM (slM (varM 1) (partM (litM (.int 1))) (noP))) [7] (nameT 7) (yesT) (callN 1 m_rule_of (consA (varM 7) (nilA)))))) (seqM (forM (iEnumM (consA (varM 4) (nilA))) (tupT [nameT 5, nameT 6]) (ifM (orT (bT (op2M isD (varM 6) (litM .non))) (bT (op2M geD (varM 5) (litM (.int 3))))) (raise1M "BadLine" "line" (op2M addD (varM 5) (litM (.int 2)))) (nxM))) (retM (frzM (makeM "Book" 4 m_Book_init (consA (varM 4) (consA (fldM "Book" "accounts" (varM 3)) (consA (fldM "Book" "places" (varM 3)) (nilA)))))))))))))
def m_read : FM := funM true 1 7 b_read
abbrev s__law_begin : Stmt := (top 48)
theorem sc__law_begin : FnScope ["_law_script"] ["_law_script"] (defScope s__law_begin) := ⟨rfl, rfl, rfl, by decide +kernel, rfl, by decide +kernel, by decide +kernel⟩
abbrev s__law_draw : Stmt := (top 49)
theorem sc__law_draw : FnScope ["_law_draws", "_law_many", "_law_cell", "_law_found"] ["_law_draws", "_law_many"] (defScope s__law_draw) := ⟨rfl, rfl, rfl, by decide +kernel, rfl, by decide +kernel, by decide +kernel⟩
abbrev s__law_raise : Stmt := (top 50)
theorem sc__law_raise : FnScope ["_law_at", "_law_book"] ["_law_at"] (defScope s__law_raise) := ⟨rfl, rfl, rfl, by decide +kernel, rfl, by decide +kernel, by decide +kernel⟩
def b__law_raise : SM := seqM (setM 1 (frzM (makeM "Book" 4 m_Book_init (consA (lstM (nilA)) (consA (litM (.int 1)) (consA (litM (.int 1)) (nilA))))))) (seqM (ifM (bT (op2M eqD (varM 0) (litM (.int 0)))) (dropM (frzM (makeM "Book" 4 m_Book_init (consA (lstM (nilA)) (consA (litM (.int 2)) (consA (litM (.int 2)) (nilA))))))) (nxM)) (seqM (ifM (bT (op2M eqD (varM 0) (litM (.int 1)))) (dropM (methO "Door" "act" 3 m_Door_act (makeM "Door" 2 m_Door_init (consA (varM 1) (nilA))) (consA (litM (.int 0)) (consA (tupM (consA (litM (.str "open")) (consA (litM (.int 1)) (nilA)))) (nilA))))) (nxM)) (seqM (ifM (bT (op2M eqD (varM 0) (litM (.int 2)))) (dropM (methO "Door" "act" 3 m_Door_act (makeM "Door" 2 m_Door_init (consA (varM 1) (nilA))) (consA (negM (litM (.int 1))) (consA (litM .non) (nilA))))) (nxM)) (seqM (ifM (bT (op2M eqD (varM 0) (litM (.int 3)))) (dropM (methO "Door" "undo" 1 m_Door_undo (makeM "Door" 2 m_Door_init (consA (varM 1) (nilA))) nilA)) (nxM)) (seqM (ifM (bT (op2M eqD (varM 0) (litM (.int 4)))) (dropM (callN 2 m_alike (consA (varM 1) (consA (frzM (makeM "Book" 4 m_Book_init (consA (lstM (nilA)) (consA (litM (.int 1)) (consA (litM (.int 2)) (nilA)))))) (nilA))))) (nxM)) (seqM (ifM (bT (op2M eqD (varM 0) (litM (.int 5)))) (dropM (frzM (makeM "Book" 4 m_Book_init (consA (lstM (consA (tupM (nilA)) (nilA))) (consA (litM (.int 1)) (consA (litM (.int 1)) (nilA))))))) (nxM)) (ifM (bT (op2M eqD (varM 0) (litM (.int 6)))) (dropM (callN 1 m_read (consA (litM (.str "")) (nilA)))) (nxM))))))))
def m__law_raise : FM := funM true 1 1 b__law_raise
abbrev s__law_kinds : Stmt := (top 51)
theorem sc__law_kinds : FnScope ["_law_e", "_law_told"] ["_law_e"] (defScope s__law_kinds) := ⟨rfl, rfl, rfl, by decide +kernel, rfl, by decide +kernel, by decide +kernel⟩
def tab__law_kinds : List (Str × List Bool × List Bool × List Bool) := [("BadRule", [false, false, false, false], [false, true, false], [true]), ("BadCount", [true, false, false, false], [false, false, false], [true]), ("BadAction", [false, true, false, false], [false, false, false], [true]), ("BadMoment", [false, false, true, false], [false, false, false], [true]), ("NothingToUndo", [false, false, false, true], [false, false, false], [true]), ("NotComparable", [false, false, false, false], [true, false, false], [true]), ("BadLine", [false, false, false, false], [false, false, true], [true])]
abbrev s_law : Stmt := (top 52)
theorem sc_law : FnScope ["_law_script", "_law_draws", "_law_at", "_law_told", "_law_e", "_law_k"] ["_law_script"] (defScope s_law) := ⟨rfl, rfl, rfl, by decide +kernel, rfl, by decide +kernel, by decide +kernel⟩
def b_law : SM := seqM (setM 1 (callN 1 m__law_begin (consA (varM 0) (nilA)))) (seqM (setM 2 (callN 2 m__law_draw (consA (varM 1) (consA (litM (.int 7)) (nilA))))) (seqM (setM 3 (lstM (nilA))) (seqM (tryM [("BadRule", "LockError", true), ("BadCount", "LockError", true), ("BadAction", "LockError", true), ("BadMoment", "LockError", true), ("NothingToUndo", "LockError", true), ("NotComparable", "LockError", true), ("BadLine", "LockError", true)] (dropM (callN 1 m__law_raise (consA (varM 2) (nilA)))) [⟨"LockError", some 4, kindM tab__law_kinds 3⟩]) (retM (op2M eqD (varM 3) (op2M addD (ofNew (lcM (iRng1M (consA (litM (.int 7)) (nilA))) [5] (nameT 5) (yesT) (op2M eqD (varM 5) (varM 2)))) (lstM (consA (litM (.bl true)) (nilA)))))))))
def m_law : FM := funM true 1 5 b_law
section
variable {P : Program} {w : World} {K : PySem.W.Frag} {mg : Str → Option Value} {base : Heap}
theorem kx_BadRule (Z : Zb K mg base) : ClX P w K mg base 1 "BadRule" "index" := by
  obtain ⟨fd, F⟩ := Z.d_BadRule_init
  exact ⟨_, fd, _, fn_x F sc_BadRule_init rfl Z.o_BadRule Z.n_BadRule_index rfl rfl (by rfl) (by rfl) (by decide) (by decide) (by decide) (by decide) (fun _ _ _ _ _ _ => rfl), Z.g_BadRule, Z.o_BadRule, Z.xi_BadRule.1, Z.xi_BadRule.2, F.bindsN (ps := ["self", "index"]) fun _ _ _ _ _ _ us hl => match us, hl with | [_, _], _ => rfl⟩
theorem kx_BadLine (Z : Zb K mg base) : ClX P w K mg base 1 "BadLine" "line" := by
  obtain ⟨fd, F⟩ := Z.d_BadLine_init
  exact ⟨_, fd, _, fn_x F sc_BadLine_init rfl Z.o_BadLine Z.n_BadLine_line rfl rfl (by rfl) (by rfl) (by decide) (by decide) (by decide) (by decide) (fun _ _ _ _ _ _ => rfl), Z.g_BadLine, Z.o_BadLine, Z.xi_BadLine.1, Z.xi_BadLine.2, F.bindsN (ps := ["self", "line"]) fun _ _ _ _ _ _ us hl => match us, hl with | [_, _], _ => rfl⟩
theorem okF_is_number (Z : Zb K mg base) {fd : FuncData} (F : FunD K "is_number" "is_number" (defArgs (top 13)) (defBody (top 13)) (defScope (top 13)) [] [] (He.ga K "is_number") fd) : FnOk P w K mg base (L2.CX P w) 1 (He.ga K "is_number") fd ["value", "least", "most"] (spM K w 3 m_is_number) := fn_m (keep := true) F sc_is_number rfl fun cdv A outer s H E hr tk hp => mss_one (ms_ret (me_and (me_callB cm_isi Z.f_isinstance rfl MM.boot_isinstance (ma_cons (me_var 0) (ma_cons (me_ty Z.f_int rfl MM.boot_int) (ma_nil)))) (me_and (me_not (me_callB cm_isi Z.f_isinstance rfl MM.boot_isinstance (ma_cons (me_var 0) (ma_cons (me_ty Z.f_bool rfl MM.boot_bool) (ma_nil))))) (me_one (me_chain om_le om_le (me_var 1) (me_var 0) (me_var 2))))))
theorem ok_is_number (Z : Zb K mg base) : ∃ fd, FnOk P w K mg base (L2.CX P w) 1 (He.ga K "is_number") fd ["value", "least", "most"] (spM K w 3 m_is_number) ∧ PySem.W.keepIn K (.ref (He.ga K "is_number")) = true ∧ Binds K fd ["value", "least", "most"] [] := by
  obtain ⟨fd, F⟩ := Z.d_is_number
  exact ⟨fd, okF_is_number Z F, F.kp, (F.bindsN (ps := ["value", "least", "most"]) fun _ _ _ _ _ _ us hl => match us, hl with | [_, _, _], _ => rfl)⟩
theorem cl_is_number (Z : Zb K mg base) : Cl P w K mg base 1 "is_number" 3 m_is_number := by
  obtain ⟨fd, F, kp, b⟩ := ok_is_number (P := P) (w := w) (base := base) Z
  exact ⟨_, fd, _, F, Z.g_is_number, kp, b⟩
theorem okF_is_rule (Z : Zb K mg base) {fd : FuncData} (F : FunD K "is_rule" "is_rule" (defArgs (top 14)) (defBody (top 14)) (defScope (top 14)) [] [] (He.ga K "is_rule") fd) : FnOk P w K mg base (L2.CX P w) 2 (He.ga K "is_rule") fd ["value"] (spM K w 1 m_is_rule) := fn_m (keep := true) F sc_is_rule rfl fun cdv A outer s H E hr tk hp => mss_cons (ms_if (PW.pt (mw_or (mt_not (mt_tru (me_callB cm_isi Z.f_isinstance rfl MM.boot_isinstance (ma_cons (me_var 0) (ma_cons (me_ty Z.f_tuple rfl MM.boot_tuple) (ma_nil)))))) (mw_or (mt_cmp (om_ne hr.units) (me_callB cm_len Z.f_len rfl MM.boot_len (ma_cons (me_var 0) (ma_nil))) (me_int) (nomark _)) (mw_or (mt_not (mt_tru (me_callB cm_isi Z.f_isinstance rfl MM.boot_isinstance (ma_cons (me_ix om_ix (me_var 0) (me_int) (plainIx _)) (ma_cons (me_ty Z.f_str rfl MM.boot_str) (ma_nil)))))) (mw_or1 (mt_cmp (om_nin (un65 hr)) (me_ix om_ix (me_var 0) (me_int) (plainIx _)) (me_glob (glb Z.k_KEYS) rfl) (by with_unfolding_all rfl))))))) (mss_one (ms_ret (me_bl))) (mss_nil)) (mss_cons (ms_if (PW.pt (mw_or (mt_not (mt_tru (me_call (cl_is_number Z) hr (by decide) tk (ma_cons (me_ix om_ix (me_var 0) (me_int) (plainIx _)) (ma_cons (me_int) (ma_cons (me_int) (ma_nil))))))) (mw_or (mt_not (mt_tru (me_call (cl_is_number Z) hr (by decide) tk (ma_cons (me_ix om_ix (me_var 0) (me_int) (plainIx _)) (ma_cons (me_int) (ma_cons (me_int) (ma_nil))))))) (mw_or1 (mt_not (mt_tru (me_call (cl_is_number Z) hr (by decide) tk (ma_cons (me_ix om_ix (me_var 0) (me_int) (plainIx _)) (ma_cons (me_int) (ma_cons (me_int) (ma_nil))))))))))) (mss_one (ms_ret (me_bl))) (mss_nil)) (mss_one (ms_ret (me_callB (cm_all rfl) Z.f_all rfl MM.boot_all (ma_cons (me_new (mn_lc (own := [("one", 1)]) rfl sc_is_rule.nd (mi_seq (me_sl (me_var 0) (mo_some (me_int)) (mo_none))) (blk_of (by rfl)) (by decide) (fun _ _ _ _ _ => mg_name 1 sc_is_rule.nd) (fun _ _ _ _ _ => MTs_nil) (fun _ _ _ _ _ => me_callB cm_isi Z.f_isinstance rfl MM.boot_isinstance (ma_cons (me_var 1) (ma_cons (me_ty Z.f_bool rfl MM.boot_bool) (ma_nil)))))) (ma_nil))))))
theorem ok_is_rule (Z : Zb K mg base) : ∃ fd, FnOk P w K mg base (L2.CX P w) 2 (He.ga K "is_rule") fd ["value"] (spM K w 1 m_is_rule) ∧ PySem.W.keepIn K (.ref (He.ga K "is_rule")) = true ∧ Binds K fd ["value"] [] := by
  obtain ⟨fd, F⟩ := Z.d_is_rule
  exact ⟨fd, okF_is_rule Z F, F.kp, (F.bindsN (ps := ["value"]) fun _ _ _ _ _ _ us hl => match us, hl with | [_], _ => rfl)⟩
theorem cl_is_rule (Z : Zb K mg base) : Cl P w K mg base 2 "is_rule" 1 m_is_rule := by
  obtain ⟨fd, F, kp, b⟩ := ok_is_rule (P := P) (w := w) (base := base) Z
  exact ⟨_, fd, _, F, Z.g_is_rule, kp, b⟩
theorem okF_Book_init (Z : Zb K mg base) {fd : FuncData} (F : FunD K "__init__" "Book.__init__" (defArgs (kid (top 15) 0)) (defBody (kid (top 15) 0)) (defScope (kid (top 15) 0)) [] [] (He.fAd K ("Book", some "__init__")) fd) : FnOk P w K mg base (L2.CX P w) 3 (He.fAd K ("Book", some "__init__")) fd ["self", "rules", "accounts", "places"] (spM K w 4 m_Book_init) := fn_m (keep := true) F sc_Book_init rfl fun cdv A outer s H E hr tk hp => mss_cons (ms_if (mt_cmp om_gt (me_callB cm_len Z.f_len rfl MM.boot_len (ma_cons (me_var 1) (ma_nil))) (me_glob (glb Z.k_MOST_RULES) rfl) (nomark _)) (mss_one (ms_raise1 (kx_BadRule Z) hr (by decide) tk (me_glob (glb Z.k_MOST_RULES) rfl))) (mss_nil)) (mss_cons (ms_forK hp rfl Z.f_enumerate (ma_cons (me_var 1) (ma_nil)) (mg_tup rfl (mgs_cons (mg_name 4 sc_Book_init.nd) (mgs_cons (mg_name 5 sc_Book_init.nd) (mgs_nil)))) (mss_one (ms_if (mt_not (mt_tru (me_call (cl_is_rule Z) hr (by decide) tk (ma_cons (me_var 5) (ma_nil))))) (mss_one (ms_raise1 (kx_BadRule Z) hr (by decide) tk (me_var 4))) (mss_nil)))) (mss_cons (ms_if (PW.pt (mw_or (mt_not (mt_tru (me_call (cl_is_number Z) hr (by decide) tk (ma_cons (me_var 2) (ma_cons (me_int) (ma_cons (me_int) (ma_nil))))))) (mw_or (mt_not (mt_tru (me_call (cl_is_number Z) hr (by decide) tk (ma_cons (me_var 3) (ma_cons (me_int) (ma_cons (me_int) (ma_nil))))))) (mw_or1 (mt_cmp om_gt (me_op om_mul (me_var 2) (me_var 3)) (me_int) (nomark _)))))) (mss_one (ms_raise (ExcF.to Z.x_BadCount) tk)) (mss_nil)) (mss_cons (ms_fld ⟨Z.c_Book, Z.n_Book_rules⟩ (me_var 0) (me_callT cm_tuple Z.f_tuple rfl MM.boot_tuple (ma_cons (me_var 1) (ma_nil)))) (mss_cons (ms_fld ⟨Z.c_Book, Z.n_Book_accounts⟩ (me_var 0) (me_var 2)) (mss_one (ms_fld ⟨Z.c_Book, Z.n_Book_places⟩ (me_var 0) (me_var 3)))))))
theorem ok_Book_init (Z : Zb K mg base) : ∃ fd, FnOk P w K mg base (L2.CX P w) 3 (He.fAd K ("Book", some "__init__")) fd ["self", "rules", "accounts", "places"] (spM K w 4 m_Book_init) ∧ PySem.W.keepIn K (.ref (He.fAd K ("Book", some "__init__"))) = true ∧ Binds K fd ["self", "rules", "accounts", "places"] [] := by
  obtain ⟨fd, F⟩ := Z.d_Book_init
  exact ⟨fd, okF_Book_init Z F, F.kp, (F.bindsN (ps := ["self", "rules", "accounts", "places"]) fun _ _ _ _ _ _ us hl => match us, hl with | [_, _, _, _], _ => rfl)⟩
theorem cm_Book (Z : Zb K mg base) : ClM P w K mg base 3 "Book" 4 m_Book_init := by
  obtain ⟨fd, F, kp, b⟩ := ok_Book_init (P := P) (w := w) (base := base) Z
  exact ⟨_, fd, _, F, Z.g_Book, Z.mk_Book, b⟩
theorem okF_actions_of (Z : Zb K mg base) {fd : FuncData} (F : FunD K "actions_of" "actions_of" (defArgs (top 16)) (defBody (top 16)) (defScope (top 16)) [] [] (He.ga K "actions_of") fd) : FnOk P w K mg base (L2.CX P w) 1 (He.ga K "actions_of") fd ["book"] (spM K w 1 m_actions_of) := fn_m (keep := true) F sc_actions_of rfl fun cdv A outer s H E hr tk hp => mss_cons (ms_set 1 sc_actions_of.nd (me_lst (ma_cons (me_non) (ma_nil)))) (mss_cons (ms_for hp rfl (mi_range1 Z.f_range (ma_cons (me_fld ⟨Z.c_Book, Z.n_Book_accounts⟩ (me_var 0)) (ma_nil))) (mg_name 2 sc_actions_of.nd) (mss_one (ms_for hp rfl (mi_range1 Z.f_range (ma_cons (me_fld ⟨Z.c_Book, Z.n_Book_places⟩ (me_var 0)) (ma_nil))) (mg_name 3 sc_actions_of.nd) (mss_one (ms_set 1 sc_actions_of.nd (me_op om_add (me_var 1) (me_lst (ma_cons (me_tup (ma_cons (me_str) (ma_cons (me_var 2) (ma_cons (me_var 3) (ma_cons (me_bl) (ma_nil)))))) (ma_cons (me_tup (ma_cons (me_str) (ma_cons (me_var 2) (ma_cons (me_var 3) (ma_cons (me_bl) (ma_nil)))))) (ma_nil)))))))))) (mss_one (ms_ret (me_op om_add (me_var 1) (me_new (mn_lc (own := [("account", 2)]) rfl sc_actions_of.nd (mi_range1 Z.f_range (ma_cons (me_fld ⟨Z.c_Book, Z.n_Book_accounts⟩ (me_var 0)) (ma_nil))) (blk_of (by rfl)) (by decide) (fun _ _ _ _ _ => mg_name 2 sc_actions_of.nd) (fun _ _ _ _ _ => MTs_nil) (fun _ _ _ _ _ => me_tup (ma_cons (me_str) (ma_cons (me_var 2) (ma_nil))))))))))
theorem ok_actions_of (Z : Zb K mg base) : ∃ fd, FnOk P w K mg base (L2.CX P w) 1 (He.ga K "actions_of") fd ["book"] (spM K w 1 m_actions_of) ∧ PySem.W.keepIn K (.ref (He.ga K "actions_of")) = true ∧ Binds K fd ["book"] [] := by
  obtain ⟨fd, F⟩ := Z.d_actions_of
  exact ⟨fd, okF_actions_of Z F, F.kp, (F.bindsN (ps := ["book"]) fun _ _ _ _ _ _ us hl => match us, hl with | [_], _ => rfl)⟩
theorem cl_actions_of (Z : Zb K mg base) : Cl P w K mg base 1 "actions_of" 1 m_actions_of := by
  obtain ⟨fd, F, kp, b⟩ := ok_actions_of (P := P) (w := w) (base := base) Z
  exact ⟨_, fd, _, F, Z.g_actions_of, kp, b⟩
theorem okF_is_action (Z : Zb K mg base) {fd : FuncData} (F : FunD K "is_action" "is_action" (defArgs (top 17)) (defBody (top 17)) (defScope (top 17)) [] [] (He.ga K "is_action") fd) : FnOk P w K mg base (L2.CX P w) 2 (He.ga K "is_action") fd ["book", "value"] (spM K w 2 m_is_action) := fn_m (keep := true) F sc_is_action rfl fun cdv A outer s H E hr tk hp => mss_cons (ms_if (mt_cmp om_is (me_var 1) (me_non) (nomark _)) (mss_one (ms_ret (me_bl))) (mss_nil)) (mss_cons (ms_if (PW.pt (mw_or (mt_not (mt_tru (me_callB cm_isi Z.f_isinstance rfl MM.boot_isinstance (ma_cons (me_var 1) (ma_cons (me_ty Z.f_tuple rfl MM.boot_tuple) (ma_nil)))))) (mw_or (mt_not (mt_tru (me_var 1))) (mw_or1 (mt_not (mt_tru (me_callB cm_isi Z.f_isinstance rfl MM.boot_isinstance (ma_cons (me_ix om_ix (me_var 1) (me_int) (plainIx _)) (ma_cons (me_ty Z.f_str rfl MM.boot_str) (ma_nil)))))))))) (mss_one (ms_ret (me_bl))) (mss_nil)) (mss_cons (ms_if (mt_cmp (om_eq hr.units) (me_ix om_ix (me_var 1) (me_int) (plainIx _)) (me_str) (nomark _)) (mss_one (ms_ret (me_and (me_cmp (om_eq hr.units) (me_callB cm_len Z.f_len rfl MM.boot_len (ma_cons (me_var 1) (ma_nil))) (me_int) (nomark _)) (me_one (me_call (cl_is_number Z) hr (by decide) tk (ma_cons (me_ix om_ix (me_var 1) (me_int) (plainIx _)) (ma_cons (me_int) (ma_cons (me_op om_sub (me_fld ⟨Z.c_Book, Z.n_Book_accounts⟩ (me_var 0)) (me_int)) (ma_nil))))))))) (mss_nil)) (mss_cons (ms_if (PW.pt (mw_or (mt_cmp (om_ne hr.units) (me_ix om_ix (me_var 1) (me_int) (plainIx _)) (me_str) (nomark _)) (mw_or (mt_cmp (om_ne hr.units) (me_callB cm_len Z.f_len rfl MM.boot_len (ma_cons (me_var 1) (ma_nil))) (me_int) (nomark _)) (mw_or1 (mt_not (mt_tru (me_callB cm_isi Z.f_isinstance rfl MM.boot_isinstance (ma_cons (me_ix om_ix (me_var 1) (me_int) (plainIx _)) (ma_cons (me_ty Z.f_bool rfl MM.boot_bool) (ma_nil)))))))))) (mss_one (ms_ret (me_bl))) (mss_nil)) (mss_one (ms_ret (me_and (me_call (cl_is_number Z) hr (by decide) tk (ma_cons (me_ix om_ix (me_var 1) (me_int) (plainIx _)) (ma_cons (me_int) (ma_cons (me_op om_sub (me_fld ⟨Z.c_Book, Z.n_Book_accounts⟩ (me_var 0)) (me_int)) (ma_nil))))) (me_one (me_call (cl_is_number Z) hr (by decide) tk (ma_cons (me_ix om_ix (me_var 1) (me_int) (plainIx _)) (ma_cons (me_int) (ma_cons (me_op om_sub (me_fld ⟨Z.c_Book, Z.n_Book_places⟩ (me_var 0)) (me_int)) (ma_nil))))))))))))
theorem ok_is_action (Z : Zb K mg base) : ∃ fd, FnOk P w K mg base (L2.CX P w) 2 (He.ga K "is_action") fd ["book", "value"] (spM K w 2 m_is_action) ∧ PySem.W.keepIn K (.ref (He.ga K "is_action")) = true ∧ Binds K fd ["book", "value"] [] := by
  obtain ⟨fd, F⟩ := Z.d_is_action
  exact ⟨fd, okF_is_action Z F, F.kp, (F.bindsN (ps := ["book", "value"]) fun _ _ _ _ _ _ us hl => match us, hl with | [_, _], _ => rfl)⟩
theorem cl_is_action (Z : Zb K mg base) : Cl P w K mg base 2 "is_action" 2 m_is_action := by
  obtain ⟨fd, F, kp, b⟩ := ok_is_action (P := P) (w := w) (base := base) Z
  exact ⟨_, fd, _, F, Z.g_is_action, kp, b⟩
theorem okF_check_actions (Z : Zb K mg base) {fd : FuncData} (F : FunD K "check_actions" "check_actions" (defArgs (top 18)) (defBody (top 18)) (defScope (top 18)) [] [] (He.ga K "check_actions") fd) : FnOk P w K mg base (L2.CX P w) 3 (He.ga K "check_actions") fd ["book", "values"] (spM K w 2 m_check_actions) := fn_m (keep := true) F sc_check_actions rfl fun cdv A outer s H E hr tk hp => mss_one (ms_if (mt_not (mt_tru (me_callB (cm_all rfl) Z.f_all rfl MM.boot_all (ma_cons (me_new (mn_lc (own := [("value", 2)]) rfl sc_check_actions.nd (mi_seq (me_var 1)) (blk_of (by rfl)) (by decide) (fun _ _ _ _ _ => mg_name 2 sc_check_actions.nd) (fun _ _ _ _ _ => MTs_nil) (fun _ _ _ _ _ => me_call (cl_is_action Z) hr (by decide) takesBlk (ma_cons (me_var 0) (ma_cons (me_var 2) (ma_nil)))))) (ma_nil))))) (mss_one (ms_raise (ExcF.to Z.x_BadAction) tk)) (mss_nil))
theorem ok_check_actions (Z : Zb K mg base) : ∃ fd, FnOk P w K mg base (L2.CX P w) 3 (He.ga K "check_actions") fd ["book", "values"] (spM K w 2 m_check_actions) ∧ PySem.W.keepIn K (.ref (He.ga K "check_actions")) = true ∧ Binds K fd ["book", "values"] [] := by
  obtain ⟨fd, F⟩ := Z.d_check_actions
  exact ⟨fd, okF_check_actions Z F, F.kp, (F.bindsN (ps := ["book", "values"]) fun _ _ _ _ _ _ us hl => match us, hl with | [_, _], _ => rfl)⟩
theorem cl_check_actions (Z : Zb K mg base) : Cl P w K mg base 3 "check_actions" 2 m_check_actions := by
  obtain ⟨fd, F, kp, b⟩ := ok_check_actions (P := P) (w := w) (base := base) Z
  exact ⟨_, fd, _, F, Z.g_check_actions, kp, b⟩
theorem okF_pairs_of (Z : Zb K mg base) {fd : FuncData} (F : FunD K "pairs_of" "pairs_of" (defArgs (top 22)) (defBody (top 22)) (defScope (top 22)) [] [] (He.ga K "pairs_of") fd) : FnOk P w K mg base (L2.CX P w) 1 (He.ga K "pairs_of") fd ["book"] (spM K w 1 m_pairs_of) := fn_m (keep := true) F sc_pairs_of rfl fun cdv A outer s H E hr tk hp => mss_one (ms_ret (me_new (mn_lc2 (own := [("account", 1), ("place", 2)]) (vs1 := [2]) rfl sc_pairs_of.nd (mi_range1 Z.f_range (ma_cons (me_fld ⟨Z.c_Book, Z.n_Book_accounts⟩ (me_var 0)) (ma_nil))) (blk_of (by rfl)) (by decide) (by decide) (by decide) (fun _ _ _ _ _ => mg_name 1 sc_pairs_of.nd) (fun _ _ _ _ _ => MTs_nil) (fun _ _ _ _ _ => mi_range1 Z.f_range (ma_cons (me_fld ⟨Z.c_Book, Z.n_Book_places⟩ (me_var 0)) (ma_nil))) (fun _ _ _ _ _ => mg_name 2 sc_pairs_of.nd) (fun _ _ _ _ _ => MTs_nil) (fun _ _ _ _ _ => me_tup (ma_cons (me_var 1) (ma_cons (me_var 2) (ma_nil)))))))
theorem ok_pairs_of (Z : Zb K mg base) : ∃ fd, FnOk P w K mg base (L2.CX P w) 1 (He.ga K "pairs_of") fd ["book"] (spM K w 1 m_pairs_of) ∧ PySem.W.keepIn K (.ref (He.ga K "pairs_of")) = true ∧ Binds K fd ["book"] [] := by
  obtain ⟨fd, F⟩ := Z.d_pairs_of
  exact ⟨fd, okF_pairs_of Z F, F.kp, (F.bindsN (ps := ["book"]) fun _ _ _ _ _ _ us hl => match us, hl with | [_], _ => rfl)⟩
theorem cl_pairs_of (Z : Zb K mg base) : Cl P w K mg base 1 "pairs_of" 1 m_pairs_of := by
  obtain ⟨fd, F, kp, b⟩ := ok_pairs_of (P := P) (w := w) (base := base) Z
  exact ⟨_, fd, _, F, Z.g_pairs_of, kp, b⟩
theorem okF_keys_of (Z : Zb K mg base) {fd : FuncData} (F : FunD K "keys_of" "keys_of" (defArgs (top 23)) (defBody (top 23)) (defScope (top 23)) [] [] (He.ga K "keys_of") fd) : FnOk P w K mg base (L2.CX P w) 2 (He.ga K "keys_of") fd ["book", "rule"] (spM K w 2 m_keys_of) := fn_m (keep := true) F sc_keys_of rfl fun cdv A outer s H E hr tk hp => mss_cons (ms_if (mt_cmp (om_eq hr.units) (me_ix om_ix (me_var 1) (me_int) (plainIx _)) (me_str) (nomark _)) (mss_one (ms_ret (me_new (mn_lc (own := [("account", 2)]) rfl sc_keys_of.nd (mi_range1 Z.f_range (ma_cons (me_fld ⟨Z.c_Book, Z.n_Book_accounts⟩ (me_var 0)) (ma_nil))) (blk_of (by rfl)) (by decide) (fun _ _ _ _ _ => mg_name 2 sc_keys_of.nd) (fun _ _ _ _ _ => MTs_nil) (fun _ _ _ _ _ => me_tup (ma_cons (me_var 2) (ma_cons (me_non) (ma_nil)))))))) (mss_nil)) (mss_cons (ms_if (mt_cmp (om_eq hr.units) (me_ix om_ix (me_var 1) (me_int) (plainIx _)) (me_str) (nomark _)) (mss_one (ms_ret (me_new (mn_lc (own := [("place", 3)]) rfl sc_keys_of.nd (mi_range1 Z.f_range (ma_cons (me_fld ⟨Z.c_Book, Z.n_Book_places⟩ (me_var 0)) (ma_nil))) (blk_of (by rfl)) (by decide) (fun _ _ _ _ _ => mg_name 3 sc_keys_of.nd) (fun _ _ _ _ _ => MTs_nil) (fun _ _ _ _ _ => me_tup (ma_cons (me_non) (ma_cons (me_var 3) (ma_nil)))))))) (mss_nil)) (mss_one (ms_ret (me_call (cl_pairs_of Z) hr (by decide) tk (ma_cons (me_var 0) (ma_nil))))))
theorem ok_keys_of (Z : Zb K mg base) : ∃ fd, FnOk P w K mg base (L2.CX P w) 2 (He.ga K "keys_of") fd ["book", "rule"] (spM K w 2 m_keys_of) ∧ PySem.W.keepIn K (.ref (He.ga K "keys_of")) = true ∧ Binds K fd ["book", "rule"] [] := by
  obtain ⟨fd, F⟩ := Z.d_keys_of
  exact ⟨fd, okF_keys_of Z F, F.kp, (F.bindsN (ps := ["book", "rule"]) fun _ _ _ _ _ _ us hl => match us, hl with | [_, _], _ => rfl)⟩
theorem cl_keys_of (Z : Zb K mg base) : Cl P w K mg base 2 "keys_of" 2 m_keys_of := by
  obtain ⟨fd, F, kp, b⟩ := ok_keys_of (P := P) (w := w) (base := base) Z
  exact ⟨_, fd, _, F, Z.g_keys_of, kp, b⟩
theorem okF_first_standing (Z : Zb K mg base) {fd : FuncData} (F : FunD K "first_standing" "first_standing" (defArgs (top 24)) (defBody (top 24)) (defScope (top 24)) [] [] (He.ga K "first_standing") fd) : FnOk P w K mg base (L2.CX P w) 3 (He.ga K "first_standing") fd ["book"] (spM K w 1 m_first_standing) := fn_m (keep := true) F sc_first_standing rfl fun cdv A outer s H E hr tk hp => mss_one (ms_ret (me_callT cm_tuple Z.f_tuple rfl MM.boot_tuple (ma_cons (me_new (mn_lc (own := [("rule", 1)]) rfl sc_first_standing.nd (mi_seq (me_fld ⟨Z.c_Book, Z.n_Book_rules⟩ (me_var 0))) (blk_of (by rfl)) (by decide) (fun _ _ _ _ _ => mg_name 1 sc_first_standing.nd) (fun _ _ _ _ _ => MTs_nil) (fun _ _ _ _ _ => me_callT cm_tuple Z.f_tuple rfl MM.boot_tuple (ma_cons (me_new (mn_lc (own := [("key", 2)]) rfl sc_first_standing.nd (mi_seq (me_call (cl_keys_of Z) hr (by decide) takesBlk (ma_cons (me_var 0) (ma_cons (me_var 1) (ma_nil))))) (blk_of (by rfl)) (by decide) (fun _ _ _ _ _ => mg_name 2 sc_first_standing.nd) (fun _ _ _ _ _ => MTs_nil) (fun _ _ _ _ _ => me_glob (glb Z.k_NEW) rfl))) (ma_nil))))) (ma_nil))))
theorem ok_first_standing (Z : Zb K mg base) : ∃ fd, FnOk P w K mg base (L2.CX P w) 3 (He.ga K "first_standing") fd ["book"] (spM K w 1 m_first_standing) ∧ PySem.W.keepIn K (.ref (He.ga K "first_standing")) = true ∧ Binds K fd ["book"] [] := by
  obtain ⟨fd, F⟩ := Z.d_first_standing
  exact ⟨fd, okF_first_standing Z F, F.kp, (F.bindsN (ps := ["book"]) fun _ _ _ _ _ _ us hl => match us, hl with | [_], _ => rfl)⟩
theorem cl_first_standing (Z : Zb K mg base) : Cl P w K mg base 3 "first_standing" 1 m_first_standing := by
  obtain ⟨fd, F, kp, b⟩ := ok_first_standing (P := P) (w := w) (base := base) Z
  exact ⟨_, fd, _, F, Z.g_first_standing, kp, b⟩
theorem okF_is_at (Z : Zb K mg base) {fd : FuncData} (F : FunD K "is_at" "is_at" (defArgs (top 25)) (defBody (top 25)) (defScope (top 25)) [] [] (He.ga K "is_at") fd) : FnOk P w K mg base (L2.CX P w) 1 (He.ga K "is_at") fd ["key", "account", "place"] (spM K w 3 m_is_at) := fn_m (keep := true) F sc_is_at rfl fun cdv A outer s H E hr tk hp => mss_one (ms_ret (me_and (me_cmp (om_in (un65 hr)) (me_ix om_ix (me_var 0) (me_int) (plainIx _)) (me_tup (ma_cons (me_non) (ma_cons (me_var 1) (ma_nil)))) (by with_unfolding_all rfl)) (me_one (me_cmp (om_in (un65 hr)) (me_ix om_ix (me_var 0) (me_int) (plainIx _)) (me_tup (ma_cons (me_non) (ma_cons (me_var 2) (ma_nil)))) (by with_unfolding_all rfl)))))
theorem ok_is_at (Z : Zb K mg base) : ∃ fd, FnOk P w K mg base (L2.CX P w) 1 (He.ga K "is_at") fd ["key", "account", "place"] (spM K w 3 m_is_at) ∧ PySem.W.keepIn K (.ref (He.ga K "is_at")) = true ∧ Binds K fd ["key", "account", "place"] [] := by
  obtain ⟨fd, F⟩ := Z.d_is_at
  exact ⟨fd, okF_is_at Z F, F.kp, (F.bindsN (ps := ["key", "account", "place"]) fun _ _ _ _ _ _ us hl => match us, hl with | [_, _, _], _ => rfl)⟩
theorem cl_is_at (Z : Zb K mg base) : Cl P w K mg base 1 "is_at" 3 m_is_at := by
  obtain ⟨fd, F, kp, b⟩ := ok_is_at (P := P) (w := w) (base := base) Z
  exact ⟨_, fd, _, F, Z.g_is_at, kp, b⟩
theorem okF_left_at (Z : Zb K mg base) {fd : FuncData} (F : FunD K "left_at" "left_at" (defArgs (top 26)) (defBody (top 26)) (defScope (top 26)) [] [] (He.ga K "left_at") fd) : FnOk P w K mg base (L2.CX P w) 3 (He.ga K "left_at") fd ["book", "standing", "account", "place"] (spM K w 4 m_left_at) := fn_m (keep := true) F sc_left_at rfl fun cdv A outer s H E hr tk hp => mss_cons (ms_own 4 sc_left_at.nd (mn_lst (ma_nil))) (mss_cons (ms_for hp rfl (mi_zip Z.f_zip (ma_cons (me_fld ⟨Z.c_Book, Z.n_Book_rules⟩ (me_var 0)) (ma_cons (me_var 1) (ma_nil)))) (mg_tup rfl (mgs_cons (mg_name 5 sc_left_at.nd) (mgs_cons (mg_name 6 sc_left_at.nd) (mgs_nil)))) (mss_one (ms_for hp rfl (mi_zipX Z.f_zip (ma_cons (me_call (cl_keys_of Z) hr (by decide) tk (ma_cons (me_var 0) (ma_cons (me_var 5) (ma_nil)))) (ma_cons (me_var 6) (ma_nil)))) (mg_tup rfl (mgs_cons (mg_name 7 sc_left_at.nd) (mgs_cons (mg_name 8 sc_left_at.nd) (mgs_nil)))) (mss_one (ms_if (mt_tru (me_call (cl_is_at Z) hr (by decide) tk (ma_cons (me_var 7) (ma_cons (me_var 2) (ma_cons (me_var 3) (ma_nil)))))) (mss_one (ms_app (me_var 4) (me_ix om_ix (me_var 8) (me_int) (plainIx _)))) (mss_nil)))))) (mss_one (ms_frz 4 (ms_ret (me_var 4)))))
theorem ok_left_at (Z : Zb K mg base) : ∃ fd, FnOk P w K mg base (L2.CX P w) 3 (He.ga K "left_at") fd ["book", "standing", "account", "place"] (spM K w 4 m_left_at) ∧ PySem.W.keepIn K (.ref (He.ga K "left_at")) = true ∧ Binds K fd ["book", "standing", "account", "place"] [] := by
  obtain ⟨fd, F⟩ := Z.d_left_at
  exact ⟨fd, okF_left_at Z F, F.kp, (F.bindsN (ps := ["book", "standing", "account", "place"]) fun _ _ _ _ _ _ us hl => match us, hl with | [_, _, _, _], _ => rfl)⟩
theorem cl_left_at (Z : Zb K mg base) : Cl P w K mg base 3 "left_at" 4 m_left_at := by
  obtain ⟨fd, F, kp, b⟩ := ok_left_at (P := P) (w := w) (base := base) Z
  exact ⟨_, fd, _, F, Z.g_left_at, kp, b⟩
theorem okF_is_locked (Z : Zb K mg base) {fd : FuncData} (F : FunD K "is_locked" "is_locked" (defArgs (top 27)) (defBody (top 27)) (defScope (top 27)) [] [] (He.ga K "is_locked") fd) : FnOk P w K mg base (L2.CX P w) 4 (He.ga K "is_locked") fd ["book", "standing", "account", "place"] (spM K w 4 m_is_locked) := fn_m (keep := true) F sc_is_locked rfl fun cdv A outer s H E hr tk hp => mss_one (ms_ret (me_callB (cm_any rfl) Z.f_any rfl MM.boot_any (ma_cons (me_new (mn_lc (own := [("left", 4)]) rfl sc_is_locked.nd (mi_seq (me_call (cl_left_at Z) hr (by decide) tk (ma_cons (me_var 0) (ma_cons (me_var 1) (ma_cons (me_var 2) (ma_cons (me_var 3) (ma_nil))))))) (blk_of (by rfl)) (by decide) (fun _ _ _ _ _ => mg_name 4 sc_is_locked.nd) (fun _ _ _ _ _ => MTs_nil) (fun _ _ _ _ _ => me_cmp om_gt (me_var 4) (me_int) (nomark _)))) (ma_nil))))
theorem ok_is_locked (Z : Zb K mg base) : ∃ fd, FnOk P w K mg base (L2.CX P w) 4 (He.ga K "is_locked") fd ["book", "standing", "account", "place"] (spM K w 4 m_is_locked) ∧ PySem.W.keepIn K (.ref (He.ga K "is_locked")) = true ∧ Binds K fd ["book", "standing", "account", "place"] [] := by
  obtain ⟨fd, F⟩ := Z.d_is_locked
  exact ⟨fd, okF_is_locked Z F, F.kp, (F.bindsN (ps := ["book", "standing", "account", "place"]) fun _ _ _ _ _ _ us hl => match us, hl with | [_, _, _, _], _ => rfl)⟩
theorem cl_is_locked (Z : Zb K mg base) : Cl P w K mg base 4 "is_locked" 4 m_is_locked := by
  obtain ⟨fd, F, kp, b⟩ := ok_is_locked (P := P) (w := w) (base := base) Z
  exact ⟨_, fd, _, F, Z.g_is_locked, kp, b⟩
theorem okF_passed (Z : Zb K mg base) {fd : FuncData} (F : FunD K "passed" "passed" (defArgs (top 28)) (defBody (top 28)) (defScope (top 28)) [] [] (He.ga K "passed") fd) : FnOk P w K mg base (L2.CX P w) 1 (He.ga K "passed") fd ["rule", "part", "many"] (spM K w 3 m_passed) := fn_m (keep := true) F sc_passed rfl fun cdv A outer s H E hr tk hp => mss_cons (ms_asg (me_var 1) (mg_tup rfl (mgs_cons (mg_name 3 sc_passed.nd) (mgs_cons (mg_name 4 sc_passed.nd) (mgs_cons (mg_name 5 sc_passed.nd) (mgs_cons (mg_name 6 sc_passed.nd) (mgs_cons (mg_name 7 sc_passed.nd) (mgs_nil)))))))) (mss_cons (ms_set 5 sc_passed.nd (me_callB (cm_max rfl) Z.f_max rfl MM.boot_max (ma_cons (me_op om_sub (me_var 5) (me_var 2)) (ma_cons (me_int) (ma_nil))))) (mss_cons (ms_if (PW.pt (mw_and (mt_tru (me_ix om_ix (me_var 0) (me_int) (plainIx _))) (mw_and1 (mt_tru (me_var 3))))) (mss_cons (ms_aug 4 sc_passed.nd ip_add (me_var 2)) (mss_one (ms_if (mt_cmp om_ge (me_var 4) (me_ix om_ix (me_var 0) (me_int) (plainIx _)) (nomark _)) (mss_one (ms_asg (me_tup (ma_cons (me_int) (ma_cons (me_int) (ma_nil)))) (mg_tup rfl (mgs_cons (mg_name 3 sc_passed.nd) (mgs_cons (mg_name 4 sc_passed.nd) (mgs_nil)))))) (mss_nil)))) (mss_nil)) (mss_one (ms_ret (me_tup (ma_cons (me_var 3) (ma_cons (me_var 4) (ma_cons (me_var 5) (ma_cons (me_if (mt_tru (me_var 5)) (me_var 6) (me_int)) (ma_cons (me_var 7) (ma_nil)))))))))))
theorem ok_passed (Z : Zb K mg base) : ∃ fd, FnOk P w K mg base (L2.CX P w) 1 (He.ga K "passed") fd ["rule", "part", "many"] (spM K w 3 m_passed) ∧ PySem.W.keepIn K (.ref (He.ga K "passed")) = true ∧ Binds K fd ["rule", "part", "many"] [] := by
  obtain ⟨fd, F⟩ := Z.d_passed
  exact ⟨fd, okF_passed Z F, F.kp, (F.bindsN (ps := ["rule", "part", "many"]) fun _ _ _ _ _ _ us hl => match us, hl with | [_, _, _], _ => rfl)⟩
theorem cl_passed (Z : Zb K mg base) : Cl P w K mg base 1 "passed" 3 m_passed := by
  obtain ⟨fd, F, kp, b⟩ := ok_passed (P := P) (w := w) (base := base) Z
  exact ⟨_, fd, _, F, Z.g_passed, kp, b⟩
theorem okF_idle (Z : Zb K mg base) {fd : FuncData} (F : FunD K "idle" "idle" (defArgs (top 29)) (defBody (top 29)) (defScope (top 29)) [] [] (He.ga K "idle") fd) : FnOk P w K mg base (L2.CX P w) 2 (He.ga K "idle") fd ["book", "standing", "many"] (spM K w 3 m_idle) := fn_m (keep := true) F sc_idle rfl fun cdv A outer s H E hr tk hp => mss_one (ms_ret (me_callT cm_tuple Z.f_tuple rfl MM.boot_tuple (ma_cons (me_new (mn_lc (own := [("rule", 3), ("parts", 4)]) rfl sc_idle.nd (mi_zip Z.f_zip (ma_cons (me_fld ⟨Z.c_Book, Z.n_Book_rules⟩ (me_var 0)) (ma_cons (me_var 1) (ma_nil)))) (blk_of (by rfl)) (by decide) (fun _ _ _ _ _ => mg_tup rfl (mgs_cons (mg_name 3 sc_idle.nd) (mgs_cons (mg_name 4 sc_idle.nd) (mgs_nil)))) (fun _ _ _ _ _ => MTs_nil) (fun _ _ _ _ _ => me_callT cm_tuple Z.f_tuple rfl MM.boot_tuple (ma_cons (me_new (mn_lc (own := [("part", 5)]) rfl sc_idle.nd (mi_seq (me_var 4)) (blk_of (by rfl)) (by decide) (fun _ _ _ _ _ => mg_name 5 sc_idle.nd) (fun _ _ _ _ _ => MTs_nil) (fun _ _ _ _ _ => me_call (cl_passed Z) hr (by decide) takesBlk (ma_cons (me_var 3) (ma_cons (me_var 5) (ma_cons (me_var 2) (ma_nil))))))) (ma_nil))))) (ma_nil))))
theorem ok_idle (Z : Zb K mg base) : ∃ fd, FnOk P w K mg base (L2.CX P w) 2 (He.ga K "idle") fd ["book", "standing", "many"] (spM K w 3 m_idle) ∧ PySem.W.keepIn K (.ref (He.ga K "idle")) = true ∧ Binds K fd ["book", "standing", "many"] [] := by
  obtain ⟨fd, F⟩ := Z.d_idle
  exact ⟨fd, okF_idle Z F, F.kp, (F.bindsN (ps := ["book", "standing", "many"]) fun _ _ _ _ _ _ us hl => match us, hl with | [_, _, _], _ => rfl)⟩
theorem cl_idle (Z : Zb K mg base) : Cl P w K mg base 2 "idle" 3 m_idle := by
  obtain ⟨fd, F, kp, b⟩ := ok_idle (P := P) (w := w) (base := base) Z
  exact ⟨_, fd, _, F, Z.g_idle, kp, b⟩
theorem okF_begun (Z : Zb K mg base) {fd : FuncData} (F : FunD K "begun" "begun" (defArgs (top 30)) (defBody (top 30)) (defScope (top 30)) [] [] (He.ga K "begun") fd) : FnOk P w K mg base (L2.CX P w) 2 (He.ga K "begun") fd ["rule", "part"] (spM K w 2 m_begun) := fn_m (keep := true) F sc_begun rfl fun cdv A outer s H E hr tk hp => mss_cons (ms_asg (me_var 1) (mg_tup rfl (mgs_cons (mg_name 2 sc_begun.nd) (mgs_cons (mg_name 3 sc_begun.nd) (mgs_cons (mg_name 4 sc_begun.nd) (mgs_cons (mg_name 5 sc_begun.nd) (mgs_cons (mg_name 6 sc_begun.nd) (mgs_nil)))))))) (mss_cons (ms_if (mt_cmp om_lt (me_op om_add (me_var 2) (me_int)) (me_ix om_ix (me_var 0) (me_int) (plainIx _)) (nomark _)) (mss_one (ms_ret (me_call (cl_passed Z) hr (by decide) tk (ma_cons (me_var 0) (ma_cons (me_tup (ma_cons (me_op om_add (me_var 2) (me_int)) (ma_cons (me_int) (ma_cons (me_int) (ma_cons (me_int) (ma_cons (me_var 6) (ma_nil))))))) (ma_cons (me_int) (ma_nil))))))) (mss_nil)) (mss_cons (ms_set 7 sc_begun.nd (me_op om_mul (me_ix om_ix (me_var 0) (me_int) (plainIx _)) (me_if (mt_tru (me_ix om_ix (me_var 0) (me_int) (plainIx _))) (me_ix om_ix (me_glob (glb Z.k_FACTORS) rfl) (me_var 6) (plainIx _)) (me_int)))) (mss_one (ms_ret (me_tup (ma_cons (me_int) (ma_cons (me_int) (ma_cons (me_var 7) (ma_cons (me_var 7) (ma_cons (me_if (mt_tru (me_ix om_ix (me_var 0) (me_int) (plainIx _))) (me_callB (cm_min rfl) Z.f_min rfl MM.boot_min (ma_cons (me_op om_add (me_var 6) (me_int)) (ma_cons (me_int) (ma_nil)))) (me_int)) (ma_nil)))))))))))
theorem ok_begun (Z : Zb K mg base) : ∃ fd, FnOk P w K mg base (L2.CX P w) 2 (He.ga K "begun") fd ["rule", "part"] (spM K w 2 m_begun) ∧ PySem.W.keepIn K (.ref (He.ga K "begun")) = true ∧ Binds K fd ["rule", "part"] [] := by
  obtain ⟨fd, F⟩ := Z.d_begun
  exact ⟨fd, okF_begun Z F, F.kp, (F.bindsN (ps := ["rule", "part"]) fun _ _ _ _ _ _ us hl => match us, hl with | [_, _], _ => rfl)⟩
theorem cl_begun (Z : Zb K mg base) : Cl P w K mg base 2 "begun" 2 m_begun := by
  obtain ⟨fd, F, kp, b⟩ := ok_begun (P := P) (w := w) (base := base) Z
  exact ⟨_, fd, _, F, Z.g_begun, kp, b⟩
theorem okF_kept_part (Z : Zb K mg base) {fd : FuncData} (F : FunD K "kept_part" "kept_part" (defArgs (top 31)) (defBody (top 31)) (defScope (top 31)) [] [] (He.ga K "kept_part") fd) : FnOk P w K mg base (L2.CX P w) 2 (He.ga K "kept_part") fd ["rule", "part"] (spM K w 2 m_kept_part) := fn_m (keep := true) F sc_kept_part rfl fun cdv A outer s H E hr tk hp => mss_cons (ms_if (PW.pt (mw_and (mt_tru (me_ix om_ix (me_var 0) (me_int) (plainIx _))) (mw_and1 (mt_cmp om_gt (me_ix om_ix (me_var 1) (me_int) (plainIx _)) (me_int) (nomark _))))) (mss_cons (ms_asg (me_call (cl_passed Z) hr (by decide) tk (ma_cons (me_var 0) (ma_cons (me_var 1) (ma_cons (me_int) (ma_nil))))) (mg_tup rfl (mgs_cons (mg_name 2 sc_kept_part.nd) (mgs_cons (mg_name 3 sc_kept_part.nd) (mgs_cons (mg_name 4 sc_kept_part.nd) (mgs_cons (mg_name 5 sc_kept_part.nd) (mgs_cons (mg_name 6 sc_kept_part.nd) (mgs_nil)))))))) (mss_one (ms_ret (me_tup (ma_cons (me_var 2) (ma_cons (me_var 3) (ma_cons (me_ix om_ix (me_var 1) (me_int) (plainIx _)) (ma_cons (me_ix om_ix (me_var 1) (me_int) (plainIx _)) (ma_cons (me_var 6) (ma_nil)))))))))) (mss_nil)) (mss_one (ms_ret (me_call (cl_passed Z) hr (by decide) tk (ma_cons (me_var 0) (ma_cons (me_var 1) (ma_cons (me_int) (ma_nil)))))))
theorem ok_kept_part (Z : Zb K mg base) : ∃ fd, FnOk P w K mg base (L2.CX P w) 2 (He.ga K "kept_part") fd ["rule", "part"] (spM K w 2 m_kept_part) ∧ PySem.W.keepIn K (.ref (He.ga K "kept_part")) = true ∧ Binds K fd ["rule", "part"] [] := by
  obtain ⟨fd, F⟩ := Z.d_kept_part
  exact ⟨fd, okF_kept_part Z F, F.kp, (F.bindsN (ps := ["rule", "part"]) fun _ _ _ _ _ _ us hl => match us, hl with | [_, _], _ => rfl)⟩
theorem cl_kept_part (Z : Zb K mg base) : Cl P w K mg base 2 "kept_part" 2 m_kept_part := by
  obtain ⟨fd, F, kp, b⟩ := ok_kept_part (P := P) (w := w) (base := base) Z
  exact ⟨_, fd, _, F, Z.g_kept_part, kp, b⟩
theorem okF_let_part (Z : Zb K mg base) {fd : FuncData} (F : FunD K "let_part" "let_part" (defArgs (top 32)) (defBody (top 32)) (defScope (top 32)) [] [] (He.ga K "let_part") fd) : FnOk P w K mg base (L2.CX P w) 2 (He.ga K "let_part") fd ["rule", "part"] (spM K w 2 m_let_part) := fn_m (keep := true) F sc_let_part rfl fun cdv A outer s H E hr tk hp => mss_cons (ms_if (mt_tru (me_ix om_ix (me_var 0) (me_int) (plainIx _))) (mss_one (ms_ret (me_tup (ma_cons (me_int) (ma_cons (me_int) (ma_cons (me_int) (ma_cons (me_int) (ma_cons (me_int) (ma_nil))))))))) (mss_nil)) (mss_one (ms_ret (me_call (cl_passed Z) hr (by decide) tk (ma_cons (me_var 0) (ma_cons (me_var 1) (ma_cons (me_int) (ma_nil)))))))
theorem ok_let_part (Z : Zb K mg base) : ∃ fd, FnOk P w K mg base (L2.CX P w) 2 (He.ga K "let_part") fd ["rule", "part"] (spM K w 2 m_let_part) ∧ PySem.W.keepIn K (.ref (He.ga K "let_part")) = true ∧ Binds K fd ["rule", "part"] [] := by
  obtain ⟨fd, F⟩ := Z.d_let_part
  exact ⟨fd, okF_let_part Z F, F.kp, (F.bindsN (ps := ["rule", "part"]) fun _ _ _ _ _ _ us hl => match us, hl with | [_, _], _ => rfl)⟩
theorem cl_let_part (Z : Zb K mg base) : Cl P w K mg base 2 "let_part" 2 m_let_part := by
  obtain ⟨fd, F, kp, b⟩ := ok_let_part (P := P) (w := w) (base := base) Z
  exact ⟨_, fd, _, F, Z.g_let_part, kp, b⟩
theorem cl_changed (Z : Zb K mg base) : ClC P w K mg base 4 3 "changed" 4 2 m_changed := by
  obtain ⟨fd, F⟩ := Z.d_changed
  exact fnc_m (keep := true) F sc_changed rfl Z.g_changed (F.bindsN (ps := ["book", "standing", "is_touched", "change"]) fun _ _ _ _ _ _ us hl => match us, hl with | [_, _, _, _], _ => rfl) fun tb cdv A outer s H E hA hr tk hp => mss_cons (ms_own 4 sc_changed.nd (mn_lst (ma_nil))) (mss_cons (ms_for hp rfl (mi_zip Z.f_zip (ma_cons (me_fld ⟨Z.c_Book, Z.n_Book_rules⟩ (me_var 0)) (ma_cons (me_var 1) (ma_nil)))) (mg_tup rfl (mgs_cons (mg_name 5 sc_changed.nd) (mgs_cons (mg_name 6 sc_changed.nd) (mgs_nil)))) (mss_cons (ms_own 7 sc_changed.nd (mn_lst (ma_nil))) (mss_cons (ms_for hp rfl (mi_zipX Z.f_zip (ma_cons (me_call (cl_keys_of Z) hr (by decide) tk (ma_cons (me_var 0) (ma_cons (me_var 5) (ma_nil)))) (ma_cons (me_var 6) (ma_nil)))) (mg_tup rfl (mgs_cons (mg_name 8 sc_changed.nd) (mgs_cons (mg_name 9 sc_changed.nd) (mgs_nil)))) (mss_one (ms_app (me_var 7) (me_if (mt_tru (me_callL (i := 2) hA hr (by decide) tk (ma_cons (me_var 5) (ma_cons (me_var 8) (ma_nil))) rfl (by first | exact Or.inl rfl | exact Or.inr (Or.inl rfl) | exact Or.inr (Or.inr rfl)))) (me_callL (i := 3) hA hr (by decide) tk (ma_cons (me_var 5) (ma_cons (me_var 9) (ma_nil))) rfl (by first | exact Or.inl rfl | exact Or.inr (Or.inl rfl) | exact Or.inr (Or.inr rfl))) (me_call (cl_passed Z) hr (by decide) tk (ma_cons (me_var 5) (ma_cons (me_var 9) (ma_cons (me_int) (ma_nil))))))))) (mss_one (ms_app (me_var 4) (me_callT cm_tuple Z.f_tuple rfl MM.boot_tuple (ma_cons (me_var 7) (ma_nil)))))))) (mss_one (ms_ret (me_callT cm_tuple Z.f_tuple rfl MM.boot_tuple (ma_cons (me_var 4) (ma_nil))))))
theorem lo_step_0 (Z : Zb K mg base) (qn : Str) (cl : List (Str × Addr)) (c : Addr) : LOk P w K mg base 1 ⟨"<lambda>", qn, lamP l_step_0, [], lamS l_step_0, cl, c⟩ (lamB l_step_0) ["action"] 2 (lamFM 2 e_step_0) :=
  lok_of (N := ["rule", "key", "action"]) (ps := ["rule", "key"]) (NdefX.nscope_by (show NdefX.nscB ["rule", "key", "action"] ["rule", "key"] ["action"] (lamS l_step_0) = true by decide +kernel)) rfl (fun pm ctv us hl => match us, hl with | [_, _], _ => rfl) fun f A outer s H E hr tk => me_cmp (om_eq hr.units) (me_ix om_ix (me_var 1) (me_int) (plainIx _)) (me_ix om_ix (me_var 2) (me_int) (plainIx _)) (nomark _)
theorem lo_step_1 (Z : Zb K mg base) (qn : Str) (cl : List (Str × Addr)) (c : Addr) : LOk P w K mg base 1 ⟨"<lambda>", qn, lamP l_step_1, [], lamS l_step_1, cl, c⟩ (lamB l_step_1) [] 2 (lamFM 2 e_step_1) :=
  lok_of (N := ["rule", "part"]) (ps := ["rule", "part"]) (NdefX.nscope_by (show NdefX.nscB ["rule", "part"] ["rule", "part"] [] (lamS l_step_1) = true by decide +kernel)) rfl (fun pm ctv us hl => match us, hl with | [_, _], _ => rfl) fun f A outer s H E hr tk => me_glob (glb Z.k_NEW) rfl
theorem lo_step_2 (Z : Zb K mg base) (qn : Str) (cl : List (Str × Addr)) (c : Addr) : LOk P w K mg base 2 ⟨"<lambda>", qn, lamP l_step_2, [], lamS l_step_2, cl, c⟩ (lamB l_step_2) ["account", "place"] 2 (lamFM 2 e_step_2) :=
  lok_of (N := ["rule", "key", "account", "place"]) (ps := ["rule", "key"]) (NdefX.nscope_by (show NdefX.nscB ["rule", "key", "account", "place"] ["rule", "key"] ["account", "place"] (lamS l_step_2) = true by decide +kernel)) rfl (fun pm ctv us hl => match us, hl with | [_, _], _ => rfl) fun f A outer s H E hr tk => me_call (cl_is_at Z) hr (by decide) tk (ma_cons (me_var 1) (ma_cons (me_var 2) (ma_cons (me_var 3) (ma_nil))))
theorem lto_step (Z : Zb K mg base) (A : Around) (outer : List Env) (s : Shared) (H : Hp) (E : XK) : LTabOk (XOf P w K mg base ["book", "standing", "action", "word", "account", "place", "right", "told", "change"] "step" (defScope s_step) (He.fAd K ("step", none)) (.ref (He.cT K ("step", none)).1) A outer s H E) lamT lamG 3 2 := by
  refine ⟨fun t lw h => ?_, fun x g h => ?_⟩
  · match t, h with
    | 0, h => cases h; exact ⟨nd_step_0, rfl, _, rfl, fun cl c => (lo_step_0 Z _ cl c).mono (by decide)⟩
    | 1, h => cases h; exact ⟨nd_step_1, rfl, _, rfl, fun cl c => (lo_step_1 Z _ cl c).mono (by decide)⟩
    | 2, h => cases h; exact ⟨nd_step_2, rfl, _, rfl, fun cl c => (lo_step_2 Z _ cl c).mono (by decide)⟩
    | n + 3, h => cases h
  · have h : (if x = "kept_part" then some m_kept_part else if x = "let_part" then some m_let_part else if x = "begun" then some m_begun else none) = some g := h
    by_cases e : x = "kept_part"
    · subst e; rw [if_pos rfl] at h; cases h; exact ⟨(cl_kept_part Z).mono (by decide), Z.g_kept_part⟩
    rw [if_neg e] at h
    by_cases e : x = "let_part"
    · subst e; rw [if_pos rfl] at h; cases h; exact ⟨(cl_let_part Z).mono (by decide), Z.g_let_part⟩
    rw [if_neg e] at h
    by_cases e : x = "begun"
    · subst e; rw [if_pos rfl] at h; cases h; exact ⟨(cl_begun Z).mono (by decide), Z.g_begun⟩
    rw [if_neg e] at h
    cases h
theorem okF_step (Z : Zb K mg base) {fd : FuncData} (F : FunD K "step" "step" (defArgs (top 34)) (defBody (top 34)) (defScope (top 34)) [] [] (He.ga K "step") fd) : FnOk P w K mg base (L2.CX P w) 5 (He.ga K "step") fd ["book", "standing", "action"] (spM K w 3 m_step) := fn_mL (x := "step") (keep := true) F sc_step rfl fun A outer s H E hr tk hp => mss_cons (ms_if (mt_cmp om_is (me_var 2) (me_non) (nomark _)) (mss_one (ms_ret (me_tup (ma_cons (me_str) (ma_cons (me_call (cl_idle Z) hr (by decide) tk (ma_cons (me_var 0) (ma_cons (me_var 1) (ma_cons (me_int) (ma_nil))))) (ma_nil)))))) (mss_nil)) (mss_cons (ms_if (mt_cmp (om_eq hr.units) (me_ix om_ix (me_var 2) (me_int) (plainIx _)) (me_str) (nomark _)) (mss_one (ms_ret (me_tup (ma_cons (me_str) (ma_cons (me_callC (cl_changed Z) (lto_step Z A outer s H E) hr (by decide) tk (ac_cons (ec_ex (me_var 0)) (ac_cons (ec_ex (me_var 1)) (ac_cons (ec_lam (t := 0) (params := lamP l_step_0) (body := lamB l_step_0) (scope := lamS l_step_0) rfl Z.tab rfl (by rfl) nd_step_0 rfl) (ac_cons (ec_lam (t := 1) (params := lamP l_step_1) (body := lamB l_step_1) (scope := lamS l_step_1) rfl Z.tab rfl (by rfl) nd_step_1 rfl) (ac_nil)))))) (ma_nil)))))) (mss_nil)) (mss_cons (ms_asg (me_var 2) (mg_tup rfl (mgs_cons (mg_name 3 sc_step.nd) (mgs_cons (mg_name 4 sc_step.nd) (mgs_cons (mg_name 5 sc_step.nd) (mgs_cons (mg_name 6 sc_step.nd) (mgs_nil))))))) (mss_cons (ms_if (mt_tru (me_call (cl_is_locked Z) hr (by decide) tk (ma_cons (me_var 0) (ma_cons (me_var 1) (ma_cons (me_var 4) (ma_cons (me_var 5) (ma_nil))))))) (mss_one (ms_par 7 8 rfl sc_step.nd (ma_cons (me_str) (ma_cons (me_glob (glb Z.v_kept_part) rfl) (ma_nil))) (by decide))) (mss_one (ms_if (mt_tru (me_var 6)) (mss_one (ms_par 7 8 rfl sc_step.nd (ma_cons (me_str) (ma_cons (me_glob (glb Z.v_let_part) rfl) (ma_nil))) (by decide))) (mss_one (ms_par 7 8 rfl sc_step.nd (ma_cons (me_str) (ma_cons (me_glob (glb Z.v_begun) rfl) (ma_nil))) (by decide)))))) (mss_one (ms_ret (me_tup (ma_cons (me_var 7) (ma_cons (me_callC (cl_changed Z) (lto_step Z A outer s H E) hr (by decide) tk (ac_cons (ec_ex (me_var 0)) (ac_cons (ec_ex (me_var 1)) (ac_cons (ec_lam (t := 2) (params := lamP l_step_2) (body := lamB l_step_2) (scope := lamS l_step_2) rfl Z.tab rfl (by rfl) nd_step_2 rfl) (ac_cons (ec_ex (me_var 8)) (ac_nil)))))) (ma_nil)))))))))
theorem ok_step (Z : Zb K mg base) : ∃ fd, FnOk P w K mg base (L2.CX P w) 5 (He.ga K "step") fd ["book", "standing", "action"] (spM K w 3 m_step) ∧ PySem.W.keepIn K (.ref (He.ga K "step")) = true ∧ Binds K fd ["book", "standing", "action"] [] := by
  obtain ⟨fd, F⟩ := Z.d_step
  exact ⟨fd, okF_step Z F, F.kp, (F.bindsN (ps := ["book", "standing", "action"]) fun _ _ _ _ _ _ us hl => match us, hl with | [_, _, _], _ => rfl)⟩
theorem cl_step (Z : Zb K mg base) : Cl P w K mg base 5 "step" 3 m_step := by
  obtain ⟨fd, F, kp, b⟩ := ok_step (P := P) (w := w) (base := base) Z
  exact ⟨_, fd, _, F, Z.g_step, kp, b⟩
theorem okF_parting (Z : Zb K mg base) {fd : FuncData} (F : FunD K "parting" "parting" (defArgs (top 36)) (defBody (top 36)) (defScope (top 36)) [] [] (He.ga K "parting") fd) : FnOk P w K mg base (L2.CX P w) 6 (He.ga K "parting") fd ["one", "two"] (spM K w 2 m_parting) := fn_m (keep := true) F sc_parting rfl fun cdv A outer s H E hr tk hp => mss_cons (ms_if (PW.pt (mw_or (mt_cmp (om_ne hr.units) (me_fld ⟨Z.c_Book, Z.n_Book_accounts⟩ (me_var 0)) (me_fld ⟨Z.c_Book, Z.n_Book_accounts⟩ (me_var 1)) (nomark _)) (mw_or1 (mt_cmp (om_ne hr.units) (me_fld ⟨Z.c_Book, Z.n_Book_places⟩ (me_var 0)) (me_fld ⟨Z.c_Book, Z.n_Book_places⟩ (me_var 1)) (nomark _))))) (mss_one (ms_raise (ExcF.to Z.x_NotComparable) tk)) (mss_nil)) (mss_cons (ms_set 2 sc_parting.nd (me_call (cl_actions_of Z) hr (by decide) tk (ma_cons (me_var 0) (ma_nil)))) (mss_cons (ms_set 3 sc_parting.nd (me_tup (ma_cons (me_call (cl_first_standing Z) hr (by decide) tk (ma_cons (me_var 0) (ma_nil))) (ma_cons (me_call (cl_first_standing Z) hr (by decide) tk (ma_cons (me_var 1) (ma_nil))) (ma_nil))))) (mss_cons (ms_set 4 sc_parting.nd (me_disp1 (un65 hr) (me_var 3) (me_bl))) (mss_cons (ms_own 5 sc_parting.nd (mn_lst (ma_cons (me_tup (ma_cons (me_var 3) (ma_cons (me_tup (ma_nil)) (ma_nil)))) (ma_nil)))) (mss_cons (ms_set 6 sc_parting.nd (me_int)) (mss_cons (ms_while (fun _ _ => 100000000) hp (mt_cmp om_lt (me_var 6) (me_callB cm_len Z.f_len rfl MM.boot_len (ma_cons (me_var 5) (ma_nil))) (nomark _)) (mss_cons (ms_asg (me_ix om_ix (me_var 5) (me_var 6) (plainIx _)) (mg_tup rfl (mgs_cons (mg_tup rfl (mgs_cons (mg_name 7 sc_parting.nd) (mgs_cons (mg_name 8 sc_parting.nd) (mgs_nil)))) (mgs_cons (mg_name 9 sc_parting.nd) (mgs_nil))))) (mss_cons (ms_aug 6 sc_parting.nd ip_add (me_int)) (mss_one (ms_for hp rfl (mi_seq (me_var 2)) (mg_name 10 sc_parting.nd) (mss_cons (ms_asg (me_call (cl_step Z) hr (by decide) tk (ma_cons (me_var 0) (ma_cons (me_var 7) (ma_cons (me_var 10) (ma_nil))))) (mg_tup rfl (mgs_cons (mg_name 11 sc_parting.nd) (mgs_cons (mg_name 12 sc_parting.nd) (mgs_nil))))) (mss_cons (ms_asg (me_call (cl_step Z) hr (by decide) tk (ma_cons (me_var 1) (ma_cons (me_var 8) (ma_cons (me_var 10) (ma_nil))))) (mg_tup rfl (mgs_cons (mg_name 13 sc_parting.nd) (mgs_cons (mg_name 14 sc_parting.nd) (mgs_nil))))) (mss_cons (ms_if (mt_cmp (om_ne hr.units) (me_var 11) (me_var 13) (nomark _)) (mss_one (ms_ret (me_op om_add (me_callT cm_list Z.f_list rfl MM.boot_list (ma_cons (me_var 9) (ma_nil))) (me_lst (ma_cons (me_var 10) (ma_nil)))))) (mss_nil)) (mss_one (ms_if (mt_cmp (om_knin (un65 hr)) (me_tup (ma_cons (me_var 12) (ma_cons (me_var 14) (ma_nil)))) (me_var 4) (by with_unfolding_all rfl)) (mss_cons (ms_dput (un65 hr) (me_bl) (me_var 4) (me_tup (ma_cons (me_var 12) (ma_cons (me_var 14) (ma_nil))))) (mss_one (ms_app (me_var 5) (me_tup (ma_cons (me_tup (ma_cons (me_var 12) (ma_cons (me_var 14) (ma_nil)))) (ma_cons (me_op om_add (me_var 9) (me_tup (ma_cons (me_var 10) (ma_nil)))) (ma_nil))))))) (mss_nil))))))))))) (mss_one (ms_ret (me_non)))))))))
theorem ok_parting (Z : Zb K mg base) : ∃ fd, FnOk P w K mg base (L2.CX P w) 6 (He.ga K "parting") fd ["one", "two"] (spM K w 2 m_parting) ∧ PySem.W.keepIn K (.ref (He.ga K "parting")) = true ∧ Binds K fd ["one", "two"] [] := by
  obtain ⟨fd, F⟩ := Z.d_parting
  exact ⟨fd, okF_parting Z F, F.kp, (F.bindsN (ps := ["one", "two"]) fun _ _ _ _ _ _ us hl => match us, hl with | [_, _], _ => rfl)⟩
theorem cl_parting (Z : Zb K mg base) : Cl P w K mg base 6 "parting" 2 m_parting := by
  obtain ⟨fd, F, kp, b⟩ := ok_parting (P := P) (w := w) (base := base) Z
  exact ⟨_, fd, _, F, Z.g_parting, kp, b⟩
theorem okF_alike (Z : Zb K mg base) {fd : FuncData} (F : FunD K "alike" "alike" (defArgs (top 37)) (defBody (top 37)) (defScope (top 37)) [] [] (He.ga K "alike") fd) : FnOk P w K mg base (L2.CX P w) 7 (He.ga K "alike") fd ["one", "two"] (spM K w 2 m_alike) := fn_m (keep := true) F sc_alike rfl fun cdv A outer s H E hr tk hp => mss_one (ms_ret (me_cmp om_is (me_call (cl_parting Z) hr (by decide) tk (ma_cons (me_var 0) (ma_cons (me_var 1) (ma_nil)))) (me_non) (nomark _)))
theorem ok_alike (Z : Zb K mg base) : ∃ fd, FnOk P w K mg base (L2.CX P w) 7 (He.ga K "alike") fd ["one", "two"] (spM K w 2 m_alike) ∧ PySem.W.keepIn K (.ref (He.ga K "alike")) = true ∧ Binds K fd ["one", "two"] [] := by
  obtain ⟨fd, F⟩ := Z.d_alike
  exact ⟨fd, okF_alike Z F, F.kp, (F.bindsN (ps := ["one", "two"]) fun _ _ _ _ _ _ us hl => match us, hl with | [_, _], _ => rfl)⟩
theorem cl_alike (Z : Zb K mg base) : Cl P w K mg base 7 "alike" 2 m_alike := by
  obtain ⟨fd, F, kp, b⟩ := ok_alike (P := P) (w := w) (base := base) Z
  exact ⟨_, fd, _, F, Z.g_alike, kp, b⟩
theorem okF_Door_init (Z : Zb K mg base) {fd : FuncData} (F : FunD K "__init__" "Door.__init__" (defArgs (kid (top 39) 0)) (defBody (kid (top 39) 0)) (defScope (kid (top 39) 0)) [] [] (He.fAd K ("Door", some "__init__")) fd) : FnOk P w K mg base (L2.CX P w) 4 (He.fAd K ("Door", some "__init__")) fd ["self", "book"] (spM K w 2 m_Door_init) := fn_m (keep := true) F sc_Door_init rfl fun cdv A outer s H E hr tk hp => mss_cons (ms_fld ⟨Z.c_Door, Z.n_Door_book⟩ (me_var 0) (me_var 1)) (mss_cons (ms_fld ⟨Z.c_Door, Z.n_Door_rows⟩ (me_var 0) (me_loc (mn_lst (ma_nil)))) (mss_one (ms_fld ⟨Z.c_Door, Z.n_Door_standings⟩ (me_var 0) (me_loc (mn_lst (ma_cons (me_call (cl_first_standing Z) hr (by decide) tk (ma_cons (me_var 1) (ma_nil))) (ma_nil)))))))
theorem ok_Door_init (Z : Zb K mg base) : ∃ fd, FnOk P w K mg base (L2.CX P w) 4 (He.fAd K ("Door", some "__init__")) fd ["self", "book"] (spM K w 2 m_Door_init) ∧ PySem.W.keepIn K (.ref (He.fAd K ("Door", some "__init__"))) = true ∧ Binds K fd ["self", "book"] [] := by
  obtain ⟨fd, F⟩ := Z.d_Door_init
  exact ⟨fd, okF_Door_init Z F, F.kp, (F.bindsN (ps := ["self", "book"]) fun _ _ _ _ _ _ us hl => match us, hl with | [_, _], _ => rfl)⟩
theorem cm_Door (Z : Zb K mg base) : ClM P w K mg base 4 "Door" 2 m_Door_init := by
  obtain ⟨fd, F, kp, b⟩ := ok_Door_init (P := P) (w := w) (base := base) Z
  exact ⟨_, fd, _, F, Z.g_Door, Z.mk_Door, b⟩
theorem okF_Door_now (Z : Zb K mg base) {fd : FuncData} (F : FunD K "now" "Door.now" (defArgs (kid (top 39) 1)) (defBody (kid (top 39) 1)) (defScope (kid (top 39) 1)) [] [] (gAd "Door" "now" K) fd) : FnOk P w K mg base (L2.CX P w) 1 (gAd "Door" "now" K) fd ["self"] (spM K w 1 m_Door_now) := fn_m (keep := true) F sc_Door_now rfl fun cdv A outer s H E hr tk hp => mss_one (ms_ret (me_if (mt_tru (me_fld ⟨Z.c_Door, Z.n_Door_rows⟩ (me_var 0))) (me_ix om_ix (me_ix om_ix (me_fld ⟨Z.c_Door, Z.n_Door_rows⟩ (me_var 0)) (me_neg (me_int)) (plainIx _)) (me_int) (plainIx _)) (me_neg (me_int))))
theorem ok_Door_now (Z : Zb K mg base) : ∃ fd, FnOk P w K mg base (L2.CX P w) 1 (gAd "Door" "now" K) fd ["self"] (spM K w 1 m_Door_now) ∧ PySem.W.keepIn K (.ref (gAd "Door" "now" K)) = true ∧ Binds K fd ["self"] [] := by
  obtain ⟨fd, F⟩ := Z.d_Door_now
  exact ⟨fd, okF_Door_now Z F, F.kp, (F.bindsN (ps := ["self"]) fun _ _ _ _ _ _ us hl => match us, hl with | [_], _ => rfl)⟩
theorem cp_Door_now (Z : Zb K mg base) : ClP P w K mg base 1 "Door" "now" m_Door_now := by
  obtain ⟨fd, F, kp, b⟩ := ok_Door_now (P := P) (w := w) (base := base) Z
  exact ⟨_, _, fd, _, F, Z.c_Door, Z.pr_Door_now, b⟩
theorem okF_Door_at (Z : Zb K mg base) {fd : FuncData} (F : FunD K "at" "Door.at" (defArgs (kid (top 39) 2)) (defBody (kid (top 39) 2)) (defScope (kid (top 39) 2)) [] [] (He.fAd K ("Door", some "at")) fd) : FnOk P w K mg base (L2.CX P w) 3 (He.fAd K ("Door", some "at")) fd ["self", "moment"] (spM K w 2 m_Door_at) := fn_m (keep := true) F sc_Door_at rfl fun cdv A outer s H E hr tk hp => mss_cons (ms_if (PW.pt (mw_or (mt_not (mt_tru (me_callB cm_isi Z.f_isinstance rfl MM.boot_isinstance (ma_cons (me_var 1) (ma_cons (me_ty Z.f_int rfl MM.boot_int) (ma_nil)))))) (mw_or (mt_tru (me_callB cm_isi Z.f_isinstance rfl MM.boot_isinstance (ma_cons (me_var 1) (ma_cons (me_ty Z.f_bool rfl MM.boot_bool) (ma_nil))))) (mw_or1 (mt_cmp om_le (me_var 1) (me_prop (cp_Door_now Z) hr (by decide) (me_var 0)) (nomark _)))))) (mss_one (ms_raise (ExcF.to Z.x_BadMoment) tk)) (mss_nil)) (mss_one (ms_ret (me_call (cl_idle Z) hr (by decide) tk (ma_cons (me_fld ⟨Z.c_Door, Z.n_Door_book⟩ (me_var 0)) (ma_cons (me_ix om_ix (me_fld ⟨Z.c_Door, Z.n_Door_standings⟩ (me_var 0)) (me_neg (me_int)) (plainIx _)) (ma_cons (me_op om_sub (me_op om_sub (me_var 1) (me_prop (cp_Door_now Z) hr (by decide) (me_var 0))) (me_int)) (ma_nil)))))))
theorem ok_Door_at (Z : Zb K mg base) : ∃ fd, FnOk P w K mg base (L2.CX P w) 3 (He.fAd K ("Door", some "at")) fd ["self", "moment"] (spM K w 2 m_Door_at) ∧ PySem.W.keepIn K (.ref (He.fAd K ("Door", some "at"))) = true ∧ Binds K fd ["self", "moment"] [] := by
  obtain ⟨fd, F⟩ := Z.d_Door_at
  exact ⟨fd, okF_Door_at Z F, F.kp, (F.bindsN (ps := ["self", "moment"]) fun _ _ _ _ _ _ us hl => match us, hl with | [_, _], _ => rfl)⟩
theorem co_Door_at (Z : Zb K mg base) : ClO P w K mg base 3 "Door" "at" 2 m_Door_at := by
  obtain ⟨fd, F, kp, b⟩ := ok_Door_at (P := P) (w := w) (base := base) Z
  exact ⟨_, fd, _, F, Z.c_Door, Z.me_Door_at, b⟩
theorem okF_Door_act (Z : Zb K mg base) {fd : FuncData} (F : FunD K "act" "Door.act" (defArgs (kid (top 39) 3)) (defBody (kid (top 39) 3)) (defScope (kid (top 39) 3)) [] [] (He.fAd K ("Door", some "act")) fd) : FnOk P w K mg base (L2.CX P w) 6 (He.fAd K ("Door", some "act")) fd ["self", "moment", "action"] (spM K w 3 m_Door_act) := fn_m (keep := true) F sc_Door_act rfl fun cdv A outer s H E hr tk hp => mss_cons (ms_expr (me_call (cl_check_actions Z) hr (by decide) tk (ma_cons (me_fld ⟨Z.c_Door, Z.n_Door_book⟩ (me_var 0)) (ma_cons (me_lst (ma_cons (me_var 2) (ma_nil))) (ma_nil))))) (mss_cons (ms_asg (me_call (cl_step Z) hr (by decide) tk (ma_cons (me_fld ⟨Z.c_Door, Z.n_Door_book⟩ (me_var 0)) (ma_cons (me_meth (co_Door_at Z) hr (by decide) tk (me_var 0) (ma_cons (me_var 1) (ma_nil))) (ma_cons (me_var 2) (ma_nil))))) (mg_tup rfl (mgs_cons (mg_name 3 sc_Door_act.nd) (mgs_cons (mg_name 4 sc_Door_act.nd) (mgs_nil))))) (mss_cons (ms_app (me_fld ⟨Z.c_Door, Z.n_Door_rows⟩ (me_var 0)) (me_tup (ma_cons (me_var 1) (ma_cons (me_var 2) (ma_cons (me_var 3) (ma_nil)))))) (mss_cons (ms_app (me_fld ⟨Z.c_Door, Z.n_Door_standings⟩ (me_var 0)) (me_var 4)) (mss_one (ms_ret (me_var 3))))))
theorem ok_Door_act (Z : Zb K mg base) : ∃ fd, FnOk P w K mg base (L2.CX P w) 6 (He.fAd K ("Door", some "act")) fd ["self", "moment", "action"] (spM K w 3 m_Door_act) ∧ PySem.W.keepIn K (.ref (He.fAd K ("Door", some "act"))) = true ∧ Binds K fd ["self", "moment", "action"] [] := by
  obtain ⟨fd, F⟩ := Z.d_Door_act
  exact ⟨fd, okF_Door_act Z F, F.kp, (F.bindsN (ps := ["self", "moment", "action"]) fun _ _ _ _ _ _ us hl => match us, hl with | [_, _, _], _ => rfl)⟩
theorem co_Door_act (Z : Zb K mg base) : ClO P w K mg base 6 "Door" "act" 3 m_Door_act := by
  obtain ⟨fd, F, kp, b⟩ := ok_Door_act (P := P) (w := w) (base := base) Z
  exact ⟨_, fd, _, F, Z.c_Door, Z.me_Door_act, b⟩
theorem okF_Door_undo (Z : Zb K mg base) {fd : FuncData} (F : FunD K "undo" "Door.undo" (defArgs (kid (top 39) 6)) (defBody (kid (top 39) 6)) (defScope (kid (top 39) 6)) [] [] (He.fAd K ("Door", some "undo")) fd) : FnOk P w K mg base (L2.CX P w) 1 (He.fAd K ("Door", some "undo")) fd ["self"] (spM K w 1 m_Door_undo) := fn_m (keep := true) F sc_Door_undo rfl fun cdv A outer s H E hr tk hp => mss_cons (ms_if (mt_not (mt_tru (me_fld ⟨Z.c_Door, Z.n_Door_rows⟩ (me_var 0)))) (mss_one (ms_raise (ExcF.to Z.x_NothingToUndo) tk)) (mss_nil)) (mss_cons (ms_pop (me_fld ⟨Z.c_Door, Z.n_Door_rows⟩ (me_var 0))) (mss_one (ms_pop (me_fld ⟨Z.c_Door, Z.n_Door_standings⟩ (me_var 0)))))
theorem ok_Door_undo (Z : Zb K mg base) : ∃ fd, FnOk P w K mg base (L2.CX P w) 1 (He.fAd K ("Door", some "undo")) fd ["self"] (spM K w 1 m_Door_undo) ∧ PySem.W.keepIn K (.ref (He.fAd K ("Door", some "undo"))) = true ∧ Binds K fd ["self"] [] := by
  obtain ⟨fd, F⟩ := Z.d_Door_undo
  exact ⟨fd, okF_Door_undo Z F, F.kp, (F.bindsN (ps := ["self"]) fun _ _ _ _ _ _ us hl => match us, hl with | [_], _ => rfl)⟩
theorem co_Door_undo (Z : Zb K mg base) : ClO P w K mg base 1 "Door" "undo" 1 m_Door_undo := by
  obtain ⟨fd, F, kp, b⟩ := ok_Door_undo (P := P) (w := w) (base := base) Z
  exact ⟨_, fd, _, F, Z.c_Door, Z.me_Door_undo, b⟩
theorem okF_rule_line (Z : Zb K mg base) {fd : FuncData} (F : FunD K "rule_line" "rule_line" (defArgs (top 43)) (defBody (top 43)) (defScope (top 43)) [] [] (He.ga K "rule_line") fd) : FnOk P w K mg base (L2.CX P w) 1 (He.ga K "rule_line") fd ["rule"] (spM K w 1 m_rule_line) := fn_m (keep := true) F sc_rule_line rfl fun cdv A outer s H E hr tk hp => mss_cons (ms_set 1 sc_rule_line.nd (me_op om_add (me_lst (ma_cons (me_ix om_ix (me_var 0) (me_int) (plainIx _)) (ma_nil))) (me_new (mn_lc (own := [("number", 2)]) rfl sc_rule_line.nd (mi_seq (me_sl (me_var 0) (mo_some (me_int)) (mo_some (me_int)))) (blk_of (by rfl)) (by decide) (fun _ _ _ _ _ => mg_name 2 sc_rule_line.nd) (fun _ _ _ _ _ => MTs_nil) (fun _ _ _ _ _ => me_callT cm_str Z.f_str rfl MM.boot_str (ma_cons (me_var 2) (ma_nil))))))) (mss_one (ms_ret (me_join (me_str) (ma_cons (me_op om_add (me_var 1) (me_new (mn_lc (own := [("word", 3), ("one", 4)]) rfl sc_rule_line.nd (mi_zip Z.f_zip (ma_cons (me_glob (glb Z.k_WORDS) rfl) (ma_cons (me_sl (me_var 0) (mo_some (me_int)) (mo_none)) (ma_nil)))) (blk_of (by rfl)) (by decide) (fun _ _ _ _ _ => mg_tup rfl (mgs_cons (mg_name 3 sc_rule_line.nd) (mgs_cons (mg_name 4 sc_rule_line.nd) (mgs_nil)))) (fun _ _ _ _ _ => MTs_nil) (fun _ _ _ _ _ => me_if (mt_tru (me_var 4)) (me_var 3) (me_str))))) (ma_nil)))))
theorem ok_rule_line (Z : Zb K mg base) : ∃ fd, FnOk P w K mg base (L2.CX P w) 1 (He.ga K "rule_line") fd ["rule"] (spM K w 1 m_rule_line) ∧ PySem.W.keepIn K (.ref (He.ga K "rule_line")) = true ∧ Binds K fd ["rule"] [] := by
  obtain ⟨fd, F⟩ := Z.d_rule_line
  exact ⟨fd, okF_rule_line Z F, F.kp, (F.bindsN (ps := ["rule"]) fun _ _ _ _ _ _ us hl => match us, hl with | [_], _ => rfl)⟩
theorem cl_rule_line (Z : Zb K mg base) : Cl P w K mg base 1 "rule_line" 1 m_rule_line := by
  obtain ⟨fd, F, kp, b⟩ := ok_rule_line (P := P) (w := w) (base := base) Z
  exact ⟨_, fd, _, F, Z.g_rule_line, kp, b⟩
theorem okF_number_of (Z : Zb K mg base) {fd : FuncData} (F : FunD K "number_of" "number_of" (defArgs (top 44)) (defBody (top 44)) (defScope (top 44)) [] [] (He.ga K "number_of") fd) : FnOk P w K mg base (L2.CX P w) 1 (He.ga K "number_of") fd ["word"] (spM K w 1 m_number_of) := fn_m (keep := true) F sc_number_of rfl fun cdv A outer s H E hr tk hp => mss_one (ms_ret (me_if (PW.pt (mw_and (mt_cmp (om_eq hr.units) (me_callB cm_len Z.f_len rfl MM.boot_len (ma_cons (me_var 0) (ma_nil))) (me_int) (nomark _)) (mw_and1 (mt_cmp (om_in (un65 hr)) (me_var 0) (me_glob (glb Z.k_FIGURES) rfl) (by with_unfolding_all rfl))))) (me_callT cm_int Z.f_int rfl MM.boot_int (ma_cons (me_var 0) (ma_nil))) (me_non)))
theorem ok_number_of (Z : Zb K mg base) : ∃ fd, FnOk P w K mg base (L2.CX P w) 1 (He.ga K "number_of") fd ["word"] (spM K w 1 m_number_of) ∧ PySem.W.keepIn K (.ref (He.ga K "number_of")) = true ∧ Binds K fd ["word"] [] := by
  obtain ⟨fd, F⟩ := Z.d_number_of
  exact ⟨fd, okF_number_of Z F, F.kp, (F.bindsN (ps := ["word"]) fun _ _ _ _ _ _ us hl => match us, hl with | [_], _ => rfl)⟩
theorem cl_number_of (Z : Zb K mg base) : Cl P w K mg base 1 "number_of" 1 m_number_of := by
  obtain ⟨fd, F, kp, b⟩ := ok_number_of (P := P) (w := w) (base := base) Z
  exact ⟨_, fd, _, F, Z.g_number_of, kp, b⟩
theorem okF_rule_of (Z : Zb K mg base) {fd : FuncData} (F : FunD K "rule_of" "rule_of" (defArgs (top 45)) (defBody (top 45)) (defScope (top 45)) [] [] (He.ga K "rule_of") fd) : FnOk P w K mg base (L2.CX P w) 3 (He.ga K "rule_of") fd ["line"] (spM K w 1 m_rule_of) := fn_m (keep := true) F sc_rule_of rfl fun cdv A outer s H E hr tk hp => mss_cons (ms_set 1 sc_rule_of.nd (me_split (me_var 0) (ma_cons (me_str) (ma_nil)))) (mss_cons (ms_if (mt_cmp (om_ne hr.units) (me_callB cm_len Z.f_len rfl MM.boot_len (ma_cons (me_var 1) (ma_nil))) (me_int) (nomark _)) (mss_one (ms_ret (me_non))) (mss_nil)) (mss_cons (ms_set 2 sc_rule_of.nd (me_op om_add (me_op om_add (me_tup (ma_cons (me_ix om_ix (me_var 1) (me_int) (plainIx _)) (ma_nil))) (me_callT cm_tuple Z.f_tuple rfl MM.boot_tuple (ma_cons (me_new (mn_lc (own := [("word", 3)]) rfl sc_rule_of.nd (mi_seq (me_sl (me_var 1) (mo_some (me_int)) (mo_some (me_int)))) (blk_of (by rfl)) (by decide) (fun _ _ _ _ _ => mg_name 3 sc_rule_of.nd) (fun _ _ _ _ _ => MTs_nil) (fun _ _ _ _ _ => me_call (cl_number_of Z) hr (by decide) takesBlk (ma_cons (me_var 3) (ma_nil))))) (ma_nil)))) (me_callT cm_tuple Z.f_tuple rfl MM.boot_tuple (ma_cons (me_new (mn_lc (own := [("word", 3)]) rfl sc_rule_of.nd (mi_seq (me_sl (me_var 1) (mo_some (me_int)) (mo_none))) (blk_of (by rfl)) (by decide) (fun _ _ _ _ _ => mg_name 3 sc_rule_of.nd) (fun _ _ _ _ _ => MTs_nil) (fun _ _ _ _ _ => me_cmp (om_ne hr.units) (me_var 3) (me_str) (nomark _)))) (ma_nil))))) (mss_one (ms_ret (me_if (PW.pt (mw_and (mt_tru (me_call (cl_is_rule Z) hr (by decide) tk (ma_cons (me_var 2) (ma_nil)))) (mw_and1 (mt_cmp (om_eq hr.units) (me_call (cl_rule_line Z) hr (by decide) tk (ma_cons (me_var 2) (ma_nil))) (me_var 0) (nomark _))))) (me_var 2) (me_non))))))
theorem ok_rule_of (Z : Zb K mg base) : ∃ fd, FnOk P w K mg base (L2.CX P w) 3 (He.ga K "rule_of") fd ["line"] (spM K w 1 m_rule_of) ∧ PySem.W.keepIn K (.ref (He.ga K "rule_of")) = true ∧ Binds K fd ["line"] [] := by
  obtain ⟨fd, F⟩ := Z.d_rule_of
  exact ⟨fd, okF_rule_of Z F, F.kp, (F.bindsN (ps := ["line"]) fun _ _ _ _ _ _ us hl => match us, hl with | [_], _ => rfl)⟩
theorem cl_rule_of (Z : Zb K mg base) : Cl P w K mg base 3 "rule_of" 1 m_rule_of := by
  obtain ⟨fd, F, kp, b⟩ := ok_rule_of (P := P) (w := w) (base := base) Z
  exact ⟨_, fd, _, F, Z.g_rule_of, kp, b⟩
theorem okF_read (Z : Zb K mg base) {fd : FuncData} (F : FunD K "read" "read" (defArgs (top 46)) (defBody (top 46)) (defScope (top 46)) [] [] (He.ga K "read") fd) : FnOk P w K mg base (L2.CX P w) 5 (He.ga K "read") fd ["text"] (spM K w 1 m_read) := fn_m (keep := true) F sc_read rfl fun cdv A outer s H E hr tk hp => mss_cons (ms_set 1 sc_read.nd (me_split (me_var 0) (ma_cons (me_str) (ma_nil)))) (mss_cons (ms_set 2 sc_read.nd (me_split (me_ix om_ix (me_var 1) (me_int) (plainIx _)) (ma_cons (me_str) (ma_nil)))) (mss_cons (ms_set 3 sc_read.nd (me_non)) (mss_cons (ms_if (PW.pt (mw_and (mt_cmp (om_eq hr.units) (me_callB cm_len Z.f_len rfl MM.boot_len (ma_cons (me_var 2) (ma_nil))) (me_int) (nomark _)) (mw_and1 (mt_cmp (om_eq hr.units) (me_ix om_ix (me_var 2) (me_int) (plainIx _)) (me_str) (nomark _))))) (mss_one (ms_try [("BadRule", "LockError", true), ("BadCount", "LockError", true), ("BadAction", "LockError", true), ("BadMoment", "LockError", true), ("NothingToUndo", "LockError", true), ("NotComparable", "LockError", true), ("BadLine", "LockError", true)] sc_read.nd tk (tab_cons Z.t_BadRule_LockError (tab_cons Z.t_BadCount_LockError (tab_cons Z.t_BadAction_LockError (tab_cons Z.t_BadMoment_LockError (tab_cons Z.t_NothingToUndo_LockError (tab_cons Z.t_NotComparable_LockError (tab_cons Z.t_BadLine_LockError (tab_nil)))))))) (fun W2 pn2 xe2 tk2 hp2 => mss_one (ms_set 3 sc_read.nd (me_frz (me_make (cm_Book Z) hr (by decide) tk2 (ma_cons (me_lst (ma_nil)) (ma_cons (me_call (cl_number_of Z) hr (by decide) tk2 (ma_cons (me_ix om_ix (me_var 2) (me_int) (plainIx _)) (ma_nil))) (ma_cons (me_call (cl_number_of Z) hr (by decide) tk2 (ma_cons (me_ix om_ix (me_var 2) (me_int) (plainIx _)) (ma_nil))) (ma_nil)))))))) (.cons (names_of Z.g_LockError) (fun a oe cls dd pn hz hf => hs_plain (mss_one (ms_set 3 sc_read.nd (me_non)))) (.nil)))) (mss_nil)) (mss_cons (ms_if (mt_cmp om_is (me_var 3) (me_non) (nomark _)) (mss_one (ms_raise1 (kx_BadLine Z) hr (by decide) tk (me_int))) (mss_nil)) (mss_cons (ms_lcG (own := [("line", 7)]) rfl sc_read.nd (mi_seq (me_sl (me_var 1) (mo_some (me_int)) (mo_none))) (blk_of (by rfl)) (by decide) (fun _ _ _ _ _ => mg_name 7 sc_read.nd) (fun _ _ _ _ _ => MTs_nil) (fun _ _ _ _ _ => me_call (cl_rule_of Z) hr (by decide) takesBlk (ma_cons (me_var 7) (ma_nil))) (fun _ _ _ h => setNew h)) (mss_cons (ms_for hp rfl (mi_enum Z.f_enumerate (ma_cons (me_var 4) (ma_nil))) (mg_tup rfl (mgs_cons (mg_name 5 sc_read.nd) (mgs_cons (mg_name 6 sc_read.nd) (mgs_nil)))) (mss_one (ms_if (PW.pt (mw_or (mt_cmp om_is (me_var 6) (me_non) (nomark _)) (mw_or1 (mt_cmp om_ge (me_var 5) (me_int) (nomark _))))) (mss_one (ms_raise1 (kx_BadLine Z) hr (by decide) tk (me_op om_add (me_var 5) (me_int)))) (mss_nil)))) (mss_one (ms_ret (me_frz (me_make (cm_Book Z) hr (by decide) tk (ma_cons (me_var 4) (ma_cons (me_fld ⟨Z.c_Book, Z.n_Book_accounts⟩ (me_var 3)) (ma_cons (me_fld ⟨Z.c_Book, Z.n_Book_places⟩ (me_var 3)) (ma_nil))))))))))))))
theorem ok_read (Z : Zb K mg base) : ∃ fd, FnOk P w K mg base (L2.CX P w) 5 (He.ga K "read") fd ["text"] (spM K w 1 m_read) ∧ PySem.W.keepIn K (.ref (He.ga K "read")) = true ∧ Binds K fd ["text"] [] := by
  obtain ⟨fd, F⟩ := Z.d_read
  exact ⟨fd, okF_read Z F, F.kp, (F.bindsN (ps := ["text"]) fun _ _ _ _ _ _ us hl => match us, hl with | [_], _ => rfl)⟩
theorem cl_read (Z : Zb K mg base) : Cl P w K mg base 5 "read" 1 m_read := by
  obtain ⟨fd, F, kp, b⟩ := ok_read (P := P) (w := w) (base := base) Z
  exact ⟨_, fd, _, F, Z.g_read, kp, b⟩
theorem okF__law_begin (Z : Zb K mg base) {fd : FuncData} (F : FunD K "_law_begin" "_law_begin" (defArgs (top 48)) (defBody (top 48)) (defScope (top 48)) [] [] (He.ga K "_law_begin") fd) : FnOk P w K mg base (L2.CX P w) 1 (He.ga K "_law_begin") fd ["_law_script"] (spM K w 1 m__law_begin) := fn_m (keep := true) F sc__law_begin rfl fun cdv A outer s H E hr tk hp => mss_one (ms_ret (me_loc (mn_lst (ma_cons (me_callT cm_list Z.f_list rfl MM.boot_list (ma_cons (me_var 0) (ma_nil))) (ma_cons (me_int) (ma_cons (me_int) (ma_cons (me_int) (ma_nil))))))))
theorem ok__law_begin (Z : Zb K mg base) : ∃ fd, FnOk P w K mg base (L2.CX P w) 1 (He.ga K "_law_begin") fd ["_law_script"] (spM K w 1 m__law_begin) ∧ PySem.W.keepIn K (.ref (He.ga K "_law_begin")) = true ∧ Binds K fd ["_law_script"] [] := by
  obtain ⟨fd, F⟩ := Z.d__law_begin
  exact ⟨fd, okF__law_begin Z F, F.kp, (F.bindsN (ps := ["_law_script"]) fun _ _ _ _ _ _ us hl => match us, hl with | [_], _ => rfl)⟩
theorem cl__law_begin (Z : Zb K mg base) : Cl P w K mg base 1 "_law_begin" 1 m__law_begin := by
  obtain ⟨fd, F, kp, b⟩ := ok__law_begin (P := P) (w := w) (base := base) Z
  exact ⟨_, fd, _, F, Z.g__law_begin, kp, b⟩
theorem okF__law_draw (Z : Zb K mg base) {fd : FuncData} (F : FunD K "_law_draw" "_law_draw" (defArgs (top 49)) (defBody (top 49)) (defScope (top 49)) [] [] (He.ga K "_law_draw") fd) : FnOk P w K mg base (L2.CX P w) 1 (He.ga K "_law_draw") fd ["_law_draws", "_law_many"] (spM K w 2 m__law_draw) := fn_m (keep := true) F sc__law_draw rfl fun cdv A outer s H E hr tk hp => mss_cons (ms_if (mt_cmp (om_eq hr.units) (me_ix om_ix (me_var 0) (me_int) (plainIx _)) (me_int) (nomark _)) (mss_one (ms_if (mt_cmp om_lt (me_ix om_ix (me_var 0) (me_int) (plainIx _)) (me_callB cm_len Z.f_len rfl MM.boot_len (ma_cons (me_ix om_ix (me_var 0) (me_int) (plainIx _)) (ma_nil))) (nomark _)) (mss_cons (ms_set 2 sc__law_draw.nd (me_ix om_ix (me_ix om_ix (me_var 0) (me_int) (plainIx _)) (me_ix om_ix (me_var 0) (me_int) (plainIx _)) (plainIx _))) (mss_cons (ms_setIx (me_op om_add (me_ix om_ix (me_var 0) (me_int) (plainIx _)) (me_int)) (me_var 0) (me_int)) (mss_one (ms_if (mt_cmp om_ge (me_var 2) (me_op om_pow (me_int) (me_int)) (nomark _)) (mss_one (ms_setIx (me_var 2) (me_var 0) (me_int))) (mss_one (ms_setIx (me_op om_mod (me_callT cm_int Z.f_int rfl MM.boot_int (ma_cons (me_op om_add (me_op om_add (me_op om_mul (me_ix om_ix (me_var 0) (me_int) (plainIx _)) (me_int)) (me_op om_mul (me_var 2) (me_int))) (me_int)) (ma_nil))) (me_int)) (me_var 0) (me_int))))))) (mss_one (ms_setIx (me_op om_mod (me_callT cm_int Z.f_int rfl MM.boot_int (ma_cons (me_op om_add (me_op om_mul (me_ix om_ix (me_var 0) (me_int) (plainIx _)) (me_int)) (me_int)) (ma_nil))) (me_int)) (me_var 0) (me_int))))) (mss_nil)) (mss_cons (ms_if (mt_cmp om_gt (me_ix om_ix (me_var 0) (me_int) (plainIx _)) (me_int) (nomark _)) (mss_cons (ms_set 3 sc__law_draw.nd (me_op om_mod (me_callT cm_int Z.f_int rfl MM.boot_int (ma_cons (me_ix om_ix (me_var 0) (me_int) (plainIx _)) (ma_nil))) (me_var 1))) (mss_cons (ms_setIx (me_op om_div (me_ix om_ix (me_var 0) (me_int) (plainIx _)) (me_var 1)) (me_var 0) (me_int)) (mss_one (ms_ret (me_var 3))))) (mss_nil)) (mss_one (ms_ret (me_op om_mod (me_op om_mod (me_callT cm_int Z.f_int rfl MM.boot_int (ma_cons (me_op om_mul (me_ix om_ix (me_var 0) (me_int) (plainIx _)) (me_int)) (ma_nil))) (me_int)) (me_var 1)))))
theorem ok__law_draw (Z : Zb K mg base) : ∃ fd, FnOk P w K mg base (L2.CX P w) 1 (He.ga K "_law_draw") fd ["_law_draws", "_law_many"] (spM K w 2 m__law_draw) ∧ PySem.W.keepIn K (.ref (He.ga K "_law_draw")) = true ∧ Binds K fd ["_law_draws", "_law_many"] [] := by
  obtain ⟨fd, F⟩ := Z.d__law_draw
  exact ⟨fd, okF__law_draw Z F, F.kp, (F.bindsN (ps := ["_law_draws", "_law_many"]) fun _ _ _ _ _ _ us hl => match us, hl with | [_, _], _ => rfl)⟩
theorem cl__law_draw (Z : Zb K mg base) : Cl P w K mg base 1 "_law_draw" 2 m__law_draw := by
  obtain ⟨fd, F, kp, b⟩ := ok__law_draw (P := P) (w := w) (base := base) Z
  exact ⟨_, fd, _, F, Z.g__law_draw, kp, b⟩
theorem okF__law_raise (Z : Zb K mg base) {fd : FuncData} (F : FunD K "_law_raise" "_law_raise" (defArgs (top 50)) (defBody (top 50)) (defScope (top 50)) [] [] (He.ga K "_law_raise") fd) : FnOk P w K mg base (L2.CX P w) 8 (He.ga K "_law_raise") fd ["_law_at"] (spM K w 1 m__law_raise) := fn_m (keep := true) F sc__law_raise rfl fun cdv A outer s H E hr tk hp => mss_cons (ms_set 1 sc__law_raise.nd (me_frz (me_make (cm_Book Z) hr (by decide) tk (ma_cons (me_lst (ma_nil)) (ma_cons (me_int) (ma_cons (me_int) (ma_nil))))))) (mss_cons (ms_if (mt_cmp (om_eq hr.units) (me_var 0) (me_int) (nomark _)) (mss_one (ms_expr (me_frz (me_make (cm_Book Z) hr (by decide) tk (ma_cons (me_lst (ma_nil)) (ma_cons (me_int) (ma_cons (me_int) (ma_nil)))))))) (mss_nil)) (mss_cons (ms_if (mt_cmp (om_eq hr.units) (me_var 0) (me_int) (nomark _)) (mss_one (ms_expr (me_meth (co_Door_act Z) hr (by decide) tk (me_make (cm_Door Z) hr (by decide) tk (ma_cons (me_var 1) (ma_nil))) (ma_cons (me_int) (ma_cons (me_tup (ma_cons (me_str) (ma_cons (me_int) (ma_nil)))) (ma_nil)))))) (mss_nil)) (mss_cons (ms_if (mt_cmp (om_eq hr.units) (me_var 0) (me_int) (nomark _)) (mss_one (ms_expr (me_meth (co_Door_act Z) hr (by decide) tk (me_make (cm_Door Z) hr (by decide) tk (ma_cons (me_var 1) (ma_nil))) (ma_cons (me_neg (me_int)) (ma_cons (me_non) (ma_nil)))))) (mss_nil)) (mss_cons (ms_if (mt_cmp (om_eq hr.units) (me_var 0) (me_int) (nomark _)) (mss_one (ms_expr (me_meth0 (co_Door_undo Z) hr (by decide) tk (me_make (cm_Door Z) hr (by decide) tk (ma_cons (me_var 1) (ma_nil)))))) (mss_nil)) (mss_cons (ms_if (mt_cmp (om_eq hr.units) (me_var 0) (me_int) (nomark _)) (mss_one (ms_expr (me_call (cl_alike Z) hr (by decide) tk (ma_cons (me_var 1) (ma_cons (me_frz (me_make (cm_Book Z) hr (by decide) tk (ma_cons (me_lst (ma_nil)) (ma_cons (me_int) (ma_cons (me_int) (ma_nil)))))) (ma_nil)))))) (mss_nil)) (mss_cons (ms_if (mt_cmp (om_eq hr.units) (me_var 0) (me_int) (nomark _)) (mss_one (ms_expr (me_frz (me_make (cm_Book Z) hr (by decide) tk (ma_cons (me_lst (ma_cons (me_tup (ma_nil)) (ma_nil))) (ma_cons (me_int) (ma_cons (me_int) (ma_nil)))))))) (mss_nil)) (mss_one (ms_if (mt_cmp (om_eq hr.units) (me_var 0) (me_int) (nomark _)) (mss_one (ms_expr (me_call (cl_read Z) hr (by decide) tk (ma_cons (me_str) (ma_nil))))) (mss_nil)))))))))
theorem ok__law_raise (Z : Zb K mg base) : ∃ fd, FnOk P w K mg base (L2.CX P w) 8 (He.ga K "_law_raise") fd ["_law_at"] (spM K w 1 m__law_raise) ∧ PySem.W.keepIn K (.ref (He.ga K "_law_raise")) = true ∧ Binds K fd ["_law_at"] [] := by
  obtain ⟨fd, F⟩ := Z.d__law_raise
  exact ⟨fd, okF__law_raise Z F, F.kp, (F.bindsN (ps := ["_law_at"]) fun _ _ _ _ _ _ us hl => match us, hl with | [_], _ => rfl)⟩
theorem cl__law_raise (Z : Zb K mg base) : Cl P w K mg base 8 "_law_raise" 1 m__law_raise := by
  obtain ⟨fd, F, kp, b⟩ := ok__law_raise (P := P) (w := w) (base := base) Z
  exact ⟨_, fd, _, F, Z.g__law_raise, kp, b⟩
theorem kb__law_kinds (Z : Zb K mg base) {cdv : Value} {A : Around} {outer : List Env} {s : Shared} {H : Hp} {p : Addr × Obj} {c : Str} {b0 b1 b2 b3 b4 b5 b6 b7 : Bool} (C : KindC K (He.ga K c)) (k0 : PySem.W.kitOne K (.ref (He.ga K c)) (.ref (He.ga K "BadCount")) = some b0) (k1 : PySem.W.kitOne K (.ref (He.ga K c)) (.ref (He.ga K "BadAction")) = some b1) (k2 : PySem.W.kitOne K (.ref (He.ga K c)) (.ref (He.ga K "BadMoment")) = some b2) (k3 : PySem.W.kitOne K (.ref (He.ga K c)) (.ref (He.ga K "NothingToUndo")) = some b3) (k4 : PySem.W.kitOne K (.ref (He.ga K c)) (.ref (He.ga K "NotComparable")) = some b4) (k5 : PySem.W.kitOne K (.ref (He.ga K c)) (.ref (He.ga K "BadRule")) = some b5) (k6 : PySem.W.kitOne K (.ref (He.ga K c)) (.ref (He.ga K "BadLine")) = some b6) (k7 : PySem.W.kitOne K (.ref (He.ga K c)) (.type "ValueError") = some b7) : PSs (L2H.cxH noCX P w K mg base ["_law_e", "_law_told"] "_law_kinds" (defScope s__law_kinds) (He.ga K "_law_kinds") cdv A outer s H noXK p) (defBody s__law_kinds) (tKindBody K p c [b0, b1, b2, b3] [b4, b5, b6] [b7]) :=
  kind_body (X := (L2H.cxH noCX P w K mg base ["_law_e", "_law_told"] "_law_kinds" (defScope s__law_kinds) (He.ga K "_law_kinds") cdv A outer s H noXK p)) (ps_set sc__law_kinds.nd rfl (Or.inl rfl) (pe_lst (pa_kinds (pe_kind List.mem_cons_self C Z.f_isinstance (pe_glob (v := .ref (He.ga K "BadCount")) rfl Z.g_BadCount rfl) (fun _ r => r) k0) (pa_kinds (pe_kind List.mem_cons_self C Z.f_isinstance (pe_glob (v := .ref (He.ga K "BadAction")) rfl Z.g_BadAction rfl) (fun _ r => r) k1) (pa_kinds (pe_kind List.mem_cons_self C Z.f_isinstance (pe_glob (v := .ref (He.ga K "BadMoment")) rfl Z.g_BadMoment rfl) (fun _ r => r) k2) (pa_kinds (pe_kind List.mem_cons_self C Z.f_isinstance (pe_glob (v := .ref (He.ga K "NothingToUndo")) rfl Z.g_NothingToUndo rfl) (fun _ r => r) k3) (pa_kind0))))))) (ps_set sc__law_kinds.nd rfl (Or.inl rfl) (pe_op op_cat (pe_var rfl (Or.inl rfl)) (pe_lst (pa_kinds (pe_kind List.mem_cons_self C Z.f_isinstance (pe_glob (v := .ref (He.ga K "NotComparable")) rfl Z.g_NotComparable rfl) (fun _ r => r) k4) (pa_kinds (pe_kind List.mem_cons_self C Z.f_isinstance (pe_glob (v := .ref (He.ga K "BadRule")) rfl Z.g_BadRule rfl) (fun _ r => r) k5) (pa_kinds (pe_kind List.mem_cons_self C Z.f_isinstance (pe_glob (v := .ref (He.ga K "BadLine")) rfl Z.g_BadLine rfl) (fun _ r => r) k6) (pa_kind0))))))) (ps_ret (pe_op op_cat (pe_var rfl (Or.inl rfl)) (pe_lst (pa_kinds (pe_kind List.mem_cons_self C Z.f_isinstance (pe_bltn (v := .ty "ValueError") rfl Z.f_ValueError (by decide +kernel) rfl) (fun _ r => r) k7) (pa_kind0)))))
theorem ck__law_kinds (Z : Zb K mg base) : ClKd P w K mg base 1 "_law_kinds" "_law_e" tab__law_kinds := by
  obtain ⟨fd, F⟩ := Z.d__law_kinds
  refine ⟨(He.ga K "_law_kinds"), fd, fn_kind F sc__law_kinds (by decide) fun cdv A outer s H p row hrow => ?_, Z.g__law_kinds, F.kp, F.bindsN (ps := ["_law_e"]) fun _ _ _ _ _ _ us hl => match us, hl with | [_], _ => rfl⟩
  simp only [tab__law_kinds, List.mem_cons, List.not_mem_nil, or_false] at hrow
  rcases hrow with rfl | rfl | rfl | rfl | rfl | rfl | rfl
  · exact kb__law_kinds Z (kindB_ok Z.kc_BadRule) (of_decide_eq_true Z.kk_BadRule_BadCount) (of_decide_eq_true Z.kk_BadRule_BadAction) (of_decide_eq_true Z.kk_BadRule_BadMoment) (of_decide_eq_true Z.kk_BadRule_NothingToUndo) (of_decide_eq_true Z.kk_BadRule_NotComparable) (of_decide_eq_true Z.kk_BadRule_BadRule) (of_decide_eq_true Z.kk_BadRule_BadLine) (of_decide_eq_true Z.kk_BadRule_ValueError)
  · exact kb__law_kinds Z (kindB_ok Z.kc_BadCount) (of_decide_eq_true Z.kk_BadCount_BadCount) (of_decide_eq_true Z.kk_BadCount_BadAction) (of_decide_eq_true Z.kk_BadCount_BadMoment) (of_decide_eq_true Z.kk_BadCount_NothingToUndo) (of_decide_eq_true Z.kk_BadCount_NotComparable) (of_decide_eq_true Z.kk_BadCount_BadRule) (of_decide_eq_true Z.kk_BadCount_BadLine) (of_decide_eq_true Z.kk_BadCount_ValueError)
  · exact kb__law_kinds Z (kindB_ok Z.kc_BadAction) (of_decide_eq_true Z.kk_BadAction_BadCount) (of_decide_eq_true Z.kk_BadAction_BadAction) (of_decide_eq_true Z.kk_BadAction_BadMoment) (of_decide_eq_true Z.kk_BadAction_NothingToUndo) (of_decide_eq_true Z.kk_BadAction_NotComparable) (of_decide_eq_true Z.kk_BadAction_BadRule) (of_decide_eq_true Z.kk_BadAction_BadLine) (of_decide_eq_true Z.kk_BadAction_ValueError)
  · exact kb__law_kinds Z (kindB_ok Z.kc_BadMoment) (of_decide_eq_true Z.kk_BadMoment_BadCount) (of_decide_eq_true Z.kk_BadMoment_BadAction) (of_decide_eq_true Z.kk_BadMoment_BadMoment) (of_decide_eq_true Z.kk_BadMoment_NothingToUndo) (of_decide_eq_true Z.kk_BadMoment_NotComparable) (of_decide_eq_true Z.kk_BadMoment_BadRule) (of_decide_eq_true Z.kk_BadMoment_BadLine) (of_decide_eq_true Z.kk_BadMoment_ValueError)
  · exact kb__law_kinds Z (kindB_ok Z.kc_NothingToUndo) (of_decide_eq_true Z.kk_NothingToUndo_BadCount) (of_decide_eq_true Z.kk_NothingToUndo_BadAction) (of_decide_eq_true Z.kk_NothingToUndo_BadMoment) (of_decide_eq_true Z.kk_NothingToUndo_NothingToUndo) (of_decide_eq_true Z.kk_NothingToUndo_NotComparable) (of_decide_eq_true Z.kk_NothingToUndo_BadRule) (of_decide_eq_true Z.kk_NothingToUndo_BadLine) (of_decide_eq_true Z.kk_NothingToUndo_ValueError)
  · exact kb__law_kinds Z (kindB_ok Z.kc_NotComparable) (of_decide_eq_true Z.kk_NotComparable_BadCount) (of_decide_eq_true Z.kk_NotComparable_BadAction) (of_decide_eq_true Z.kk_NotComparable_BadMoment) (of_decide_eq_true Z.kk_NotComparable_NothingToUndo) (of_decide_eq_true Z.kk_NotComparable_NotComparable) (of_decide_eq_true Z.kk_NotComparable_BadRule) (of_decide_eq_true Z.kk_NotComparable_BadLine) (of_decide_eq_true Z.kk_NotComparable_ValueError)
  · exact kb__law_kinds Z (kindB_ok Z.kc_BadLine) (of_decide_eq_true Z.kk_BadLine_BadCount) (of_decide_eq_true Z.kk_BadLine_BadAction) (of_decide_eq_true Z.kk_BadLine_BadMoment) (of_decide_eq_true Z.kk_BadLine_NothingToUndo) (of_decide_eq_true Z.kk_BadLine_NotComparable) (of_decide_eq_true Z.kk_BadLine_BadRule) (of_decide_eq_true Z.kk_BadLine_BadLine) (of_decide_eq_true Z.kk_BadLine_ValueError)
theorem okF_law (Z : Zb K mg base) {fd : FuncData} (F : FunD K "law" "law" (defArgs (top 52)) (defBody (top 52)) (defScope (top 52)) [] [] (He.ga K "law") fd) : FnOk P w K mg base (L2.CX P w) 9 (He.ga K "law") fd ["_law_script"] (spM K w 1 m_law) := fn_m (keep := true) F sc_law rfl fun cdv A outer s H E hr tk hp => mss_cons (ms_set 1 sc_law.nd (me_call (cl__law_begin Z) hr (by decide) tk (ma_cons (me_var 0) (ma_nil)))) (mss_cons (ms_set 2 sc_law.nd (me_call (cl__law_draw Z) hr (by decide) tk (ma_cons (me_var 1) (ma_cons (me_int) (ma_nil))))) (mss_cons (ms_set 3 sc_law.nd (me_lst (ma_nil))) (mss_cons (ms_try [("BadRule", "LockError", true), ("BadCount", "LockError", true), ("BadAction", "LockError", true), ("BadMoment", "LockError", true), ("NothingToUndo", "LockError", true), ("NotComparable", "LockError", true), ("BadLine", "LockError", true)] sc_law.nd tk (tab_cons Z.t_BadRule_LockError (tab_cons Z.t_BadCount_LockError (tab_cons Z.t_BadAction_LockError (tab_cons Z.t_BadMoment_LockError (tab_cons Z.t_NothingToUndo_LockError (tab_cons Z.t_NotComparable_LockError (tab_cons Z.t_BadLine_LockError (tab_nil)))))))) (fun W2 pn2 xe2 tk2 hp2 => mss_one (ms_expr (me_call (cl__law_raise Z) hr (by decide) tk2 (ma_cons (me_var 2) (ma_nil))))) (.consAs (i := 4) rfl rfl (names_of Z.g_LockError) (fun a oe cls dd pn hz hf => hs_kindC 4 3 (ck__law_kinds Z) hr (by decide) hz hf sc_law.nd) (.nil))) (mss_one (ms_ret (me_cmp (om_eq hr.units) (me_var 3) (me_op om_add (me_new (mn_lc (own := [("_law_k", 5)]) rfl sc_law.nd (mi_range1 Z.f_range (ma_cons (me_int) (ma_nil))) (blk_of (by rfl)) (by decide) (fun _ _ _ _ _ => mg_name 5 sc_law.nd) (fun _ _ _ _ _ => MTs_nil) (fun _ _ _ _ _ => me_cmp (om_eq hr.units) (me_var 5) (me_var 2) (nomark _)))) (me_lst (ma_cons (me_bl) (ma_nil)))) (nomark _)))))))
end
end
end K15
namespace K15
open PySem PySem.Spec PyProof.Rows L2 MM
/-! ### the head -/
def fn : List He.DefD := [⟨("BadRule", some "__init__"), "__init__", "BadRule.__init__", defArgs (kid (top 8) 0), defBody (kid (top 8) 0), defScope (kid (top 8) 0), [], []⟩,
  ⟨("BadLine", some "__init__"), "__init__", "BadLine.__init__", defArgs (kid (top 9) 0), defBody (kid (top 9) 0), defScope (kid (top 9) 0), [], []⟩,
  ⟨("is_number", none), "is_number", "is_number", defArgs (top 13), defBody (top 13), defScope (top 13), [], []⟩,
  ⟨("is_rule", none), "is_rule", "is_rule", defArgs (top 14), defBody (top 14), defScope (top 14), [], []⟩,
  ⟨("Book", some "__init__"), "__init__", "Book.__init__", defArgs (kid (top 15) 0), defBody (kid (top 15) 0), defScope (kid (top 15) 0), [], []⟩,
  ⟨("actions_of", none), "actions_of", "actions_of", defArgs (top 16), defBody (top 16), defScope (top 16), [], []⟩,
  ⟨("is_action", none), "is_action", "is_action", defArgs (top 17), defBody (top 17), defScope (top 17), [], []⟩,
  ⟨("check_actions", none), "check_actions", "check_actions", defArgs (top 18), defBody (top 18), defScope (top 18), [], []⟩,
  ⟨("pairs_of", none), "pairs_of", "pairs_of", defArgs (top 22), defBody (top 22), defScope (top 22), [], []⟩,
  ⟨("keys_of", none), "keys_of", "keys_of", defArgs (top 23), defBody (top 23), defScope (top 23), [], []⟩,
  ⟨("first_standing", none), "first_standing", "first_standing", defArgs (top 24), defBody (top 24), defScope (top 24), [], []⟩,
  ⟨("is_at", none), "is_at", "is_at", defArgs (top 25), defBody (top 25), defScope (top 25), [], []⟩,
  ⟨("left_at", none), "left_at", "left_at", defArgs (top 26), defBody (top 26), defScope (top 26), [], []⟩,
  ⟨("is_locked", none), "is_locked", "is_locked", defArgs (top 27), defBody (top 27), defScope (top 27), [], []⟩,
  ⟨("passed", none), "passed", "passed", defArgs (top 28), defBody (top 28), defScope (top 28), [], []⟩,
  ⟨("idle", none), "idle", "idle", defArgs (top 29), defBody (top 29), defScope (top 29), [], []⟩,
  ⟨("begun", none), "begun", "begun", defArgs (top 30), defBody (top 30), defScope (top 30), [], []⟩,
  ⟨("kept_part", none), "kept_part", "kept_part", defArgs (top 31), defBody (top 31), defScope (top 31), [], []⟩,
  ⟨("let_part", none), "let_part", "let_part", defArgs (top 32), defBody (top 32), defScope (top 32), [], []⟩,
  ⟨("changed", none), "changed", "changed", defArgs (top 33), defBody (top 33), defScope (top 33), [], []⟩,
  ⟨("step", none), "step", "step", defArgs (top 34), defBody (top 34), defScope (top 34), [], []⟩,
  ⟨("parting", none), "parting", "parting", defArgs (top 36), defBody (top 36), defScope (top 36), [], []⟩,
  ⟨("alike", none), "alike", "alike", defArgs (top 37), defBody (top 37), defScope (top 37), [], []⟩,
  ⟨("Door", some "__init__"), "__init__", "Door.__init__", defArgs (kid (top 39) 0), defBody (kid (top 39) 0), defScope (kid (top 39) 0), [], []⟩,
  ⟨("Door", some "at"), "at", "Door.at", defArgs (kid (top 39) 2), defBody (kid (top 39) 2), defScope (kid (top 39) 2), [], []⟩,
  ⟨("Door", some "act"), "act", "Door.act", defArgs (kid (top 39) 3), defBody (kid (top 39) 3), defScope (kid (top 39) 3), [], []⟩,
  ⟨("Door", some "undo"), "undo", "Door.undo", defArgs (kid (top 39) 6), defBody (kid (top 39) 6), defScope (kid (top 39) 6), [], []⟩,
  ⟨("rule_line", none), "rule_line", "rule_line", defArgs (top 43), defBody (top 43), defScope (top 43), [], []⟩,
  ⟨("number_of", none), "number_of", "number_of", defArgs (top 44), defBody (top 44), defScope (top 44), [], []⟩,
  ⟨("rule_of", none), "rule_of", "rule_of", defArgs (top 45), defBody (top 45), defScope (top 45), [], []⟩,
  ⟨("read", none), "read", "read", defArgs (top 46), defBody (top 46), defScope (top 46), [], []⟩,
  ⟨("_law_begin", none), "_law_begin", "_law_begin", defArgs (top 48), defBody (top 48), defScope (top 48), [], []⟩,
  ⟨("_law_draw", none), "_law_draw", "_law_draw", defArgs (top 49), defBody (top 49), defScope (top 49), [], []⟩,
  ⟨("_law_raise", none), "_law_raise", "_law_raise", defArgs (top 50), defBody (top 50), defScope (top 50), [], []⟩,
  ⟨("_law_kinds", none), "_law_kinds", "_law_kinds", defArgs (top 51), defBody (top 51), defScope (top 51), [], []⟩,
  ⟨("law", none), "law", "law", defArgs (top 52), defBody (top 52), defScope (top 52), [], []⟩]
def g_Door_now : He5.DefA := ⟨gAd "Door" "now", "now", "Door.now", defArgs (kid (top 39) 1), defBody (kid (top 39) 1), defScope (kid (top 39) 1), [], []⟩
def gs : List He5.DefA := [g_Door_now]
def fa : List He.Fa := [.glo "BadRule", .noat "BadRule" "index", .glo "BadLine", .noat "BadLine" "line", .free "int", .free "isinstance", .free "bool", .glo "is_number", .free "tuple", .free "len", .free "str", .glo "KEYS", .free "all", .glo "is_rule", .int "MOST_RULES" 3, .free "enumerate", .glo "BadCount", .exc "BadCount", .cls "Book", .noat "Book" "rules", .noat "Book" "accounts", .noat "Book" "places", .glo "Book", .mkr "Book", .free "range", .glo "actions_of", .glo "is_action", .glo "BadAction", .exc "BadAction", .glo "check_actions", .glo "pairs_of", .glo "keys_of", .glo "NEW", .glo "first_standing", .glo "is_at", .free "zip", .glo "left_at", .free "any", .glo "is_locked", .free "max", .glo "passed", .glo "idle", .glo "FACTORS", .free "min", .glo "begun", .glo "kept_part", .glo "let_part", .glo "changed", .glo "step", .glo "NotComparable", .exc "NotComparable", .free "list", .glo "parting", .glo "alike", .cls "Door", .noat "Door" "book", .noat "Door" "rows", .noat "Door" "standings", .glo "Door", .mkr "Door", .glo "BadMoment", .exc "BadMoment", .meth "Door" "at", .meth "Door" "act", .glo "NothingToUndo", .exc "NothingToUndo", .meth "Door" "undo", .glo "WORDS", .glo "rule_line", .str "FIGURES" "012345", .glo "number_of", .glo "rule_of", .glo "LockError", .glo "read", .glo "_law_begin", .glo "_law_draw", .glo "_law_raise", .glo "_law_kinds", .free "ValueError", .glo "law"]
def ex (K : PySem.W.Frag) : List Bool := [oexB K "BadRule", xinB K "BadRule", oexB K "BadLine", xinB K "BadLine", He.tupB K "KEYS" [.str "account", .str "place", .str "both"], He.tupB K "NEW" [.int 0, .int 0, .int 0, .int 0, .int 0], He.tupB K "FACTORS" [.int 1, .int 2, .int 4], He5.DefA.ok K g_Door_now, propB K "Door" "now", He.tupB K "WORDS" [.str "clears", .str "grows", .str "strict"], exmB K "BadLine" "LockError" true, exmB K "NotComparable" "LockError" true, exmB K "NothingToUndo" "LockError" true, exmB K "BadMoment" "LockError" true, exmB K "BadAction" "LockError" true, exmB K "BadCount" "LockError" true, exmB K "BadRule" "LockError" true, kitB2 K "BadRule" (.ref (He.ga K "BadCount")) false, kitB2 K "BadRule" (.ref (He.ga K "BadAction")) false, kitB2 K "BadRule" (.ref (He.ga K "BadMoment")) false, kitB2 K "BadRule" (.ref (He.ga K "NothingToUndo")) false, kitB2 K "BadRule" (.ref (He.ga K "NotComparable")) false, kitB2 K "BadRule" (.ref (He.ga K "BadRule")) true, kitB2 K "BadRule" (.ref (He.ga K "BadLine")) false, kitB2 K "BadRule" (.type "ValueError") true, kindB K "BadRule", kitB2 K "BadCount" (.ref (He.ga K "BadCount")) true, kitB2 K "BadCount" (.ref (He.ga K "BadAction")) false, kitB2 K "BadCount" (.ref (He.ga K "BadMoment")) false, kitB2 K "BadCount" (.ref (He.ga K "NothingToUndo")) false, kitB2 K "BadCount" (.ref (He.ga K "NotComparable")) false, kitB2 K "BadCount" (.ref (He.ga K "BadRule")) false, kitB2 K "BadCount" (.ref (He.ga K "BadLine")) false, kitB2 K "BadCount" (.type "ValueError") true, kindB K "BadCount", kitB2 K "BadAction" (.ref (He.ga K "BadCount")) false, kitB2 K "BadAction" (.ref (He.ga K "BadAction")) true, kitB2 K "BadAction" (.ref (He.ga K "BadMoment")) false, kitB2 K "BadAction" (.ref (He.ga K "NothingToUndo")) false, kitB2 K "BadAction" (.ref (He.ga K "NotComparable")) false, kitB2 K "BadAction" (.ref (He.ga K "BadRule")) false, kitB2 K "BadAction" (.ref (He.ga K "BadLine")) false, kitB2 K "BadAction" (.type "ValueError") true, kindB K "BadAction", kitB2 K "BadMoment" (.ref (He.ga K "BadCount")) false, kitB2 K "BadMoment" (.ref (He.ga K "BadAction")) false, kitB2 K "BadMoment" (.ref (He.ga K "BadMoment")) true, kitB2 K "BadMoment" (.ref (He.ga K "NothingToUndo")) false, kitB2 K "BadMoment" (.ref (He.ga K "NotComparable")) false, kitB2 K "BadMoment" (.ref (He.ga K "BadRule")) false, kitB2 K "BadMoment" (.ref (He.ga K "BadLine")) false, kitB2 K "BadMoment" (.type "ValueError") true, kindB K "BadMoment", kitB2 K "NothingToUndo" (.ref (He.ga K "BadCount")) false, kitB2 K "NothingToUndo" (.ref (He.ga K "BadAction")) false, kitB2 K "NothingToUndo" (.ref (He.ga K "BadMoment")) false, kitB2 K "NothingToUndo" (.ref (He.ga K "NothingToUndo")) true, kitB2 K "NothingToUndo" (.ref (He.ga K "NotComparable")) false, kitB2 K "NothingToUndo" (.ref (He.ga K "BadRule")) false, kitB2 K "NothingToUndo" (.ref (He.ga K "BadLine")) false, kitB2 K "NothingToUndo" (.type "ValueError") true, kindB K "NothingToUndo", kitB2 K "NotComparable" (.ref (He.ga K "BadCount")) false, kitB2 K "NotComparable" (.ref (He.ga K "BadAction")) false, kitB2 K "NotComparable" (.ref (He.ga K "BadMoment")) false, kitB2 K "NotComparable" (.ref (He.ga K "NothingToUndo")) false, kitB2 K "NotComparable" (.ref (He.ga K "NotComparable")) true, kitB2 K "NotComparable" (.ref (He.ga K "BadRule")) false, kitB2 K "NotComparable" (.ref (He.ga K "BadLine")) false, kitB2 K "NotComparable" (.type "ValueError") true, kindB K "NotComparable", kitB2 K "BadLine" (.ref (He.ga K "BadCount")) false, kitB2 K "BadLine" (.ref (He.ga K "BadAction")) false, kitB2 K "BadLine" (.ref (He.ga K "BadMoment")) false, kitB2 K "BadLine" (.ref (He.ga K "NothingToUndo")) false, kitB2 K "BadLine" (.ref (He.ga K "NotComparable")) false, kitB2 K "BadLine" (.ref (He.ga K "BadRule")) false, kitB2 K "BadLine" (.ref (He.ga K "BadLine")) true, kitB2 K "BadLine" (.type "ValueError") true, kindB K "BadLine"]
abbrev R : PySem.W.OpenRow := PySem.W.OpenLaw.row PySem.Challenge.rw_trylocks_k15_errors_are_apart
abbrev exK (K : PySem.W.Frag) : Bool := (ex K).all id
abbrev hk : PySem.W.Hook := hookP 6 fa fn [] [("step", none)] exK gs
def ob (s : PySem.W.SharedT) : He.AlX × List He.FnW := obsP 6 fa fn [] [("step", none)] exK gs (HandSHeadRun.getT s)
theorem ob_eq (s : PySem.W.SharedT) : ob s = hk.obs s.abs := obsP_eq (HandSHeadRun.getT_eq s)
def loose : List PySem.Str := ((["_wall", "LockError", "BadCount", "BadAction", "BadMoment", "NothingToUndo", "NotComparable", "BadRule", "BadLine", "KEYS", "MOST_RULES", "is_number", "is_rule", "Book", "actions_of", "is_action", "check_actions", "NEW", "FACTORS", "pairs_of", "keys_of", "first_standing", "is_at", "left_at", "is_locked", "passed", "idle", "begun", "kept_part", "let_part"] : List PySem.Str) ++ (["changed", "step", "parting", "alike", "Door", "FIGURES", "WORDS", "rule_line", "number_of", "rule_of", "read", "_law_begin", "_law_draw", "_law_raise", "_law_kinds"] : List PySem.Str))
theorem run (w : World) : HandSHeadRun.RunEq R (PySem.W.view R.prog [52]) hk ob 4000 loose w := by
  intro os
  kernel_rfl
theorem facts {w : World} {K : PySem.W.Frag} {h : Heap} {mg : Str → Option Value} (KX : K.In h) (G : h.Ns mainGlobals mg) (c : He.SaysX fa fn [] [("step", none)] exK w h K) (GP : ∀ d ∈ gs, He5.fnA K (d.at_ K) = d.val) : Zf K mg := by
  have D : He.SaysD fa fn K := c.t.d
  have EX : (ex K).all id = true := c.more
  exact {
    d_BadRule_init := D.def_ 0,
    o_BadRule := oexB_ok (exAt EX 0),
    g_BadRule := He.glo_ok KX G (D.fact 0),
    xi_BadRule := xinB_ok (exAt EX 1),
    n_BadRule_index := He.noat_ok (D.fact 1),
    d_BadLine_init := D.def_ 1,
    o_BadLine := oexB_ok (exAt EX 2),
    g_BadLine := He.glo_ok KX G (D.fact 2),
    xi_BadLine := xinB_ok (exAt EX 3),
    n_BadLine_line := He.noat_ok (D.fact 3),
    f_int := He.free_ok KX G (D.fact 4),
    f_isinstance := He.free_ok KX G (D.fact 5),
    f_bool := He.free_ok KX G (D.fact 6),
    d_is_number := D.def_ 2,
    g_is_number := He.glo_ok KX G (D.fact 7),
    f_tuple := He.free_ok KX G (D.fact 8),
    f_len := He.free_ok KX G (D.fact 9),
    f_str := He.free_ok KX G (D.fact 10),
    k_KEYS := cst_tup (He.glo_ok KX G (D.fact 11)) (exAt EX 4),
    f_all := He.free_ok KX G (D.fact 12),
    d_is_rule := D.def_ 3,
    g_is_rule := He.glo_ok KX G (D.fact 13),
    k_MOST_RULES := cst_int (He.int_ok KX G (D.fact 14)),
    f_enumerate := He.free_ok KX G (D.fact 15),
    g_BadCount := He.glo_ok KX G (D.fact 16),
    x_BadCount := excF_ok (He.exc_ok (D.fact 17)) (He.glo_ok KX G (D.fact 16)),
    c_Book := He.cls_ok (D.fact 18),
    n_Book_rules := He.noat_ok (D.fact 19),
    n_Book_accounts := He.noat_ok (D.fact 20),
    n_Book_places := He.noat_ok (D.fact 21),
    d_Book_init := D.def_ 4,
    g_Book := He.glo_ok KX G (D.fact 22),
    mk_Book := He.mkr_ok (D.fact 23),
    f_range := He.free_ok KX G (D.fact 24),
    d_actions_of := D.def_ 5,
    g_actions_of := He.glo_ok KX G (D.fact 25),
    d_is_action := D.def_ 6,
    g_is_action := He.glo_ok KX G (D.fact 26),
    g_BadAction := He.glo_ok KX G (D.fact 27),
    x_BadAction := excF_ok (He.exc_ok (D.fact 28)) (He.glo_ok KX G (D.fact 27)),
    d_check_actions := D.def_ 7,
    g_check_actions := He.glo_ok KX G (D.fact 29),
    d_pairs_of := D.def_ 8,
    g_pairs_of := He.glo_ok KX G (D.fact 30),
    d_keys_of := D.def_ 9,
    g_keys_of := He.glo_ok KX G (D.fact 31),
    k_NEW := cst_tup (He.glo_ok KX G (D.fact 32)) (exAt EX 5),
    d_first_standing := D.def_ 10,
    g_first_standing := He.glo_ok KX G (D.fact 33),
    d_is_at := D.def_ 11,
    g_is_at := He.glo_ok KX G (D.fact 34),
    f_zip := He.free_ok KX G (D.fact 35),
    d_left_at := D.def_ 12,
    g_left_at := He.glo_ok KX G (D.fact 36),
    f_any := He.free_ok KX G (D.fact 37),
    d_is_locked := D.def_ 13,
    g_is_locked := He.glo_ok KX G (D.fact 38),
    f_max := He.free_ok KX G (D.fact 39),
    d_passed := D.def_ 14,
    g_passed := He.glo_ok KX G (D.fact 40),
    d_idle := D.def_ 15,
    g_idle := He.glo_ok KX G (D.fact 41),
    k_FACTORS := cst_tup (He.glo_ok KX G (D.fact 42)) (exAt EX 6),
    f_min := He.free_ok KX G (D.fact 43),
    d_begun := D.def_ 16,
    g_begun := He.glo_ok KX G (D.fact 44),
    d_kept_part := D.def_ 17,
    g_kept_part := He.glo_ok KX G (D.fact 45),
    d_let_part := D.def_ 18,
    g_let_part := He.glo_ok KX G (D.fact 46),
    d_changed := D.def_ 19,
    g_changed := He.glo_ok KX G (D.fact 47),
    v_kept_part := ⟨.ref (He.ga K "kept_part"), _, He.glo_ok KX G (D.fact 45), rfl, fun _ _ => .gl _⟩,
    v_let_part := ⟨.ref (He.ga K "let_part"), _, He.glo_ok KX G (D.fact 46), rfl, fun _ _ => .gl _⟩,
    v_begun := ⟨.ref (He.ga K "begun"), _, He.glo_ok KX G (D.fact 44), rfl, fun _ _ => .gl _⟩,
    d_step := D.def_ 20,
    g_step := He.glo_ok KX G (D.fact 48),
    g_NotComparable := He.glo_ok KX G (D.fact 49),
    x_NotComparable := excF_ok (He.exc_ok (D.fact 50)) (He.glo_ok KX G (D.fact 49)),
    f_list := He.free_ok KX G (D.fact 51),
    d_parting := D.def_ 21,
    g_parting := He.glo_ok KX G (D.fact 52),
    d_alike := D.def_ 22,
    g_alike := He.glo_ok KX G (D.fact 53),
    c_Door := He.cls_ok (D.fact 54),
    n_Door_book := He.noat_ok (D.fact 55),
    n_Door_rows := He.noat_ok (D.fact 56),
    n_Door_standings := He.noat_ok (D.fact 57),
    d_Door_init := D.def_ 23,
    g_Door := He.glo_ok KX G (D.fact 58),
    mk_Door := He.mkr_ok (D.fact 59),
    d_Door_now := He5.DefA.funD (d := g_Door_now) (GP _ (by simp [gs])) (exAt EX 7),
    pr_Door_now := propB_ok (exAt EX 8),
    g_BadMoment := He.glo_ok KX G (D.fact 60),
    x_BadMoment := excF_ok (He.exc_ok (D.fact 61)) (He.glo_ok KX G (D.fact 60)),
    d_Door_at := D.def_ 24,
    me_Door_at := He.meth_ok (D.fact 62),
    d_Door_act := D.def_ 25,
    me_Door_act := He.meth_ok (D.fact 63),
    g_NothingToUndo := He.glo_ok KX G (D.fact 64),
    x_NothingToUndo := excF_ok (He.exc_ok (D.fact 65)) (He.glo_ok KX G (D.fact 64)),
    d_Door_undo := D.def_ 26,
    me_Door_undo := He.meth_ok (D.fact 66),
    k_WORDS := cst_tup (He.glo_ok KX G (D.fact 67)) (exAt EX 9),
    d_rule_line := D.def_ 27,
    g_rule_line := He.glo_ok KX G (D.fact 68),
    k_FIGURES := cst_str (He.str_ok KX G (D.fact 69)),
    d_number_of := D.def_ 28,
    g_number_of := He.glo_ok KX G (D.fact 70),
    d_rule_of := D.def_ 29,
    g_rule_of := He.glo_ok KX G (D.fact 71),
    t_BadLine_LockError := exAt EX 10,
    t_NotComparable_LockError := exAt EX 11,
    t_NothingToUndo_LockError := exAt EX 12,
    t_BadMoment_LockError := exAt EX 13,
    t_BadAction_LockError := exAt EX 14,
    t_BadCount_LockError := exAt EX 15,
    t_BadRule_LockError := exAt EX 16,
    g_LockError := He.glo_ok KX G (D.fact 72),
    d_read := D.def_ 30,
    g_read := He.glo_ok KX G (D.fact 73),
    d__law_begin := D.def_ 31,
    g__law_begin := He.glo_ok KX G (D.fact 74),
    d__law_draw := D.def_ 32,
    g__law_draw := He.glo_ok KX G (D.fact 75),
    d__law_raise := D.def_ 33,
    g__law_raise := He.glo_ok KX G (D.fact 76),
    d__law_kinds := D.def_ 34,
    g__law_kinds := He.glo_ok KX G (D.fact 77),
    f_ValueError := He.free_ok KX G (D.fact 78),
    kk_BadRule_BadCount := exAt EX 17,
    kk_BadRule_BadAction := exAt EX 18,
    kk_BadRule_BadMoment := exAt EX 19,
    kk_BadRule_NothingToUndo := exAt EX 20,
    kk_BadRule_NotComparable := exAt EX 21,
    kk_BadRule_BadRule := exAt EX 22,
    kk_BadRule_BadLine := exAt EX 23,
    kk_BadRule_ValueError := exAt EX 24,
    kc_BadRule := exAt EX 25,
    kk_BadCount_BadCount := exAt EX 26,
    kk_BadCount_BadAction := exAt EX 27,
    kk_BadCount_BadMoment := exAt EX 28,
    kk_BadCount_NothingToUndo := exAt EX 29,
    kk_BadCount_NotComparable := exAt EX 30,
    kk_BadCount_BadRule := exAt EX 31,
    kk_BadCount_BadLine := exAt EX 32,
    kk_BadCount_ValueError := exAt EX 33,
    kc_BadCount := exAt EX 34,
    kk_BadAction_BadCount := exAt EX 35,
    kk_BadAction_BadAction := exAt EX 36,
    kk_BadAction_BadMoment := exAt EX 37,
    kk_BadAction_NothingToUndo := exAt EX 38,
    kk_BadAction_NotComparable := exAt EX 39,
    kk_BadAction_BadRule := exAt EX 40,
    kk_BadAction_BadLine := exAt EX 41,
    kk_BadAction_ValueError := exAt EX 42,
    kc_BadAction := exAt EX 43,
    kk_BadMoment_BadCount := exAt EX 44,
    kk_BadMoment_BadAction := exAt EX 45,
    kk_BadMoment_BadMoment := exAt EX 46,
    kk_BadMoment_NothingToUndo := exAt EX 47,
    kk_BadMoment_NotComparable := exAt EX 48,
    kk_BadMoment_BadRule := exAt EX 49,
    kk_BadMoment_BadLine := exAt EX 50,
    kk_BadMoment_ValueError := exAt EX 51,
    kc_BadMoment := exAt EX 52,
    kk_NothingToUndo_BadCount := exAt EX 53,
    kk_NothingToUndo_BadAction := exAt EX 54,
    kk_NothingToUndo_BadMoment := exAt EX 55,
    kk_NothingToUndo_NothingToUndo := exAt EX 56,
    kk_NothingToUndo_NotComparable := exAt EX 57,
    kk_NothingToUndo_BadRule := exAt EX 58,
    kk_NothingToUndo_BadLine := exAt EX 59,
    kk_NothingToUndo_ValueError := exAt EX 60,
    kc_NothingToUndo := exAt EX 61,
    kk_NotComparable_BadCount := exAt EX 62,
    kk_NotComparable_BadAction := exAt EX 63,
    kk_NotComparable_BadMoment := exAt EX 64,
    kk_NotComparable_NothingToUndo := exAt EX 65,
    kk_NotComparable_NotComparable := exAt EX 66,
    kk_NotComparable_BadRule := exAt EX 67,
    kk_NotComparable_BadLine := exAt EX 68,
    kk_NotComparable_ValueError := exAt EX 69,
    kc_NotComparable := exAt EX 70,
    kk_BadLine_BadCount := exAt EX 71,
    kk_BadLine_BadAction := exAt EX 72,
    kk_BadLine_BadMoment := exAt EX 73,
    kk_BadLine_NothingToUndo := exAt EX 74,
    kk_BadLine_NotComparable := exAt EX 75,
    kk_BadLine_BadRule := exAt EX 76,
    kk_BadLine_BadLine := exAt EX 77,
    kk_BadLine_ValueError := exAt EX 78,
    kc_BadLine := exAt EX 79,
    d_law := D.def_ 35,
    g_law := He.glo_ok KX G (D.fact 79)
  }
end K15
namespace SH
open PySem PySem.Spec PyProof.Rows L2 MM
/-! ### draws, rules, books -/
theorem draw {S : Sto} {n : Nat} {many : Int} (h : DrwAt S n) (h0 : 0 < many) (h1 : many < 1073741824) : ∃ (v : Int) (c : Cell), m__law_draw [.loc n, .d (.int many)] S = some (.ok (.d (.int v)), S.set n c) ∧ 0 ≤ v ∧ v < many ∧ DrwAt (S.set n c) n := draw_ok h h0 h1
theorem flag {S : Sto} {n : Nat} (h : DrwAt S n) : ∃ (b : Bool) (c : Cell), m__law_flag [.loc n] S = some (.ok (.d (.bl b)), S.set n c) ∧ DrwAt (S.set n c) n := by
  obtain ⟨v, c, e, _, _, h'⟩ := draw (many := 2) h (by decide) (by decide)
  refine ⟨decide (v = 1), c, ?_, h'⟩
  unfold m__law_flag b__law_flag
  rw [funM_ap, if_pos (by simp)]
  simp [frame0, e]
inductive KK where
  | acc | pla | both
  deriving DecidableEq, Inhabited
def KK.s : KK → Str
  | .acc => "account"
  | .pla => "place"
  | .both => "both"
structure Rule where
  key : KK
  most : Int
  lock : Int
  fade : Int
  clears : Bool
  grows : Bool
  strict : Bool
  deriving DecidableEq, Inhabited
structure Rule.Ok (r : Rule) : Prop where
  m0 : 1 ≤ r.most
  m1 : r.most ≤ 3
  l0 : 1 ≤ r.lock
  l1 : r.lock ≤ 4
  f0 : 0 ≤ r.fade
  f1 : r.fade ≤ 5
def Rule.d (r : Rule) : D := .tup [.str r.key.s, .int r.most, .int r.lock, .int r.fade, .bl r.clears, .bl r.grows, .bl r.strict]
theorem three {v : Int} (h0 : 0 ≤ v) (h1 : v < 3) : v = 0 ∨ v = 1 ∨ v = 2 := by omega
theorem five {v : Int} (h0 : 0 ≤ v) (h1 : v < 5) : v = 0 ∨ v = 1 ∨ v = 2 ∨ v = 3 ∨ v = 4 := by omega
theorem rule {S : Sto} {n : Nat} (h : DrwAt S n) : ∃ (r : Rule) (c : Cell), m__law_rule [.loc n] S = some (.ok (.d r.d), S.set n c) ∧ r.Ok ∧ DrwAt (S.set n c) n := by
  obtain ⟨v1, c1, e1, a1, b1, h1⟩ := draw (many := 3) h (by decide) (by decide)
  obtain ⟨v2, c2, e2, a2, b2, h2⟩ := draw (many := 3) h1 (by decide) (by decide)
  obtain ⟨v3, c3, e3, a3, b3, h3⟩ := draw (many := 4) h2 (by decide) (by decide)
  obtain ⟨v4, c4, e4, a4, b4, h4⟩ := draw (many := 5) h3 (by decide) (by decide)
  obtain ⟨f1, c5, e5, h5⟩ := flag h4
  obtain ⟨f2, c6, e6, h6⟩ := flag h5
  obtain ⟨f3, c7, e7, h7⟩ := flag h6
  obtain ⟨k, hk⟩ : ∃ k : KK, atI [D.str "account", .str "place", .str "both"] v1 = some (.str k.s) := by
    rcases three a1 b1 with rfl | rfl | rfl
    · exact ⟨.acc, rfl⟩
    · exact ⟨.pla, rfl⟩
    · exact ⟨.both, rfl⟩
  obtain ⟨fd, hf, gf⟩ : ∃ k : Int, atI [D.int 0, .int 1, .int 2, .int 3, .int 5] v4 = some (.int k) ∧ 0 ≤ k ∧ k ≤ 5 := by
    rcases five a4 b4 with rfl | rfl | rfl | rfl | rfl
    · exact ⟨0, rfl, by decide, by decide⟩
    · exact ⟨1, rfl, by decide, by decide⟩
    · exact ⟨2, rfl, by decide, by decide⟩
    · exact ⟨3, rfl, by decide, by decide⟩
    · exact ⟨5, rfl, by decide, by decide⟩
  refine ⟨⟨k, 1 + v2, 1 + v3, fd, f1, f2, f3⟩, c7, ?_, ⟨by show 1 ≤ 1 + v2; omega, by show 1 + v2 ≤ 3; omega, by show 1 ≤ 1 + v3; omega, by show 1 + v3 ≤ 4; omega, gf.1, gf.2⟩, by simpa [List.set_set] using h7⟩
  simp only [List.set_set] at e1 e2 e3 e4 e5 e6 e7
  unfold m__law_rule b__law_rule
  rw [funM_ap, if_pos (by simp)]
  have z5 : (5 : Nat) ≤ sizeLine := by decide
  have z3 : (3 : Nat) ≤ sizeLine := by decide
  have z7 : (7 : Nat) ≤ sizeLine := by decide
  simp [frame0, e1, e2, e3, e4, e5, e6, e7, hk, hf, z3, z5, z7, Rule.d]
def Sizes (a p : Int) : Prop := (a = 1 ∧ p = 1) ∨ (a = 2 ∧ p = 1) ∨ (a = 1 ∧ p = 2)
theorem Sizes.b {a p : Int} (h : Sizes a p) : (1 ≤ a ∧ a ≤ 2) ∧ (1 ≤ p ∧ p ≤ 2) ∧ ¬ (2 < a * p) ∧ CMul a p := by
  rcases h with ⟨rfl, rfl⟩ | ⟨rfl, rfl⟩ | ⟨rfl, rfl⟩ <;> decide
def rulesD (rs : List Rule) : List D := rs.map Rule.d
theorem rules {S : Sto} {n : Nat} {m : Int} (h : DrwAt S n) (hm : 0 ≤ m ∧ m ≤ 3) : ∃ (rs : List Rule) (c : Cell), m__law_rules [.loc n, .d (.int m)] S = some (.ok (.d (.lst (rulesD rs))), S.set n c) ∧ (∀ r ∈ rs, r.Ok) ∧ (rs.length : Int) ≤ m ∧ DrwAt (S.set n c) n := by
  obtain ⟨v, c, e, a1, b1, h1⟩ := draw (many := m + 1) h (by omega) (by omega)
  have hl : (rngL 0 v.toNat).length = v.toNat := by simp [rngL]
  obtain ⟨res, S', k1, ⟨c', rs, k2, k2', k3, k5, k6⟩, k4⟩ := lc_inv (ρ := [some (.r (.loc n)), some (.r (.d (.int m))), none]) (vs := [2]) (t := nameT 2) (te := callN 1 m__law_rule (consA (varM 0) nilA))
    (fun acc S1 => ∃ (c : Cell) (rs : List Rule), S1 = S.set n c ∧ DrwAt S1 n ∧ (∀ r ∈ rs, r.Ok) ∧ acc = rulesD rs ∧ True) (rngL 0 v.toNat) [] (S.set n c) ⟨c, [], rfl, h1, by simp, rfl, trivial⟩ (by rw [hl]; show 0 + v.toNat ≤ 16777216; omega)
    (fun d hd acc S1 ⟨c1, rs, q1, q2, q3, q4, _⟩ => by
      obtain ⟨r, c2, e2, g2, h2⟩ := rule q2
      refine ⟨_, r.d, _, by simp; rfl, by simp [e2], c2, rs ++ [r], by rw [q1, List.set_set], h2, fun x hx => ?_, by rw [q4]; simp [rulesD], trivial⟩
      rcases List.mem_append.mp hx with hx | hx
      · exact q3 x hx
      · rw [List.mem_singleton.mp hx]; exact g2)
  refine ⟨rs, c', ?_, k3, ?_, by rw [← k2]; exact k2'⟩
  · unfold m__law_rules b__law_rules
    rw [funM_ap, if_pos (by simp)]
    have hr : -(2 ^ 62) ≤ v ∧ v < 2 ^ 62 := by omega
    have hr2 : (-4611686018427387904 : Int) ≤ v := by omega
    have hr3 : v < 4611686018427387904 := by omega
    simp [frame0, e, hr2, hr3, k1, k2, k5]
  · have k4 : res.length = _ := k4
    rw [k5, hl] at k4
    simp [rulesD] at k4
    omega
@[simp] theorem isi_int_int {i : Int} : isiF [.int i, .ty "int"] = some (.bl true) := rfl
@[simp] theorem isi_int_bool {i : Int} : isiF [.int i, .ty "bool"] = some (.bl false) := rfl
@[simp] theorem isi_tup {ds : List D} : isiF [.tup ds, .ty "tuple"] = some (.bl true) := rfl
@[simp] theorem isi_str {x : Str} : isiF [.str x, .ty "str"] = some (.bl true) := rfl
@[simp] theorem isi_bl {x : Bool} : isiF [.bl x, .ty "bool"] = some (.bl true) := rfl
theorem num {v a b : Int} {S : Sto} : m_is_number [.d (.int v), .d (.int a), .d (.int b)] S = some (.ok (.d (.bl (decide (a ≤ v ∧ v ≤ b)))), S) := by
  unfold m_is_number b_is_number
  rw [funM_ap, if_pos (by simp)]
  by_cases h1 : a ≤ v <;> simp [frame0, h1]
theorem cut4 {a b c d e f g : D} : cutD [a, b, c, d, e, f, g] (some 4) none = [e, f, g] := rfl
@[simp] theorem slD_tup {ds : List D} {lo hi : Option Int} : slD (.tup ds) lo hi = some (.tup (cutD ds lo hi)) := rfl
@[simp] theorem slD_lst {ds : List D} {lo hi : Option Int} : slD (.lst ds) lo hi = some (.lst (cutD ds lo hi)) := rfl
theorem inkey {k : KK} : inB (.str k.s) (.tup [.str "account", .str "place", .str "both"]) = some true := by
  cases k <;> decide +kernel
@[simp] theorem allF_bls {bs : List D} {l : List Bool} (h : blsOf bs = some l) : allF [.lst bs] = some (.bl (l.all id)) := by
  show (blsOf bs).map _ = _
  rw [h]; rfl
theorem is_rule {r : Rule} {S : Sto} (h : r.Ok) : m_is_rule [.d r.d] S = some (.ok (.d (.bl true)), S) := by
  unfold m_is_rule b_is_rule
  rw [funM_ap, if_pos (by simp)]
  have z0 : (0 : Nat) < sizeLine := by decide
  have z1 : (1 : Nat) < sizeLine := by decide
  have z2 : (2 : Nat) < sizeLine := by decide
  simp [frame0, Rule.d, inkey, num, h.m0, h.m1, h.l0, h.l1, h.f0, h.f1, cut4, lcL_cons, z0, z1, z2]
  rfl
/-- what Book(..) makes -/
def bookD (rs : List Rule) (a p : Int) : D := .obj "Book" [("rules", .tup (rulesD rs)), ("accounts", .int a), ("places", .int p)]
theorem loop_rules {rs : List Rule} (h : ∀ r ∈ rs, r.Ok) {ρ : Fr} {S : Sto} (hl : ρ.length = 6) : ∃ ρ', loopM (tupT [nameT 4, nameT 5]) (ifM (notT (truM (callN 1 m_is_rule (consA (varM 5) (nilA))))) (raise1M "BadRule" "index" (varM 4)) (nxM)) (enumL (rulesD rs)) ρ S = some (.nx, ρ', S) ∧ ρ'.length = 6 ∧ ∀ i, i < 4 → ρ'[i]? = ρ[i]? := by
  obtain ⟨ρ', S', h1, h2, h3, h4⟩ := loop_inv0 (t := tupT [nameT 4, nameT 5]) (body := ifM (notT (truM (callN 1 m_is_rule (consA (varM 5) (nilA))))) (raise1M "BadRule" "index" (varM 4)) (nxM)) (fun _ ρ1 S1 => S1 = S ∧ ρ1.length = 6 ∧ ∀ i, i < 4 → ρ1[i]? = ρ[i]?) (enumL (rulesD rs)) (ρ := ρ) (S := S) ⟨rfl, hl, fun _ _ => rfl⟩ (by
    rintro i d ρ1 S1 hd ⟨rfl, g1, g2⟩
    obtain ⟨r, hr, rfl⟩ : ∃ r, r ∈ rs ∧ d = .tup [.int (i : Int), r.d] := by
      unfold enumL at hd
      rw [List.getElem?_mapIdx] at hd
      obtain ⟨r, q1, rfl⟩ := Option.map_eq_some_iff.mp hd
      obtain ⟨r', hr', rfl⟩ := List.mem_map.mp (List.mem_of_getElem? q1)
      exact ⟨r', hr', rfl⟩
    refine ⟨(ρ1.set 4 (some (.r (.d (.int i))))).set 5 (some (.r (.d r.d))), by simp [g1], (ρ1.set 4 (some (.r (.d (.int i))))).set 5 (some (.r (.d r.d))), S1, .inl ?_, rfl, by simp [g1], fun j hj => ?_⟩
    · have e5 : ((ρ1.set 4 (some (Ent.r (R.d (D.int i))))).set 5 (some (Ent.r (R.d r.d))))[5]? = some (some (.r (.d r.d))) := List.getElem?_set_self (by simp [g1])
      simp [e5, is_rule (h r hr)]
    · rw [List.getElem?_set_ne (by omega), List.getElem?_set_ne (by omega)]; exact g2 j hj)
  subst h2
  exact ⟨ρ', h1, h3, h4⟩
theorem initX {rs : List Rule} {a p : Int} {S : Sto} {X : D} (hX : X = .lst (rulesD rs) ∨ X = .tup (rulesD rs)) (h : ∀ r ∈ rs, r.Ok) (hl : rs.length ≤ 3) (hs : Sizes a p) : m_Book_init [.loc S.length, .d X, .d (.int a), .d (.int p)] (S ++ [.ins "Book" []]) = some (.ok (.d .non), S ++ [.ins "Book" [("rules", .d (.tup (rulesD rs))), ("accounts", .d (.int a)), ("places", .d (.int p))]]) := by
  obtain ⟨h1, h2, h3, h4⟩ := hs.b
  unfold m_Book_init b_Book_init
  rw [funM_ap, if_pos (by simp)]
  have hl' : ¬ (3 : Int) < ((rulesD rs).length : Int) := by simp [rulesD]; omega
  obtain ⟨ρ', e1, e2, e3⟩ := loop_rules (S := S ++ [.ins "Book" []]) h (ρ := [some (.r (.loc S.length)), some (.r (.d X)), some (.r (.d (.int a))), some (.r (.d (.int p))), none, none]) rfl
  have r0 := e3 0 (by decide)
  have r1 := e3 1 (by decide)
  have r2 := e3 2 (by decide)
  have r3 := e3 3 (by decide)
  simp at r0 r1 r2 r3
  rcases hX with rfl | rfl
  · simp [frame0, hl', e1, r0, r1, r2, r3, num, h1, h2, h3, h4, putR]
    rfl
  · simp [frame0, hl', e1, r0, r1, r2, r3, num, h1, h2, h3, h4, putR]
    rfl
theorem init {rs : List Rule} {a p : Int} {S : Sto} (h : ∀ r ∈ rs, r.Ok) (hl : rs.length ≤ 3) (hs : Sizes a p) : m_Book_init [.loc S.length, .d (.lst (rulesD rs)), .d (.int a), .d (.int p)] (S ++ [.ins "Book" []]) = some (.ok (.d .non), S ++ [.ins "Book" [("rules", .d (.tup (rulesD rs))), ("accounts", .d (.int a)), ("places", .d (.int p))]]) := initX (.inl rfl) h hl hs
theorem make {rs : List Rule} {a p : Int} {S : Sto} (h : ∀ r ∈ rs, r.Ok) (hl : rs.length ≤ 3) (hs : Sizes a p) {ms : AM} {ρ : Fr} {S0 : Sto} (e : ms ρ S0 = some (.ok [.d (.lst (rulesD rs)), .d (.int a), .d (.int p)], S)) :
    frzM (makeM "Book" 4 m_Book_init ms) ρ S0 = some (.ok (.d (bookD rs a p)), S ++ [.frz (bookD rs a p)]) := by
  simp [e, init h hl hs, bookD]
end SH
namespace SH
open PySem PySem.Spec PyProof.Rows L2 MM
/-! ### simp rows for lambdas, dicts, pairs -/
section
variable {ρ : Fr} {S : Sto} {me mo mi mf : EM} {ms : AM} {i j n t : Nat}
@[simp] theorem augM_ap {f : Int → Int → Int} : augM f i me ρ S = match ρ[i]? with
  | some (some (.r (.d (.int a)))) => thenM me (fun r => fun ρ S => match r with
    | .d (.int b) => if i < ρ.length then some (.nx, ρ.set i (some (.r (.d (.int (f a b))))), S) else none
    | _ => none) ρ S
  | _ => none := rfl
@[simp] theorem parM_ap : parM i j ms ρ S = thenM ms (fun rs => fun ρ S => match rs with
  | [a, b] => if (closedR a = true ∧ i < ρ.length) ∧ (closedR b = true ∧ j < ρ.length) then some (.nx, (ρ.set i (some (.r a))).set j (some (.r b)), S) else none
  | _ => none) ρ S := rfl
@[simp] theorem callL_ap {tb : D → Option FM} : callL i n tb ms ρ S = match ρ[i]? with
  | some (some (.r (.d d))) => match tb d with
    | some g => callN n g ms ρ S
    | none => none
  | _ => none := rfl
@[simp] theorem nilC_ap : nilC ρ S = some (.ok [], S) := rfl
@[simp] theorem consC_ap {m : GM CA} {ms : GM (List CA)} : consC m ms ρ S = bindM m (fun a => bindM ms fun as => pureM (a :: as)) ρ S := rfl
@[simp] theorem pureM_ap {α : Type} {a : α} : pureM a ρ S = some (.ok a, S) := rfl
@[simp] theorem exC_ap : exC me ρ S = bindM me (fun r => fun _ S => if okC r = true then some (.ok (.r r), S) else none) ρ S := rfl
@[simp] theorem lamC_ap {x : Str} {js : List Nat} : lamC t n x js ρ S = match S[n]? with
  | some (.tab y) => if y = x then (match capsAt ρ js with
    | some ds => some (.ok (.lam t ds), S)
    | none => none) else none
  | _ => none := rfl
@[simp] theorem callC_ap {T : GTab} {g : (D → Option FM) → FM} {m : GM (List CA)} : callC T n g m ρ S = bindM m (fun as => fun _ S => if as.length = n then callRes T g as S else none) ρ S := rfl
@[simp] theorem iZipXM_ap : iZipXM ms ρ S = bindM ms zipXR ρ S := rfl
@[simp] theorem lc2M_ap {mi mi1 : NM} {vs vs1 : List Nat} {t t1 : TgM} {tt tt1 : TM} {te : EM} : lc2M mi vs vs1 t tt mi1 t1 tt1 te ρ S = bindM mi (fun ds => lc2L vs vs1 t tt mi1 t1 tt1 te ds []) ρ S := rfl
@[simp] theorem allocM_ap {c : Cell} : allocM c ρ S = some (.ok (.loc S.length), S ++ [c]) := rfl
@[simp] theorem dget2M_ap : dget2M mo mi mf ρ S = bindM (bindM mo isDct) (fun a => bindM mi fun b => bindM mf fun c => get2R a b c) ρ S := rfl
@[simp] theorem maxF_int {a b : Int} : maxF [.int a, .int b] = some (.int (if b > a then b else a)) := rfl
@[simp] theorem minF_int {a b : Int} : minF [.int a, .int b] = some (.int (if b < a then b else a)) := rfl
@[simp] theorem negD_int {a : Int} : negD (.int a) = some (.int (-a)) := rfl
@[simp] theorem okC_d {d : D} : okC (.d d) = notClo (.d d) := by unfold okC; simp
end
@[simp] theorem atI_4 {α : Type} {a b c d e : α} {l : List α} : atI (a :: b :: c :: d :: e :: l) 4 = some e := by
  unfold atI ixN
  rw [if_pos (by decide), if_pos (by simp; omega)]; rfl
@[simp] theorem atI_5 {α : Type} {a b c d e f : α} {l : List α} : atI (a :: b :: c :: d :: e :: f :: l) 5 = some f := by
  unfold atI ixN
  rw [if_pos (by decide), if_pos (by simp; omega)]; rfl
@[simp] theorem atI_6 {α : Type} {a b c d e f g : α} {l : List α} : atI (a :: b :: c :: d :: e :: f :: g :: l) 6 = some g := by
  unfold atI ixN
  rw [if_pos (by decide), if_pos (by simp; omega)]; rfl
/-! ### parts -/
structure Part where
  count : Int
  age : Int
  left : Int
  whole : Int
  streak : Int
  deriving DecidableEq, Inhabited
def Part.d (p : Part) : D := .tup [.int p.count, .int p.age, .int p.left, .int p.whole, .int p.streak]
def Part.new : Part := ⟨0, 0, 0, 0, 0⟩
def faded (r : Rule) (p : Part) (n : Int) : Prop := r.fade ≠ 0 ∧ p.count ≠ 0 ∧ r.fade ≤ p.age + n
instance (r : Rule) (p : Part) (n : Int) : Decidable (faded r p n) := by unfold faded; infer_instance
def passedP (r : Rule) (p : Part) (n : Int) : Part :=
  { count := if faded r p n then 0 else p.count
    age := if faded r p n then 0 else if r.fade ≠ 0 ∧ p.count ≠ 0 then p.age + n else p.age
    left := if p.left - n < 0 then 0 else p.left - n
    whole := if p.left - n ≤ 0 then 0 else p.whole
    streak := p.streak }
theorem z5 : (5 : Nat) ≤ sizeLine := by decide
theorem z4 : (4 : Nat) ≤ sizeLine := by decide
theorem z3 : (3 : Nat) ≤ sizeLine := by decide
theorem z2 : (2 : Nat) ≤ sizeLine := by decide
theorem z1 : (1 : Nat) ≤ sizeLine := by decide
theorem z7 : (7 : Nat) ≤ sizeLine := by decide
theorem passed {r : Rule} {p : Part} {n : Int} {S : Sto} : m_passed [.d r.d, .d p.d, .d (.int n)] S = some (.ok (.d (passedP r p n).d), S) := by
  unfold m_passed b_passed
  rw [funM_ap, if_pos (by simp)]
  obtain ⟨c, a, l, w, s⟩ := p
  have hl : (if l - n < 0 then (0 : Int) else l - n) = 0 ↔ l - n ≤ 0 := by split <;> omega
  by_cases h1 : r.fade = 0 <;> by_cases h2 : c = 0 <;> by_cases h3 : r.fade ≤ a + n <;> by_cases h4 : l - n ≤ 0 <;>
    simp [frame0, Rule.d, Part.d, passedP, faded, h1, h2, h3, h4, z5, z2, hl]
def fac (s : Int) : Int := if s = 0 then 1 else if s = 1 then 2 else 4
def begunP (r : Rule) (p : Part) : Part :=
  if p.count + 1 < r.most then passedP r ⟨p.count + 1, 0, 0, 0, p.streak⟩ 1
  else ⟨0, 0, r.lock * (if r.grows = true then fac p.streak else 1), r.lock * (if r.grows = true then fac p.streak else 1), if r.grows = true then (if 2 < p.streak + 1 then 2 else p.streak + 1) else 0⟩
theorem cmul_small {a b : Int} (h : b = 1 ∨ b = 2 ∨ b = 4) : CMul a b := by
  rcases h with rfl | rfl | rfl <;> exact .inr (by decide)
theorem begun {r : Rule} {p : Part} {S : Sto} (hs : 0 ≤ p.streak ∧ p.streak ≤ 2) : m_begun [.d r.d, .d p.d] S = some (.ok (.d (begunP r p).d), S) := by
  unfold m_begun b_begun
  rw [funM_ap, if_pos (by simp)]
  obtain ⟨c, a, l, w, s⟩ := p
  have hs : 0 ≤ s ∧ s ≤ 2 := hs
  have e1 : m_passed [.d r.d, .d (.tup [.int (c + 1), .int 0, .int 0, .int 0, .int s]), .d (.int 1)] S = some (.ok (.d (passedP r ⟨c + 1, 0, 0, 0, s⟩ 1).d), S) := passed (p := ⟨c + 1, 0, 0, 0, s⟩)
  unfold Rule.d at e1
  have c1 : CMul r.lock 1 := cmul_small (.inl rfl)
  have c2 : CMul r.lock 2 := cmul_small (.inr (.inl rfl))
  have c4 : CMul r.lock 4 := cmul_small (.inr (.inr rfl))
  have hcase : s = 0 ∨ s = 1 ∨ s = 2 := by omega
  by_cases h1 : c + 1 < r.most
  · simp [frame0, Rule.d, Part.d, begunP, h1, z5, e1]
  · by_cases h2 : r.grows = true
    · rcases hcase with rfl | rfl | rfl <;> simp [frame0, Rule.d, Part.d, begunP, h1, h2, z5, z3, fac, c1, c2, c4]
    · simp [frame0, Rule.d, Part.d, begunP, h1, h2, z5, c1]
def keptP (r : Rule) (p : Part) : Part :=
  if r.strict = true ∧ 0 < p.left then { passedP r p 1 with left := p.whole, whole := p.whole } else passedP r p 1
theorem kept {r : Rule} {p : Part} {S : Sto} : m_kept_part [.d r.d, .d p.d] S = some (.ok (.d (keptP r p).d), S) := by
  unfold m_kept_part b_kept_part
  rw [funM_ap, if_pos (by simp)]
  have e1 : m_passed [.d r.d, .d p.d, .d (.int 1)] S = _ := passed
  obtain ⟨k, m, l, f, cl, gr, st⟩ := r
  simp only [Rule.d, Part.d] at e1
  cases st <;> by_cases h2 : 0 < p.left <;> simp [frame0, Rule.d, Part.d, keptP, h2, z5, e1]
def letP (r : Rule) (p : Part) : Part := if r.clears = true then Part.new else passedP r p 1
theorem let_ {r : Rule} {p : Part} {S : Sto} : m_let_part [.d r.d, .d p.d] S = some (.ok (.d (letP r p).d), S) := by
  unfold m_let_part b_let_part
  rw [funM_ap, if_pos (by simp)]
  have e1 : m_passed [.d r.d, .d p.d, .d (.int 1)] S = _ := passed
  obtain ⟨k, m, l, f, cl, gr, st⟩ := r
  simp only [Rule.d, Part.d] at e1
  cases cl <;> simp [frame0, Rule.d, Part.d, Part.new, letP, z5, e1]
end SH
namespace SH
open PySem PySem.Spec PyProof.Rows L2 MM
/-! ### standings -/
abbrev Kx := Option Int × Option Int
def oD : Option Int → D
  | none => .non
  | some i => .int i
def kxD (k : Kx) : D := .tup [oD k.1, oD k.2]
def keysOf (a p : Int) : KK → List Kx
  | .acc => (List.range a.toNat).map fun (i : Nat) => (some (i : Int), none)
  | .pla => (List.range p.toNat).map fun (i : Nat) => (none, some (i : Int))
  | .both => (List.range a.toNat).flatMap fun (i : Nat) => (List.range p.toNat).map fun (j : Nat) => (some (i : Int), some (j : Int))
def isAt (k : Kx) (a p : Int) : Bool := decide (k.1 = none ∨ k.1 = some a) && decide (k.2 = none ∨ k.2 = some p)
theorem inB_opt {o : Option Int} {a : Int} : inB (oD o) (.tup [.non, .int a]) = some (decide (o = none ∨ o = some a)) := by
  cases o with
  | none => rfl
  | some i =>
    show some _ = some _
    simp [oD, eqF]
    by_cases h : a = i
    · simp [h]
    · have h2 : ¬ i = a := fun z => h z.symm
      simp [h, h2]
theorem is_at {k : Kx} {a p : Int} {S : Sto} : m_is_at [.d (kxD k), .d (.int a), .d (.int p)] S = some (.ok (.d (.bl (isAt k a p))), S) := by
  unfold m_is_at b_is_at
  rw [funM_ap, if_pos (by simp)]
  by_cases h : k.1 = none ∨ k.1 = some a <;> simp [frame0, kxD, z2, inB_opt, isAt, h]
@[simp] theorem lk_r {α : Type} {x y z : α} : List.lookup ("rules" : Str) [("rules", x), ("accounts", y), ("places", z)] = some x := by with_unfolding_all rfl
@[simp] theorem lk_a {α : Type} {x y z : α} : List.lookup ("accounts" : Str) [("rules", x), ("accounts", y), ("places", z)] = some y := by with_unfolding_all rfl
@[simp] theorem lk_p {α : Type} {x y z : α} : List.lookup ("places" : Str) [("rules", x), ("accounts", y), ("places", z)] = some z := by with_unfolding_all rfl
theorem pairs_of {rs : List Rule} {a p : Int} {S : Sto} (hs : Sizes a p) : m_pairs_of [.d (bookD rs a p)] S = some (.ok (.d (.lst ((keysOf a p .both).map kxD))), S) := by
  unfold m_pairs_of b_pairs_of
  rw [funM_ap, if_pos (by simp)]
  have q1 : (0 : Nat) < sizeLine := by decide
  have q2 : (1 : Nat) < sizeLine := by decide
  rcases hs with ⟨rfl, rfl⟩ | ⟨rfl, rfl⟩ | ⟨rfl, rfl⟩ <;> simp [frame0, bookD, lc2L, rngL, List.range, List.range.loop, lcL_cons, z2, q1, q2, keysOf, kxD, oD]
theorem keys_of {rs : List Rule} {a p : Int} {r : Rule} {S : Sto} (hs : Sizes a p) : m_keys_of [.d (bookD rs a p), .d r.d] S = some (.ok (.d (.lst ((keysOf a p r.key).map kxD))), S) := by
  unfold m_keys_of b_keys_of
  rw [funM_ap, if_pos (by simp)]
  have hp := pairs_of (rs := rs) (S := S) hs
  have q1 : (0 : Nat) < sizeLine := by decide
  have q2 : (1 : Nat) < sizeLine := by decide
  obtain ⟨k, m, l, f, cl, gr, st⟩ := r
  have s1 : eqB (.str "account") (.str "account") = some true := by decide +kernel
  have s2 : eqB (.str "place") (.str "account") = some false := by decide +kernel
  have s3 : eqB (.str "both") (.str "account") = some false := by decide +kernel
  have s4 : eqB (.str "place") (.str "place") = some true := by decide +kernel
  have s5 : eqB (.str "both") (.str "place") = some false := by decide +kernel
  cases k with
  | both =>
    simp [frame0, Rule.d, KK.s, s3, s5]
    simp [hp]
  | acc => rcases hs with ⟨rfl, rfl⟩ | ⟨rfl, rfl⟩ | ⟨rfl, rfl⟩ <;> simp [frame0, bookD, rngL, List.range, List.range.loop, lcL_cons, z2, q1, q2, keysOf, kxD, oD, Rule.d, KK.s, s1]
  | pla => rcases hs with ⟨rfl, rfl⟩ | ⟨rfl, rfl⟩ | ⟨rfl, rfl⟩ <;> simp [frame0, bookD, rngL, List.range, List.range.loop, lcL_cons, z2, q1, q2, keysOf, kxD, oD, Rule.d, KK.s, s2, s4]
end SH
namespace SH
open PySem PySem.Spec PyProof.Rows L2 MM
abbrev St := List (List Part)
def psD (ps : List Part) : D := .tup (ps.map Part.d)
def stD (st : St) : D := .tup (st.map psD)
/-- the standing has a part for each key of each rule -/
inductive ShapeI (a p : Int) : List Rule → St → Prop
  | nil : ShapeI a p [] []
  | cons {r : Rule} {ps : List Part} {rs : List Rule} {st : St} : ps.length = (keysOf a p r.key).length → ShapeI a p rs st → ShapeI a p (r :: rs) (ps :: st)
abbrev Shape (rs : List Rule) (a p : Int) (st : St) : Prop := ShapeI a p rs st
theorem keys_len {a p : Int} (hs : Sizes a p) (k : KK) : (keysOf a p k).length ≤ 2 := by
  rcases hs with ⟨rfl, rfl⟩ | ⟨rfl, rfl⟩ | ⟨rfl, rfl⟩ <;> cases k <;> decide
theorem szl {n : Nat} (h : n ≤ 16000000) : n ≤ sizeLine := by show n ≤ 16777216; omega
theorem slt {n : Nat} (h : n ≤ 16000000) : n < sizeLine := by show n < 16777216; omega
def firstS (rs : List Rule) (a p : Int) : St := rs.map fun r => (keysOf a p r.key).map fun _ => Part.new
theorem first_standing {rs : List Rule} {a p : Int} {S : Sto} (hs : Sizes a p) (hl : rs.length ≤ 3) : m_first_standing [.d (bookD rs a p)] S = some (.ok (.d (stD (firstS rs a p))), S) := by
  unfold m_first_standing b_first_standing
  rw [funM_ap, if_pos (by simp)]
  have key := lc_pairs (S := S) (ρ := [some (.r (.d (bookD rs a p))), none, none]) (vs := [1]) (t := nameT 1) (te := callM tupleF (consA (ofNew (lcM (iSeqM (callN 2 m_keys_of (consA (varM 0) (consA (varM 1) (nilA))))) [2] (nameT 2) (yesT) (litM (.tup [(.int 0), (.int 0), (.int 0), (.int 0), (.int 0)])))) (nilA)))
    (rs.map fun r => (r.d, psD ((keysOf a p r.key).map fun _ => Part.new))) [] (szl (by simp; omega)) (by
      rintro ⟨d, e⟩ hd
      obtain ⟨r, hr, he⟩ := List.mem_map.mp hd
      cases he
      have k2 := lc_map (S := S) (ρ := [some (.r (.d (bookD rs a p))), some (.r (.d r.d)), none]) (vs := [2]) (t := nameT 2) (te := litM (.tup [(.int 0), (.int 0), (.int 0), (.int 0), (.int 0)])) (fun _ => Part.new.d) ((keysOf a p r.key).map kxD) [] (szl (by have := keys_len hs r.key; simp; omega)) (fun d hd => ⟨_, by simp; rfl, by simp [Part.new, Part.d]⟩)
      refine ⟨_, by simp; rfl, ?_⟩
      simp [keys_of hs, k2, psD, Function.comp_def])
  simp at key
  simp [frame0, bookD, rulesD, Function.comp_def] at key ⊢
  simp [key, stD, firstS, Function.comp_def]
theorem zipL_map {α β : Type} (f : α → D) (g : β → D) (xs : List α) (ys : List β) : zipL (xs.map f) (ys.map g) = (xs.zip ys).map fun z => .tup [f z.1, g z.2] := by
  unfold zipL
  induction xs generalizing ys with
  | nil => simp
  | cons x xs ih => cases ys with
    | nil => simp
    | cons y ys => simp [ih]
def idleS (rs : List Rule) (st : St) (n : Int) : St := (rs.zip st).map fun z => z.2.map fun q => passedP z.1 q n
theorem shape_zip {rs : List Rule} {a p : Int} {st : St} (h : Shape rs a p st) : ∀ z ∈ rs.zip st, z.1 ∈ rs ∧ z.2 ∈ st ∧ z.2.length = (keysOf a p z.1.key).length := by
  induction h with
  | nil => intro z hz; simp at hz
  | cons h1 h2 ih =>
    intro z hz
    rw [List.zip_cons_cons] at hz
    rcases List.mem_cons.mp hz with e | e
    · subst e; exact ⟨by simp, by simp, h1⟩
    · obtain ⟨q1, q2, q3⟩ := ih z e
      exact ⟨List.mem_cons_of_mem _ q1, List.mem_cons_of_mem _ q2, q3⟩
theorem idle {rs : List Rule} {a p : Int} {st : St} {n : Int} {S : Sto} (hs : Sizes a p) (hl : rs.length ≤ 3) (hsh : Shape rs a p st) : m_idle [.d (bookD rs a p), .d (stD st), .d (.int n)] S = some (.ok (.d (stD (idleS rs st n))), S) := by
  unfold m_idle b_idle
  rw [funM_ap, if_pos (by simp)]
  have key := lc_pairs (S := S) (ρ := [some (.r (.d (bookD rs a p))), some (.r (.d (stD st))), some (.r (.d (.int n))), none, none, none]) (vs := [3, 4]) (t := tupT [nameT 3, nameT 4]) (te := callM tupleF (consA (ofNew (lcM (iSeqM (varM 4)) [5] (nameT 5) (yesT) (callN 3 m_passed (consA (varM 3) (consA (varM 5) (consA (varM 2) (nilA))))))) (nilA)))
    ((rs.zip st).map fun z => (.tup [z.1.d, psD z.2], psD (z.2.map fun q => passedP z.1 q n))) [] (szl (by simp; omega)) (by
      rintro ⟨d, e⟩ hd
      obtain ⟨⟨r, ps⟩, hr, he⟩ := List.mem_map.mp hd
      cases he
      obtain ⟨_, _, hlen⟩ := shape_zip hsh _ hr
      have k2 := lc_pairs (S := S) (ρ := [some (.r (.d (bookD rs a p))), some (.r (.d (stD st))), some (.r (.d (.int n))), some (.r (.d r.d)), some (.r (.d (psD ps))), none]) (vs := [5]) (t := nameT 5) (te := callN 3 m_passed (consA (varM 3) (consA (varM 5) (consA (varM 2) (nilA))))) (ps.map fun q => (q.d, (passedP r q n).d)) [] (szl (by have := keys_len hs r.key; simp at hlen ⊢; omega)) (by
        rintro ⟨d, e⟩ hd
        obtain ⟨q, hq, he⟩ := List.mem_map.mp hd
        cases he
        exact ⟨_, by simp; rfl, by simp [passed]⟩)
      simp [Function.comp_def] at k2
      refine ⟨_, by simp; rfl, ?_⟩
      simp [psD, Function.comp_def] at k2 ⊢
      simp [k2])
  simp [Function.comp_def] at key
  simp [frame0, bookD, rulesD, stD, zipL_map] at key ⊢
  simp [key, idleS, Function.comp_def]
/-! ### the loops over keys and parts -/
def kqD (z : Kx × Part) : D := .tup [kxD z.1, z.2.d]
theorem zip_kq {ks : List Kx} {ps : List Part} : zipL (ks.map kxD) (ps.map Part.d) = (ks.zip ps).map kqD := by
  rw [zipL_map]; rfl
def leftIn (x y : Int) (kqs : List (Kx × Part)) : List D := (kqs.filter fun z => isAt z.1 x y).map fun z => .int z.2.left
theorem left_in {B T : D} {x y : Int} {S : Sto} {e5 e6 : Option Ent} : ∀ (kqs : List (Kx × Part)) (acc : List D) (e7 e8 : Option Ent), acc.length + kqs.length ≤ 1000000 → ∃ e7' e8',
    loopM (tupT [nameT 7, nameT 8]) (ifM (truM (callN 3 m_is_at (consA (varM 7) (consA (varM 2) (consA (varM 3) (nilA)))))) (appM (varM 4) (op2M ixD (varM 8) (litM (.int 2)))) (nxM)) (kqs.map kqD) [some (.r (.d B)), some (.r (.d T)), some (.r (.d (.int x))), some (.r (.d (.int y))), some (.own (.lst acc)), e5, e6, e7, e8] S
      = some (.nx, [some (.r (.d B)), some (.r (.d T)), some (.r (.d (.int x))), some (.r (.d (.int y))), some (.own (.lst (acc ++ leftIn x y kqs))), e5, e6, e7', e8'], S)
  | [], acc, e7, e8, _ => ⟨e7, e8, by simp [leftIn]⟩
  | (k, q) :: kqs, acc, e7, e8, hl => by
    simp only [List.length_cons] at hl
    by_cases c : isAt k x y = true
    · obtain ⟨e7', e8', ih⟩ := left_in (B := B) (T := T) (x := x) (y := y) (S := S) (e5 := e5) (e6 := e6) kqs (acc ++ [.int q.left]) (some (.r (.d (kxD k)))) (some (.r (.d q.d))) (by simp; omega)
      refine ⟨e7', e8', ?_⟩
      have hlt : acc.length < sizeLine := slt (by omega)
      rw [List.map_cons, loopM_cons]
      simp [kqD, is_at, c, Part.d, hlt] at ih ⊢
      rw [ih]
      simp [leftIn, c]
    · obtain ⟨e7', e8', ih⟩ := left_in (B := B) (T := T) (x := x) (y := y) (S := S) (e5 := e5) (e6 := e6) kqs acc (some (.r (.d (kxD k)))) (some (.r (.d q.d))) (by omega)
      refine ⟨e7', e8', ?_⟩
      rw [List.map_cons, loopM_cons]
      simp [kqD, is_at, c] at ih ⊢
      rw [ih]
      simp [leftIn, c]
def leftAt (a p : Int) (x y : Int) (rps : List (Rule × List Part)) : List D := rps.flatMap fun z => leftIn x y ((keysOf a p z.1.key).zip z.2)
theorem left_out {rs : List Rule} {a p : Int} {T : D} {x y : Int} {S : Sto} (hs : Sizes a p) : ∀ (rps : List (Rule × List Part)) (acc : List D) (e5 e6 e7 e8 : Option Ent), (∀ z ∈ rps, z.2.length ≤ 2) → acc.length + rps.length * 2 ≤ 1000 → ∃ e5' e6' e7' e8',
    loopM (tupT [nameT 5, nameT 6]) (forM (iZipXM (consA (callN 2 m_keys_of (consA (varM 0) (consA (varM 5) (nilA)))) (consA (varM 6) (nilA)))) (tupT [nameT 7, nameT 8]) (ifM (truM (callN 3 m_is_at (consA (varM 7) (consA (varM 2) (consA (varM 3) (nilA)))))) (appM (varM 4) (op2M ixD (varM 8) (litM (.int 2)))) (nxM)))
      (rps.map fun z => .tup [z.1.d, psD z.2]) [some (.r (.d (bookD rs a p))), some (.r (.d T)), some (.r (.d (.int x))), some (.r (.d (.int y))), some (.own (.lst acc)), e5, e6, e7, e8] S
      = some (.nx, [some (.r (.d (bookD rs a p))), some (.r (.d T)), some (.r (.d (.int x))), some (.r (.d (.int y))), some (.own (.lst (acc ++ leftAt a p x y rps))), e5', e6', e7', e8'], S)
  | [], acc, e5, e6, e7, e8, _, _ => ⟨e5, e6, e7, e8, by simp [leftAt]⟩
  | (r, ps) :: rps, acc, e5, e6, e7, e8, h2, hl => by
    simp only [List.length_cons] at hl
    have hk := keys_len hs r.key
    have hp : ps.length ≤ 2 := h2 (r, ps) (by simp)
    obtain ⟨e7', e8', i1⟩ := left_in (B := bookD rs a p) (T := T) (x := x) (y := y) (S := S) (e5 := some (.r (.d r.d))) (e6 := some (.r (.d (psD ps)))) ((keysOf a p r.key).zip ps) acc e7 e8 (by simp; omega)
    have hll : (leftIn x y ((keysOf a p r.key).zip ps)).length ≤ 2 := by
      unfold leftIn
      rw [List.length_map]
      refine Nat.le_trans (List.length_filter_le _ _) ?_
      simp; omega
    obtain ⟨f5, f6, f7, f8, ih⟩ := left_out (rs := rs) (T := T) (x := x) (y := y) (S := S) hs rps (acc ++ leftIn x y ((keysOf a p r.key).zip ps)) (some (.r (.d r.d))) (some (.r (.d (psD ps)))) e7' e8' (fun z hz => h2 z (List.mem_cons_of_mem _ hz)) (by rw [List.length_append]; omega)
    refine ⟨f5, f6, f7, f8, ?_⟩
    rw [List.map_cons, loopM_cons]
    simp [keys_of hs]
    have e : zipXR [.d (.lst ((keysOf a p r.key).map kxD)), .d (psD ps)] = fun (_ : Fr) (S : Sto) => some (.ok (((keysOf a p r.key).zip ps).map kqD), S) := by
      funext ρ S
      show some (Out.ok (zipL _ _), S) = _
      rw [zip_kq]
    simp only [e, i1]
    rw [ih]
    simp [leftAt]
theorem left_at {rs : List Rule} {a p : Int} {st : St} {x y : Int} {S : Sto} (hs : Sizes a p) (hl : rs.length ≤ 3) (hsh : Shape rs a p st) : m_left_at [.d (bookD rs a p), .d (stD st), .d (.int x), .d (.int y)] S = some (.ok (.d (.lst (leftAt a p x y (rs.zip st)))), S) := by
  unfold m_left_at b_left_at
  rw [funM_ap, if_pos (by simp)]
  obtain ⟨e5, e6, e7, e8, h⟩ := left_out (rs := rs) (T := stD st) (x := x) (y := y) (S := S) hs (rs.zip st) [] none none none none (fun z hz => by
    have := (shape_zip hsh z hz).2.2
    have := keys_len hs z.1.key
    omega) (by simp; omega)
  have hz : zipL (rulesD rs) (st.map psD) = (rs.zip st).map fun z => .tup [z.1.d, psD z.2] := zipL_map _ _ _ _
  simp [frame0] at h ⊢
  simp [bookD, stD] at h ⊢
  simp [hz, h]
def lockedS (rs : List Rule) (a p : Int) (st : St) (x y : Int) : Bool := (rs.zip st).any fun z => ((keysOf a p z.1.key).zip z.2).any fun k => isAt k.1 x y && decide (0 < k.2.left)
end SH
namespace SH
open PySem PySem.Spec PyProof.Rows L2 MM
theorem anyF_map {α : Type} (f : α → Bool) (xs : List α) : anyF [.lst (xs.map fun x => .bl (f x))] = some (.bl (xs.any f)) := by
  have : blsOf (xs.map fun x => D.bl (f x)) = some (xs.map f) := by
    induction xs with
    | nil => rfl
    | cons x xs ih => simp [blsOf, ih]
  show (blsOf _).map _ = _
  rw [this]
  simp [List.any_map, Function.comp_def]
theorem allF_map {α : Type} (f : α → Bool) (xs : List α) : allF [.lst (xs.map fun x => .bl (f x))] = some (.bl (xs.all f)) := by
  have : blsOf (xs.map fun x => D.bl (f x)) = some (xs.map f) := by
    induction xs with
    | nil => rfl
    | cons x xs ih => simp [blsOf, ih]
  show (blsOf _).map _ = _
  rw [this]
  simp [List.all_map, Function.comp_def]
def leftInI (x y : Int) (kqs : List (Kx × Part)) : List Int := (kqs.filter fun z => isAt z.1 x y).map fun z => z.2.left
def leftAtI (a p : Int) (x y : Int) (rps : List (Rule × List Part)) : List Int := rps.flatMap fun z => leftInI x y ((keysOf a p z.1.key).zip z.2)
theorem leftAt_eq {a p x y : Int} {rps : List (Rule × List Part)} : leftAt a p x y rps = (leftAtI a p x y rps).map D.int := by
  unfold leftAt leftAtI leftIn leftInI
  rw [List.map_flatMap]
  simp [Function.comp_def]
theorem leftAtI_len {a p x y : Int} (hs : Sizes a p) : ∀ (rps : List (Rule × List Part)), (leftAtI a p x y rps).length ≤ rps.length * 2
  | [] => by simp [leftAtI]
  | (r, ps) :: rps => by
    have ih := leftAtI_len (x := x) (y := y) hs rps
    have hk := keys_len hs r.key
    have : (leftInI x y ((keysOf a p r.key).zip ps)).length ≤ 2 := by
      unfold leftInI
      rw [List.length_map]
      refine Nat.le_trans (List.length_filter_le _ _) ?_
      simp; omega
    unfold leftAtI at ih ⊢
    rw [List.flatMap_cons, List.length_append, List.length_cons]
    show (leftInI x y ((keysOf a p r.key).zip ps)).length + _ ≤ _
    omega
theorem is_locked {rs : List Rule} {a p : Int} {st : St} {x y : Int} {S : Sto} (hs : Sizes a p) (hl : rs.length ≤ 3) (hsh : Shape rs a p st) : m_is_locked [.d (bookD rs a p), .d (stD st), .d (.int x), .d (.int y)] S = some (.ok (.d (.bl (lockedS rs a p st x y))), S) := by
  unfold m_is_locked b_is_locked
  rw [funM_ap, if_pos (by simp)]
  have hlen := leftAtI_len (x := x) (y := y) hs (rs.zip st)
  have hz : (rs.zip st).length ≤ 3 := by simp; omega
  have k := lc_pairs (S := S) (ρ := [some (.r (.d (bookD rs a p))), some (.r (.d (stD st))), some (.r (.d (.int x))), some (.r (.d (.int y))), none]) (vs := [4]) (t := nameT 4) (te := op2M gtD (varM 4) (litM (.int 0))) ((leftAtI a p x y (rs.zip st)).map fun i => (.int i, .bl (decide (0 < i)))) [] (szl (by simp; omega)) (by
    rintro ⟨d, e⟩ hd
    obtain ⟨i, hi, he⟩ := List.mem_map.mp hd
    cases he
    exact ⟨_, by simp; rfl, by simp⟩)
  simp [Function.comp_def] at k
  simp [frame0, left_at hs hl hsh, leftAt_eq, k, anyF_map]
  unfold lockedS leftAtI leftInI
  rw [List.any_flatMap]
  congr 1
  funext z
  rw [List.any_map, List.any_filter]
  rfl
/-! ### changed -/
def chgIn (r : Rule) (touch : Kx → Bool) (chg : Part → Part) (kqs : List (Kx × Part)) : List Part := kqs.map fun z => if touch z.1 = true then chg z.2 else passedP r z.2 1
theorem chg_in {B T d2 d3 : D} {tb : D → Option FM} {g2 g3 : FM} {r : Rule} {touch : Kx → Bool} {chg : Part → Part} {S : Sto} {e4 e6 : Option Ent} (h2 : tb d2 = some g2) (h3 : tb d3 = some g3) :
    ∀ (kqs : List (Kx × Part)) (acc : List Part) (e8 e9 : Option Ent), (∀ z ∈ kqs, g2 [.d r.d, .d (kxD z.1)] S = some (.ok (.d (.bl (touch z.1))), S)) → (∀ z ∈ kqs, g3 [.d r.d, .d z.2.d] S = some (.ok (.d (chg z.2).d), S)) → acc.length + kqs.length ≤ 1000000 → ∃ e8' e9',
    loopM (tupT [nameT 8, nameT 9]) (appM (varM 7) (ifV (truM (callL 2 2 tb (consA (varM 5) (consA (varM 8) (nilA))))) (callL 3 2 tb (consA (varM 5) (consA (varM 9) (nilA)))) (callN 3 m_passed (consA (varM 5) (consA (varM 9) (consA (litM (.int 1)) (nilA))))))) (kqs.map kqD)
      [some (.r (.d B)), some (.r (.d T)), some (.r (.d d2)), some (.r (.d d3)), e4, some (.r (.d r.d)), e6, some (.own (.lst (acc.map Part.d))), e8, e9] S
      = some (.nx, [some (.r (.d B)), some (.r (.d T)), some (.r (.d d2)), some (.r (.d d3)), e4, some (.r (.d r.d)), e6, some (.own (.lst ((acc ++ chgIn r touch chg kqs).map Part.d))), e8', e9'], S)
  | [], acc, e8, e9, _, _, _ => ⟨e8, e9, by simp [chgIn]⟩
  | (k, q) :: kqs, acc, e8, e9, q2, q3, hl => by
    simp only [List.length_cons] at hl
    have hlt : acc.length < sizeLine := slt (by omega)
    have i2 := q2 (k, q) (by simp)
    have i3 := q3 (k, q) (by simp)
    have pass : ∀ (r : Rule) (p : Part) (n : Int), m_passed [.d r.d, .d p.d, .d (.int n)] S = some (.ok (.d (passedP r p n).d), S) := fun r p n => passed
    obtain ⟨e8', e9', ih⟩ := chg_in (B := B) (T := T) (r := r) (touch := touch) (chg := chg) (S := S) (e4 := e4) (e6 := e6) h2 h3 kqs (acc ++ [if touch k = true then chg q else passedP r q 1]) (some (.r (.d (kxD k)))) (some (.r (.d q.d))) (fun z hz => q2 z (List.mem_cons_of_mem _ hz)) (fun z hz => q3 z (List.mem_cons_of_mem _ hz)) (by simp; omega)
    refine ⟨e8', e9', ?_⟩
    rw [List.map_cons, loopM_cons]
    by_cases c : touch k = true
    · simp [kqD, h2, h3, i2, i3, c, hlt] at ih ⊢
      rw [ih]
      simp [chgIn, c]
    · simp [kqD, h2, h3, i2, i3, c, hlt, pass] at ih ⊢
      rw [ih]
      simp [chgIn, c]
def changedS (a p : Int) (touch : Rule → Kx → Bool) (chg : Rule → Part → Part) (rps : List (Rule × List Part)) : St := rps.map fun z => chgIn z.1 (touch z.1) (chg z.1) ((keysOf a p z.1.key).zip z.2)
theorem chg_out {rs : List Rule} {a p : Int} {T d2 d3 : D} {tb : D → Option FM} {g2 g3 : FM} {touch : Rule → Kx → Bool} {chg : Rule → Part → Part} {S : Sto} (hs : Sizes a p) (h2 : tb d2 = some g2) (h3 : tb d3 = some g3) :
    ∀ (rps : List (Rule × List Part)) (acc : St) (e5 e6 e7 e8 e9 : Option Ent), (∀ z ∈ rps, ∀ k : Kx, k ∈ keysOf a p z.1.key → g2 [.d z.1.d, .d (kxD k)] S = some (.ok (.d (.bl (touch z.1 k))), S)) → (∀ z ∈ rps, ∀ q ∈ z.2, g3 [.d z.1.d, .d q.d] S = some (.ok (.d (chg z.1 q).d), S)) → acc.length + rps.length ≤ 1000 → ∃ e5' e6' e7' e8' e9',
    loopM (tupT [nameT 5, nameT 6]) (seqM (ownM 7 (newR (nilA))) (seqM (forM (iZipXM (consA (callN 2 m_keys_of (consA (varM 0) (consA (varM 5) (nilA)))) (consA (varM 6) (nilA)))) (tupT [nameT 8, nameT 9]) (appM (varM 7) (ifV (truM (callL 2 2 tb (consA (varM 5) (consA (varM 8) (nilA))))) (callL 3 2 tb (consA (varM 5) (consA (varM 9) (nilA)))) (callN 3 m_passed (consA (varM 5) (consA (varM 9) (consA (litM (.int 1)) (nilA)))))))) (appM (varM 4) (callM tupleF (consA (varM 7) (nilA))))))
      (rps.map fun z => .tup [z.1.d, psD z.2]) [some (.r (.d (bookD rs a p))), some (.r (.d T)), some (.r (.d d2)), some (.r (.d d3)), some (.own (.lst (acc.map psD))), e5, e6, e7, e8, e9] S
      = some (.nx, [some (.r (.d (bookD rs a p))), some (.r (.d T)), some (.r (.d d2)), some (.r (.d d3)), some (.own (.lst ((acc ++ changedS a p touch chg rps).map psD))), e5', e6', e7', e8', e9'], S)
  | [], acc, e5, e6, e7, e8, e9, _, _, _ => ⟨e5, e6, e7, e8, e9, by simp [changedS]⟩
  | (r, ps) :: rps, acc, e5, e6, e7, e8, e9, q2, q3, hl => by
    simp only [List.length_cons] at hl
    have hk := keys_len hs r.key
    have hlt : acc.length < sizeLine := slt (by omega)
    obtain ⟨e8', e9', i1⟩ := chg_in (B := bookD rs a p) (T := T) (r := r) (touch := touch r) (chg := chg r) (S := S) (e4 := some (.own (.lst (acc.map psD)))) (e6 := some (.r (.d (psD ps)))) h2 h3 ((keysOf a p r.key).zip ps) [] e8 e9 (fun z hz => q2 (r, ps) (by simp) z.1 (List.of_mem_zip hz).1) (fun z hz => q3 (r, ps) (by simp) z.2 (List.of_mem_zip hz).2) (by simp; omega)
    obtain ⟨f5, f6, f7, f8, f9, ih⟩ := chg_out (rs := rs) (T := T) (touch := touch) (chg := chg) (S := S) hs h2 h3 rps (acc ++ [chgIn r (touch r) (chg r) ((keysOf a p r.key).zip ps)]) (some (.r (.d r.d))) (some (.r (.d (psD ps)))) (some (.own (.lst ((chgIn r (touch r) (chg r) ((keysOf a p r.key).zip ps)).map Part.d)))) e8' e9' (fun z hz => q2 z (List.mem_cons_of_mem _ hz)) (fun z hz => q3 z (List.mem_cons_of_mem _ hz)) (by simp; omega)
    refine ⟨f5, f6, f7, f8, f9, ?_⟩
    rw [List.map_cons, loopM_cons]
    have e : zipXR [.d (.lst ((keysOf a p r.key).map kxD)), .d (psD ps)] = fun (_ : Fr) (S : Sto) => some (.ok (((keysOf a p r.key).zip ps).map kqD), S) := by
      funext ρ S
      show some (Out.ok (zipL _ _), S) = _
      rw [zip_kq]
    simp at i1
    simp [keys_of hs, e, i1, hlt]
    simp [psD] at ih ⊢
    rw [ih]
    simp [changedS, psD]
theorem changed {rs : List Rule} {a p : Int} {st : St} {d2 d3 : D} {tb : D → Option FM} {g2 g3 : FM} {touch : Rule → Kx → Bool} {chg : Rule → Part → Part} {S : Sto} (hs : Sizes a p) (hl : rs.length ≤ 3) (hsh : Shape rs a p st) (h2 : tb d2 = some g2) (h3 : tb d3 = some g3)
    (q2 : ∀ z ∈ rs.zip st, ∀ k : Kx, k ∈ keysOf a p z.1.key → g2 [.d z.1.d, .d (kxD k)] S = some (.ok (.d (.bl (touch z.1 k))), S)) (q3 : ∀ z ∈ rs.zip st, ∀ q ∈ z.2, g3 [.d z.1.d, .d q.d] S = some (.ok (.d (chg z.1 q).d), S)) :
    m_changed tb [.d (bookD rs a p), .d (stD st), .d d2, .d d3] S = some (.ok (.d (stD (changedS a p touch chg (rs.zip st)))), S) := by
  unfold m_changed b_changed
  rw [funM_ap, if_pos (by simp)]
  obtain ⟨e5, e6, e7, e8, e9, h⟩ := chg_out (rs := rs) (T := stD st) (touch := touch) (chg := chg) (S := S) hs h2 h3 (rs.zip st) [] none none none none none q2 q3 (by simp; omega)
  have hz : zipL (rulesD rs) (st.map psD) = (rs.zip st).map fun z => .tup [z.1.d, psD z.2] := zipL_map _ _ _ _
  simp [frame0] at h ⊢
  simp [bookD, stD] at h ⊢
  simp [hz, h]
end SH
namespace SH
open PySem PySem.Spec PyProof.Rows L2 MM
/-! ### actions, one step -/
instance : Inhabited NdefX.NF := ⟨⟨"", "", default, [], default, [], 0⟩⟩
inductive Act where
  | non | opn (x : Int) | tri (x y : Int) (right : Bool)
  deriving DecidableEq, Inhabited
def Act.d : Act → D
  | .non => .non
  | .opn x => .tup [.str "open", .int x]
  | .tri x y b => .tup [.str "try", .int x, .int y, .bl b]
def Act.Ok (a p : Int) : Act → Prop
  | .non => True
  | .opn x => 0 ≤ x ∧ x < a
  | .tri x y _ => (0 ≤ x ∧ x < a) ∧ 0 ≤ y ∧ y < p
instance (a p : Int) (t : Act) : Decidable (t.Ok a p) := by cases t <;> (simp only [Act.Ok]; infer_instance)
def StrkOk (st : St) : Prop := ∀ ps ∈ st, ∀ q ∈ ps, 0 ≤ q.streak ∧ q.streak ≤ 2
def touchO (x : Int) (_ : Rule) (k : Kx) : Bool := decide (k.1 = some x)
def touchT (x y : Int) (_ : Rule) (k : Kx) : Bool := isAt k x y
def chgS (b right : Bool) : Rule → Part → Part := if b = true then keptP else if right = true then letP else begunP
def toldS (b right : Bool) : Str := if b = true then "kept" else if right = true then "in" else "wrong"
def stepS (rs : List Rule) (a p : Int) (st : St) : Act → Str × St
  | .non => ("none", idleS rs st 1)
  | .opn x => ("opened", changedS a p (touchO x) (fun _ _ => Part.new) (rs.zip st))
  | .tri x y right => (toldS (lockedS rs a p st x y) right, changedS a p (touchT x y) (chgS (lockedS rs a p st x y) right) (rs.zip st))
theorem eqB_opt {o : Option Int} {x : Int} : eqB (oD o) (.int x) = some (decide (o = some x)) := by
  cases o with
  | none => simp [oD]; rfl
  | some i => simp [oD]
theorem eqB_oo : eqB (.str "open") (.str "open") = some true := by decide +kernel
theorem eqB_to : eqB (.str "try") (.str "open") = some false := by decide +kernel
theorem eqB_tt : eqB (.str "try") (.str "try") = some true := by decide +kernel
theorem lam0 {x : Int} {r : Rule} {k : Kx} {S : Sto} : lamFM 2 e_step_0 [(Act.opn x).d] [.d r.d, .d (kxD k)] S = some (.ok (.d (.bl (touchO x r k))), S) := by
  unfold lamFM e_step_0
  rw [if_pos (by simp)]
  simp [frameL, kxD, Act.d, eqB_opt, touchO]
theorem lam1 {r : Rule} {q : Part} {S : Sto} : lamFM 2 e_step_1 [] [.d r.d, .d q.d] S = some (.ok (.d Part.new.d), S) := by
  unfold lamFM e_step_1
  rw [if_pos (by simp)]
  simp [frameL, Part.new, Part.d]
theorem lam2 {x y : Int} {r : Rule} {k : Kx} {S : Sto} : lamFM 2 e_step_2 [.int x, .int y] [.d r.d, .d (kxD k)] S = some (.ok (.d (.bl (touchT x y r k))), S) := by
  unfold lamFM e_step_2
  rw [if_pos (by simp)]
  simp [frameL, is_at, touchT]
section
variable {rs : List Rule} {a p : Int} {st : St} {S : Sto}
theorem call_open {x : Int} (hs : Sizes a p) (hl : rs.length ≤ 3) (hsh : Shape rs a p st) :
    callRes lamG m_changed [.r (.d (bookD rs a p)), .r (.d (stD st)), .lam 0 [(Act.opn x).d], .lam 1 []] S = some (.ok (.d (stD (changedS a p (touchO x) (fun _ _ => Part.new) (rs.zip st)))), S) := by
  refine callRes_of ⟨[.d (bookD rs a p), .d (stD st), .d (.clo 0 0 default default [] [(Act.opn x).d]), .d (.clo 1 0 default default [] [])], rfl, rfl, ⟨_, _, _, _, rfl⟩, ⟨_, _, _, _, rfl⟩, trivial⟩ fun ds hd tb htb => ?_
  match ds, hd with
  | [_, _, _, _], ⟨rfl, rfl, ⟨f, L, b, ws, rfl⟩, ⟨f', L', b', ws', rfl⟩, _⟩ =>
    have h2 : tb (.clo 0 f L b ws [(Act.opn x).d]) = some (lamFM 2 e_step_0 [(Act.opn x).d]) := by rw [htb _ (by simp)]; rfl
    have h3 : tb (.clo 1 f' L' b' ws' []) = some (lamFM 2 e_step_1 []) := by rw [htb _ (by simp)]; rfl
    exact changed hs hl hsh h2 h3 (fun z hz k hk => lam0) (fun z hz q hq => lam1)
theorem call_try {x y : Int} {c : Str} {g : FM} {chg : Rule → Part → Part} (hs : Sizes a p) (hl : rs.length ≤ 3) (hsh : Shape rs a p st) (hg : lamG.tb (.gl c) = some g) (hc : ∀ z ∈ rs.zip st, ∀ q ∈ z.2, g [.d z.1.d, .d q.d] S = some (.ok (.d (chg z.1 q).d), S)) :
    callRes lamG m_changed [.r (.d (bookD rs a p)), .r (.d (stD st)), .lam 2 [.int x, .int y], .r (.d (.gl c))] S = some (.ok (.d (stD (changedS a p (touchT x y) chg (rs.zip st)))), S) := by
  refine callRes_of ⟨[.d (bookD rs a p), .d (stD st), .d (.clo 2 0 default default [] [.int x, .int y]), .d (.gl c)], rfl, rfl, ⟨_, _, _, _, rfl⟩, rfl, trivial⟩ fun ds hd tb htb => ?_
  match ds, hd with
  | [_, _, _, _], ⟨rfl, rfl, ⟨f, L, b, ws, rfl⟩, rfl, _⟩ =>
    have h2 : tb (.clo 2 f L b ws [.int x, .int y]) = some (lamFM 2 e_step_2 [.int x, .int y]) := by rw [htb _ (by simp)]; rfl
    have h3 : tb (.gl c) = some g := by rw [htb _ (by simp)]; exact hg
    exact changed hs hl hsh h2 h3 (fun z hz k hk => lam2) hc
theorem gl_k : lamG.tb (.gl "kept_part") = some m_kept_part := by
  show (if ("kept_part" : Str) = "kept_part" then some m_kept_part else if ("kept_part" : Str) = "let_part" then some m_let_part else if ("kept_part" : Str) = "begun" then some m_begun else none) = _
  rw [if_pos rfl]
theorem gl_l : lamG.tb (.gl "let_part") = some m_let_part := by
  show (if ("let_part" : Str) = "kept_part" then some m_kept_part else if ("let_part" : Str) = "let_part" then some m_let_part else if ("let_part" : Str) = "begun" then some m_begun else none) = _
  rw [if_neg (by decide), if_pos rfl]
theorem gl_b : lamG.tb (.gl "begun") = some m_begun := by
  show (if ("begun" : Str) = "kept_part" then some m_kept_part else if ("begun" : Str) = "let_part" then some m_let_part else if ("begun" : Str) = "begun" then some m_begun else none) = _
  rw [if_neg (by decide), if_neg (by decide), if_pos rfl]
theorem strk_zip (hk : StrkOk st) : ∀ z ∈ rs.zip st, ∀ q ∈ z.2, 0 ≤ q.streak ∧ q.streak ≤ 2 := fun z hz q hq => hk z.2 (List.of_mem_zip hz).2 q hq
theorem step {t : Act} (hs : Sizes a p) (hl : rs.length ≤ 3) (hsh : Shape rs a p st) (hk : StrkOk st) (hS : S[0]? = some (.tab "step")) :
    m_step [.d (bookD rs a p), .d (stD st), .d t.d] S = some (.ok (.d (.tup [.str (stepS rs a p st t).1, stD (stepS rs a p st t).2])), S) := by
  unfold m_step b_step
  rw [funM_ap, if_pos (by simp)]
  cases t with
  | non => simp [frame0, Act.d, idle hs hl hsh, z2, stepS]
  | opn x =>
    have h := call_open (x := x) (S := S) hs hl hsh
    simp [Act.d] at h
    simp [frame0, Act.d, eqB_oo, hS, capsAt, notClo, bookD, stD] at h ⊢
    simp [h, z2, stepS, stD]
  | tri x y right =>
    have hlk := is_locked (S := S) (x := x) (y := y) hs hl hsh
    by_cases c : lockedS rs a p st x y = true
    · have h := call_try (x := x) (y := y) (S := S) (chg := keptP) hs hl hsh gl_k (fun z hz q hq => kept)
      simp [frame0, Act.d, eqB_to, hS, capsAt, hlk, c, notClo, bookD, stD] at h hlk ⊢
      simp [h, hlk, hS, capsAt, notClo, c, z2, stepS, stD, toldS, chgS]
    · cases right with
      | true =>
        have h := call_try (x := x) (y := y) (S := S) (chg := letP) hs hl hsh gl_l (fun z hz q hq => let_)
        simp [frame0, Act.d, eqB_to, hS, capsAt, hlk, c, notClo, bookD, stD] at h hlk ⊢
        simp [h, hlk, hS, capsAt, notClo, c, z2, stepS, stD, toldS, chgS]
      | false =>
        have h := call_try (x := x) (y := y) (S := S) (chg := begunP) hs hl hsh gl_b (fun z hz q hq => begun (strk_zip hk z hz q hq))
        simp [frame0, Act.d, eqB_to, hS, capsAt, hlk, c, notClo, bookD, stD] at h hlk ⊢
        simp [h, hlk, hS, capsAt, notClo, c, z2, stepS, stD, toldS, chgS]
end
end SH
namespace SH
open PySem PySem.Spec PyProof.Rows L2 MM
/-! ### the own door: cells by rule and key, kept by moments -/
structure OC where
  count : Int
  at_ : Int
  til : Int
  whole : Int
  streak : Int
  deriving DecidableEq, Inhabited
def OC.d (c : OC) : D := .tup [.int c.count, .int c.at_, .int c.til, .int c.whole, .int c.streak]
def OC.zero : OC := ⟨0, 0, -1, 0, 0⟩
abbrev OX := Nat × Kx
def oxD (x : OX) : D := .tup [.int (x.1 : Int), kxD x.2]
abbrev OS := List (OX × OC)
def osD (l : OS) : List (D × D) := l.map fun z => (oxD z.1, z.2.d)
def osGet (l : OS) (x : OX) : OC := match l.find? fun z => decide (z.1 = x) with
  | some z => z.2
  | none => OC.zero
def osPut (l : OS) (x : OX) (c : OC) : OS := if (l.find? fun z => decide (z.1 = x)).isSome = true then l.map fun z => if z.1 = x then (z.1, c) else z else l ++ [(x, c)]
def oK : Option Int → NestedKey
  | none => .none
  | some i => .num i
def nkx (x : OX) : NestedKey := .tup [.num (x.1 : Int), .tup [oK x.2.1, oK x.2.2]]
theorem tupKey_ox (x : OX) : MM.tupKey (oxD x) = some (nkx x) := by
  obtain ⟨k, o1, o2⟩ := x
  cases o1 <;> cases o2 <;> rfl
theorem oK_inj {a b : Option Int} (h : oK a = oK b) : a = b := by
  cases a <;> cases b <;> first | rfl | cases h | skip
  rfl
theorem nkx_inj {x y : OX} (h : nkx x = nkx y) : x = y := by
  obtain ⟨k, o1, o2⟩ := x
  obtain ⟨k', o1', o2'⟩ := y
  unfold nkx at h
  simp only [NestedKey.tup.injEq, List.cons.injEq, NestedKey.num.injEq, and_true] at h
  obtain ⟨h1, h2, h3⟩ := h
  rw [oK_inj h2, oK_inj h3, show k = k' by omega]
theorem nkx_iff {x y : OX} : (some (nkx x) = some (nkx y)) ↔ x = y := ⟨fun h => nkx_inj (Option.some.inj h), fun h => by rw [h]⟩
theorem find_os (l : OS) (x : OX) : ((osD l).find? fun p => decide (MM.tupKey p.1 = some (nkx x))) = (l.find? fun z => decide (z.1 = x)).map fun z => (oxD z.1, z.2.d) := by
  unfold osD
  rw [List.find?_map]
  congr 1
  refine congrArg (fun f => List.find? f l) (funext fun z => ?_)
  simp only [Function.comp_def, tupKey_ox, nkx_iff]
theorem look_os (l : OS) (x : OX) : lookT (osD l) (nkx x) = (l.find? fun z => decide (z.1 = x)).map fun z => z.2.d := by
  unfold lookT
  rw [find_os, Option.map_map]
  rfl
theorem put_os (l : OS) (x : OX) (c : OC) : putT (osD l) (oxD x) c.d (nkx x) = osD (osPut l x c) := by
  unfold putT osPut
  rw [look_os, Option.isSome_map]
  by_cases h : (l.find? fun z => decide (z.1 = x)).isSome = true
  · rw [if_pos h, if_pos h]
    unfold osD
    rw [List.map_map, List.map_map]
    refine List.map_congr_left fun z _ => ?_
    simp only [Function.comp_def, replT, tupKey_ox, nkx_iff]
    split <;> rfl
  · rw [if_neg h, if_neg h]
    simp [osD]
theorem osPut_len (l : OS) (x : OX) (c : OC) : (osPut l x c).length ≤ l.length + 1 := by
  unfold osPut
  split
  · simp
  · simp
theorem get_put (l : OS) (x y : OX) (c : OC) : osGet (osPut l x c) y = if y = x then c else osGet l y := by
  unfold osPut
  by_cases h : (l.find? fun z => decide (z.1 = x)).isSome = true
  · rw [if_pos h]
    unfold osGet
    rw [List.find?_map]
    have e : (fun z : OX × OC => decide (z.1 = y)) ∘ (fun z => if z.1 = x then (z.1, c) else z) = fun z => decide (z.1 = y) := by
      funext z
      simp only [Function.comp_def]
      split <;> rfl
    rw [e]
    by_cases hy : y = x
    · subst hy
      obtain ⟨z, hz⟩ := Option.isSome_iff_exists.mp h
      have hz2 := List.find?_some hz
      rw [hz]
      simp only [decide_eq_true_eq] at hz2
      simp [hz2]
    · rw [if_neg hy]
      cases hz : l.find? fun z => decide (z.1 = y) with
      | none => rfl
      | some z =>
        have hz2 := List.find?_some hz
        simp only [decide_eq_true_eq] at hz2
        have : ¬ z.1 = x := fun w => hy (by rw [← hz2, w])
        simp [this]
  · rw [if_neg h]
    unfold osGet
    rw [List.find?_append]
    have hn : (l.find? fun z => decide (z.1 = x)) = none := by
      cases q : l.find? fun z => decide (z.1 = x) with
      | none => rfl
      | some z => rw [q] at h; simp at h
    by_cases hy : y = x
    · subst hy
      rw [hn]
      simp
    · rw [if_neg hy]
      have : ¬ x = y := fun w => hy w.symm
      cases hz : l.find? fun z => decide (z.1 = y) with
      | none => simp [this]
      | some z => simp
def keyOf (k : KK) (x y : Int) : Kx := match k with
  | .acc => (some x, none)
  | .pla => (none, some y)
  | .both => (some x, some y)
theorem law_key {r : Rule} {s : D} {x y : Int} {ds : List D} {S : Sto} : m__law_key [.d r.d, .d (.tup (s :: .int x :: .int y :: ds))] S = some (.ok (.d (kxD (keyOf r.key x y))), S) := by
  unfold m__law_key b__law_key
  rw [funM_ap, if_pos (by simp)]
  obtain ⟨k, m, l, f, cl, gr, st⟩ := r
  have s1 : eqB (.str "account") (.str "account") = some true := by decide +kernel
  have s2 : eqB (.str "place") (.str "account") = some false := by decide +kernel
  have s3 : eqB (.str "both") (.str "account") = some false := by decide +kernel
  have s4 : eqB (.str "place") (.str "place") = some true := by decide +kernel
  have s5 : eqB (.str "both") (.str "place") = some false := by decide +kernel
  cases k <;> simp [frame0, Rule.d, KK.s, s1, s2, s3, s4, s5, z2, kxD, keyOf, oD]
theorem law_cell {S : Sto} {n : Nat} {l : OS} {k : Nat} {κ : Kx} (hn : S[n]? = some (.dit (osD l))) : m__law_cell [.loc n, .d (.int (k : Int)), .d (kxD κ)] S = some (.ok (.d (osGet l (k, κ)).d), S) := by
  unfold m__law_cell b__law_cell
  rw [funM_ap, if_pos (by simp)]
  have hk : MM.tupKey (.tup [.int (k : Int), kxD κ]) = some (nkx (k, κ)) := tupKey_ox (k, κ)
  have hg : (lookT (osD l) (nkx (k, κ))).getD (.tup [.int 0, .int 0, .int (-1), .int 0, .int 0]) = (osGet l (k, κ)).d := by
    rw [look_os]
    unfold osGet
    cases l.find? fun z => decide (z.1 = (k, κ)) <;> rfl
  simp [frame0, isDct, get2R, dgetF, hn, z2, z5, hk, hg]
def freshC (r : Rule) (c : OC) (t : Int) : OC := if 0 < c.count ∧ 0 < r.fade ∧ c.at_ + r.fade ≤ t then ⟨0, 0, c.til, c.whole, c.streak⟩ else c
theorem cut2 {a b c d e : D} : cutD [a, b, c, d, e] (some 2) none = [c, d, e] := rfl
theorem cut02 {a b c d e : D} : cutD [a, b, c, d, e] none (some 2) = [a, b] := rfl
theorem law_fresh {r : Rule} {c : OC} {t : Int} {S : Sto} : m__law_fresh [.d r.d, .d c.d, .d (.int t)] S = some (.ok (.d (freshC r c t).d), S) := by
  unfold m__law_fresh b__law_fresh
  rw [funM_ap, if_pos (by simp)]
  by_cases h1 : 0 < c.count <;> by_cases h2 : 0 < r.fade <;> by_cases h3 : c.at_ + r.fade ≤ t <;> simp [frame0, Rule.d, OC.d, freshC, h1, h2, h3, z2, z5, cut2]
def countedC (r : Rule) (c : OC) (t : Int) : OC :=
  if c.count + 1 < r.most then ⟨c.count + 1, t, c.til, c.whole, c.streak⟩
  else ⟨0, 0, t + r.lock * (if r.grows = true then fac c.streak else 1), r.lock * (if r.grows = true then fac c.streak else 1), c.streak + 1⟩
theorem law_counted {r : Rule} {c : OC} {t : Int} {S : Sto} (h0 : 0 ≤ c.streak) : m__law_counted [.d r.d, .d c.d, .d (.int t)] S = some (.ok (.d (countedC r c t).d), S) := by
  unfold m__law_counted b__law_counted
  rw [funM_ap, if_pos (by simp)]
  obtain ⟨k, m, l, f, cl, gr, st⟩ := r
  obtain ⟨co, at', ti, wh, sk⟩ := c
  have h0 : 0 ≤ sk := h0
  have c1 : CMul l 1 := cmul_small (.inl rfl)
  have c2 : CMul l 2 := cmul_small (.inr (.inl rfl))
  have c4 : CMul l 4 := cmul_small (.inr (.inr rfl))
  by_cases h1 : co + 1 < m
  · simp [frame0, Rule.d, OC.d, countedC, h1, z2, z5, cut2]
  · cases gr with
    | false => simp [frame0, Rule.d, OC.d, countedC, h1, z5]
    | true =>
      have hcase : sk = 0 ∨ sk = 1 ∨ sk = 2 ∨ 3 ≤ sk := by omega
      rcases hcase with rfl | rfl | rfl | h3
      · simp [frame0, Rule.d, OC.d, countedC, h1, z5, z4, fac, c1]
      · simp [frame0, Rule.d, OC.d, countedC, h1, z5, z4, fac, c2]
      · simp [frame0, Rule.d, OC.d, countedC, h1, z5, z4, fac, c4]
      · have e3 : (if 3 < sk then (3 : Int) else sk) = 3 := by split <;> omega
        have n0 : ¬ sk = 0 := by omega
        have n1 : ¬ sk = 1 := by omega
        simp [frame0, Rule.d, OC.d, countedC, h1, z5, z4, fac, c4, e3, n0, n1]
theorem inB_ints {k : Nat} {ks : List Nat} (hl : True) : inB (.int (k : Int)) (.lst (ks.map fun (i : Nat) => D.int (i : Int))) = some (decide (k ∈ ks)) := by
  rw [inB_lst rfl (okDs_all.mpr fun d hd => by obtain ⟨i, _, rfl⟩ := List.mem_map.mp hd; rfl) (by show (0 : Nat) ≤ 64; omega) (dpDs_le.mpr fun d hd => by obtain ⟨i, _, rfl⟩ := List.mem_map.mp hd; show (0 : Nat) ≤ 63; omega)]
  congr 1
  rw [List.any_map]
  by_cases h : k ∈ ks
  · rw [decide_eq_true h, List.any_eq_true]
    exact ⟨k, h, by show (_ == _) = true; simp⟩
  · rw [decide_eq_false h, List.any_eq_false]
    intro i hi
    show ¬ ((i : Int) == (k : Int)) = true
    simp
    intro e
    have : i = k := by omega
    rw [this] at hi
    exact h hi
end SH
namespace SH
open PySem PySem.Spec PyProof.Rows L2 MM
def natsD (ks : List Nat) : List D := ks.map fun (i : Nat) => D.int (i : Int)
theorem rngL_ints (n : Nat) : rngL 0 n = natsD (List.range n) := by
  unfold rngL natsD
  refine List.map_congr_left fun i _ => ?_
  simp
theorem rng1_nat {n : Nat} {ρ : Fr} {S : Sto} (h : n ≤ 100000000) : rng1R [.d (.int (n : Int))] ρ S = some (.ok (natsD (List.range n)), S) := by
  obtain ⟨m, hm⟩ : ∃ m : Int, (n : Int) = m := ⟨_, rfl⟩
  have e : m.toNat = n := by omega
  rw [rng1R_ap, hm]
  have c : -(2 ^ 62) ≤ m ∧ m < 2 ^ 62 := by constructor <;> omega
  show (if -(2 ^ 62) ≤ m ∧ m < 2 ^ 62 then _ else _) = _
  rw [if_pos c, e, rngL_ints]
theorem rngLen {i : Nat} {ρ : Fr} {S : Sto} {ds : List D} (hi : ρ[i]? = some (some (.r (.d (.lst ds))))) (h : ds.length ≤ 100000000) : iRng1M (consA (callM lenF (consA (varM i) (nilA))) (nilA)) ρ S = some (.ok (natsD (List.range ds.length)), S) := by
  have e : (consA (callM lenF (consA (varM i) (nilA))) (nilA)) ρ S = some (.ok [.d (.int (ds.length : Int))], S) := by simp [hi]
  show MM.bindM _ rng1R ρ S = _
  unfold MM.bindM
  rw [e]
  exact rng1_nat h
def ruleAt (rs : List Rule) (k : Nat) : Rule := rs.getD k default
theorem ix_rules {rs : List Rule} {k : Nat} (h : k < rs.length) : atI (rulesD rs) (k : Int) = some (ruleAt rs k).d := by
  rw [atI_nat (by simpa [rulesD] using h)]
  unfold rulesD ruleAt
  rw [List.getElem?_map, List.getElem?_eq_getElem h, List.getD_eq_getElem?_getD, List.getElem?_eq_getElem h]
  rfl
def heldB (rs : List Rule) (l : OS) (t x y : Int) (k : Nat) : Bool := decide (t ≤ (osGet l (k, keyOf (ruleAt rs k).key x y)).til)
def heldK (rs : List Rule) (l : OS) (t x y : Int) : List Nat := (List.range rs.length).filter (heldB rs l t x y)
section
variable {S : Sto} {n : Nat} {l : OS} {rs : List Rule}
theorem locked_loop {t x y : Int} (hn : S[n]? = some (.dit (osD l))) : ∀ (ks acc : List Nat) (e6 e7 : Option Ent), (∀ k ∈ ks, k < rs.length) → acc.length + ks.length ≤ 1000 → ∃ e6' e7',
    loopM (nameT 6) (seqM (setM 7 (callN 2 m__law_key (consA (op2M ixD (varM 0) (varM 6)) (consA (tupM (consA (litM (.str "try")) (consA (varM 3) (consA (varM 4) (nilA))))) (nilA))))) (ifM (bT (op2M geD (op2M ixD (callN 3 m__law_cell (consA (varM 1) (consA (varM 6) (consA (varM 7) (nilA))))) (litM (.int 2))) (varM 2))) (appM (varM 5) (varM 6)) (nxM))) (natsD ks)
      [some (.r (.d (.lst (rulesD rs)))), some (.r (.loc n)), some (.r (.d (.int t))), some (.r (.d (.int x))), some (.r (.d (.int y))), some (.own (.lst (natsD acc))), e6, e7] S
      = some (.nx, [some (.r (.d (.lst (rulesD rs)))), some (.r (.loc n)), some (.r (.d (.int t))), some (.r (.d (.int x))), some (.r (.d (.int y))), some (.own (.lst (natsD (acc ++ ks.filter (heldB rs l t x y))))), e6', e7'], S)
  | [], acc, e6, e7, _, _ => ⟨e6, e7, by simp [natsD]⟩
  | k :: ks, acc, e6, e7, hk, hl => by
    simp only [List.length_cons] at hl
    have hlt : acc.length < sizeLine := slt (by omega)
    have ix := ix_rules (hk k (by simp))
    have hc : ∀ κ : Kx, m__law_cell [.loc n, .d (.int (k : Int)), .d (kxD κ)] S = some (.ok (.d (osGet l (k, κ)).d), S) := fun κ => law_cell hn
    have key := law_key (r := ruleAt rs k) (s := .str "try") (x := x) (y := y) (ds := []) (S := S)
    by_cases c : heldB rs l t x y k = true
    · obtain ⟨e6', e7', ih⟩ := locked_loop (t := t) (x := x) (y := y) hn ks (acc ++ [k]) (some (.r (.d (.int (k : Int))))) (some (.r (.d (kxD (keyOf (ruleAt rs k).key x y))))) (fun k hk' => hk k (List.mem_cons_of_mem _ hk')) (by simp; omega)
      refine ⟨e6', e7', ?_⟩
      have c' := c
      unfold heldB at c'
      simp only [decide_eq_true_eq] at c'
      unfold natsD
      rw [List.map_cons, loopM_cons]
      simp [ix, z3, key, hc, OC.d, c', hlt]
      simp [natsD] at ih
      rw [ih]
      simp [c]
    · obtain ⟨e6', e7', ih⟩ := locked_loop (t := t) (x := x) (y := y) hn ks acc (some (.r (.d (.int (k : Int))))) (some (.r (.d (kxD (keyOf (ruleAt rs k).key x y))))) (fun k hk' => hk k (List.mem_cons_of_mem _ hk')) (by omega)
      refine ⟨e6', e7', ?_⟩
      have c' := c
      unfold heldB at c'
      simp only [decide_eq_true_eq] at c'
      unfold natsD
      rw [List.map_cons, loopM_cons]
      simp [ix, z3, key, hc, OC.d, c']
      simp [natsD] at ih
      rw [ih]
      simp [c]
theorem locked_fun {t x y : Int} {body : SM} {J : NM} {T : TgM} {ds es : List D} {e6 e7 : Option Ent} (hJ : ∀ ρ, ρ[0]? = some (some (.r (.d (.lst (rulesD rs))))) → J ρ S = some (.ok ds, S))
    (h : loopM T body ds [some (.r (.d (.lst (rulesD rs)))), some (.r (.loc n)), some (.r (.d (.int t))), some (.r (.d (.int x))), some (.r (.d (.int y))), some (.own (.lst [])), none, none] S = some (.nx, [some (.r (.d (.lst (rulesD rs)))), some (.r (.loc n)), some (.r (.d (.int t))), some (.r (.d (.int x))), some (.r (.d (.int y))), some (.own (.lst es)), e6, e7], S)) :
    funM true 5 3 (seqM (ownM 5 (newR (nilA))) (seqM (MM.forM J T body) (seqM (frzS 5) (retM (varM 5))))) [.d (.lst (rulesD rs)), .loc n, .d (.int t), .d (.int x), .d (.int y)] S = some (.ok (.d (.lst es)), S) := by
  rw [funM_ap, if_pos (by simp)]
  simp [frame0, hJ, h]
theorem law_locked {t x y : Int} (hn : S[n]? = some (.dit (osD l))) (hl : rs.length ≤ 3) : m__law_locked [.d (.lst (rulesD rs)), .loc n, .d (.int t), .d (.int x), .d (.int y)] S = some (.ok (.d (.lst (natsD (heldK rs l t x y)))), S) := by
  obtain ⟨e6, e7, h⟩ := locked_loop (rs := rs) (t := t) (x := x) (y := y) hn (List.range rs.length) [] none none (fun k hk => List.mem_range.mp hk) (by simp; omega)
  have hlen : (rulesD rs).length = rs.length := by simp [rulesD]
  exact locked_fun (fun ρ hi => by rw [rngLen (ds := rulesD rs) hi (by omega), hlen]) h
/-- what one rule's cell is behind a try -/
def newC (rs : List Rule) (l : OS) (t x y : Int) (right : Bool) (k : Nat) : OC :=
  let r := ruleAt rs k
  let c := freshC r (osGet l (k, keyOf r.key x y)) t
  if (heldK rs l t x y).isEmpty = false then (if heldB rs l t x y k = true ∧ r.strict = true then ⟨c.count, c.at_, t + c.whole, c.whole, c.streak⟩ else c)
  else if right = true then (if r.clears = true then OC.zero else c) else countedC r c t
/-- the cells behind the rules ks -/
def tryOS (rs : List Rule) (l0 : OS) (t x y : Int) (right : Bool) (ks : List Nat) (l : OS) : OS := ks.foldl (fun l k => osPut l (k, keyOf (ruleAt rs k).key x y) (newC rs l0 t x y right k)) l
theorem tryOS_len {l0 : OS} {t x y : Int} {right : Bool} : ∀ (ks : List Nat) (l : OS), (tryOS rs l0 t x y right ks l).length ≤ l.length + ks.length
  | [], l => by simp [tryOS]
  | k :: ks, l => by
    have := tryOS_len (l0 := l0) (t := t) (x := x) (y := y) (right := right) ks (osPut l (k, keyOf (ruleAt rs k).key x y) (newC rs l0 t x y right k))
    have h2 := osPut_len l (k, keyOf (ruleAt rs k).key x y) (newC rs l0 t x y right k)
    unfold tryOS at this ⊢
    rw [List.foldl_cons, List.length_cons]
    omega
theorem tryOS_get {l0 : OS} {t x y : Int} {right : Bool} : ∀ (ks : List Nat) (l : OS) (z : OX), osGet (tryOS rs l0 t x y right ks l) z = if z.1 ∈ ks ∧ z.2 = keyOf (ruleAt rs z.1).key x y then newC rs l0 t x y right z.1 else osGet l z
  | [], l, z => by simp [tryOS]
  | k :: ks, l, z => by
    have := tryOS_get (l0 := l0) (t := t) (x := x) (y := y) (right := right) ks (osPut l (k, keyOf (ruleAt rs k).key x y) (newC rs l0 t x y right k)) z
    unfold tryOS at this ⊢
    rw [List.foldl_cons, this, get_put]
    by_cases h1 : z.1 ∈ ks ∧ z.2 = keyOf (ruleAt rs z.1).key x y
    · rw [if_pos h1, if_pos ⟨List.mem_cons_of_mem _ h1.1, h1.2⟩]
    · rw [if_neg h1]
      by_cases h2 : z = (k, keyOf (ruleAt rs k).key x y)
      · rw [if_pos h2, if_pos (by rw [h2]; simp), h2]
      · rw [if_neg h2, if_neg]
        rintro ⟨q1, q2⟩
        rcases List.mem_cons.mp q1 with e | e
        · exact h2 (Prod.ext e (by rw [q2, e]))
        · exact h1 ⟨e, q2⟩
def doTry (rs : List Rule) (l : OS) (t x y : Int) (right : Bool) : Str × OS := (if (heldK rs l t x y).isEmpty = false then "kept" else if right = true then "in" else "wrong", tryOS rs l t x y right (List.range rs.length) l)
theorem fresh_streak {r : Rule} {c : OC} {t : Int} : (freshC r c t).streak = c.streak := by unfold freshC; split <;> rfl
end
end SH
namespace SH
open PySem PySem.Spec PyProof.Rows L2 MM
@[simp] theorem dputM_ap {me mo mi : EM} {ρ : Fr} {S : Sto} : dputM me mo mi ρ S = thenM me (fun a => thenM mo fun o => thenM mi fun i => mutC o (dputC i a)) ρ S := rfl
@[simp] theorem mutC_loc {n : Nat} {f : Cell → Option Cell} {ρ : Fr} {S : Sto} : mutC (.loc n) f ρ S = match S[n]? with
  | some c => match f c with
    | some c' => some (.nx, ρ, S.set n c')
    | none => none
  | none => none := rfl
theorem dput_os {l : OS} {x : OX} {c : OC} (hl : l.length ≤ 16000000) : dputC (.d (oxD x)) (.d c.d) (.dit (osD l)) = some (.dit (osD (osPut l x c))) := by
  show (if (osD l).length < sizeLine then (MM.tupKey (oxD x)).map fun n => Cell.dit (putT (osD l) (oxD x) c.d n) else none) = _
  rw [if_pos (by unfold osD; rw [List.length_map]; exact slt hl), tupKey_ox]
  show some (Cell.dit (putT (osD l) (oxD x) c.d (nkx x))) = _
  rw [put_os]
/-! ### open -/
def hasX (l : OS) (x : OX) : Bool := (l.find? fun z => decide (z.1 = x)).isSome
theorem hasX_put (l : OS) (x y : OX) (c : OC) (h : hasX l y = true) : hasX (osPut l x c) y = true := by
  unfold hasX osPut at *
  split
  · rw [List.find?_isSome] at h ⊢
    obtain ⟨z, h1, h2⟩ := h
    refine ⟨_, List.mem_map.mpr ⟨z, h1, rfl⟩, ?_⟩
    split <;> exact h2
  · rw [List.find?_append]
    obtain ⟨z, hz⟩ := Option.isSome_iff_exists.mp h
    rw [hz]; rfl
theorem len_put (l : OS) (x : OX) (c : OC) (h : hasX l x = true) : (osPut l x c).length = l.length := by
  unfold hasX at h
  unfold osPut
  rw [if_pos h]
  simp
def opnOS (x : Int) (ks : List OX) (l : OS) : OS := ks.foldl (fun l k => if k.2.1 = some x then osPut l k OC.zero else l) l
theorem opnOS_len (x : Int) : ∀ (ks : List OX) (l : OS), (∀ k ∈ ks, hasX l k = true) → (opnOS x ks l).length = l.length
  | [], l, _ => rfl
  | k :: ks, l, h => by
    have h1 := h k (by simp)
    have ih := opnOS_len x ks (if k.2.1 = some x then osPut l k OC.zero else l) (fun z hz => by
      have h2 := h z (List.mem_cons_of_mem _ hz)
      split
      · exact hasX_put _ _ _ _ h2
      · exact h2)
    unfold opnOS at ih ⊢
    rw [List.foldl_cons, ih]
    split
    · exact len_put _ _ _ h1
    · rfl
theorem opnOS_get (x : Int) : ∀ (ks : List OX) (l : OS) (z : OX), osGet (opnOS x ks l) z = if z ∈ ks ∧ z.2.1 = some x then OC.zero else osGet l z
  | [], l, z => by simp [opnOS]
  | k :: ks, l, z => by
    have ih := opnOS_get x ks (if k.2.1 = some x then osPut l k OC.zero else l) z
    unfold opnOS at ih ⊢
    rw [List.foldl_cons, ih]
    by_cases h1 : z ∈ ks ∧ z.2.1 = some x
    · rw [if_pos h1, if_pos ⟨List.mem_cons_of_mem _ h1.1, h1.2⟩]
    · rw [if_neg h1]
      by_cases h2 : k.2.1 = some x
      · rw [if_pos h2, get_put]
        by_cases h3 : z = k
        · rw [if_pos h3, if_pos ⟨by rw [h3]; simp, by rw [h3]; exact h2⟩]
        · rw [if_neg h3, if_neg]
          rintro ⟨q1, q2⟩
          rcases List.mem_cons.mp q1 with e | e
          · exact h3 e
          · exact h1 ⟨e, q2⟩
      · rw [if_neg h2, if_neg]
        rintro ⟨q1, q2⟩
        rcases List.mem_cons.mp q1 with e | e
        · exact h2 (by rw [← e]; exact q2)
        · exact h1 ⟨e, q2⟩
def doOpn (x : Int) (l : OS) : OS := opnOS x (l.map (·.1)) l
theorem has_keys (l : OS) : ∀ k ∈ l.map (·.1), hasX l k = true := fun k hk => by
  obtain ⟨z, hz, rfl⟩ := List.mem_map.mp hk
  unfold hasX
  rw [List.find?_isSome]
  exact ⟨z, hz, by simp⟩
theorem doOpn_len (x : Int) (l : OS) : (doOpn x l).length = l.length := opnOS_len x _ l (has_keys l)
theorem get_none (l : OS) (z : OX) (h : z ∉ l.map (·.1)) : osGet l z = OC.zero := by
  unfold osGet
  have : (l.find? fun y => decide (y.1 = z)) = none := by
    rw [List.find?_eq_none]
    intro y hy e
    simp only [decide_eq_true_eq] at e
    exact h (List.mem_map.mpr ⟨y, hy, e⟩)
  rw [this]
theorem doOpn_get (x : Int) (l : OS) (z : OX) : osGet (doOpn x l) z = if z.2.1 = some x then OC.zero else osGet l z := by
  unfold doOpn
  rw [opnOS_get]
  by_cases h : z.2.1 = some x
  · rw [if_pos h]
    by_cases h2 : z ∈ l.map (·.1)
    · rw [if_pos ⟨h2, h⟩]
    · rw [if_neg (fun q => h2 q.1), get_none l z h2]
  · rw [if_neg h, if_neg (fun q => h q.2)]
theorem opn_loop {S : Sto} {n : Nat} {x : Int} {R0 T : D} {s : D} {e5 e6 e7 e8 e9 : Option Ent} (hn : n < S.length) : ∀ (ks : List OX) (l : OS) (e4 : Option Ent), (∀ k ∈ ks, hasX l k = true) → l.length ≤ 16000000 → ∃ e4',
    loopM (nameT 4) (ifM (bT (op2M eqD (op2M ixD (op2M ixD (varM 4) (litM (.int 1))) (litM (.int 0))) (op2M ixD (varM 3) (litM (.int 1))))) (dputM (tupM (consA (litM (.int 0)) (consA (litM (.int 0)) (consA (negM (litM (.int 1))) (consA (litM (.int 0)) (consA (litM (.int 0)) (nilA))))))) (varM 1) (varM 4)) (nxM)) (ks.map oxD)
      [some (.r (.d R0)), some (.r (.loc n)), some (.r (.d T)), some (.r (.d (.tup [s, .int x]))), e4, e5, e6, e7, e8, e9] (S.set n (.dit (osD l)))
      = some (.nx, [some (.r (.d R0)), some (.r (.loc n)), some (.r (.d T)), some (.r (.d (.tup [s, .int x]))), e4', e5, e6, e7, e8, e9], S.set n (.dit (osD (opnOS x ks l))))
  | [], l, e4, _, _ => ⟨e4, by simp [opnOS]⟩
  | k :: ks, l, e4, h, hl => by
    have h1 := h k (by simp)
    have hz := dput_os (l := l) (x := k) (c := OC.zero) hl
    obtain ⟨e4', ih⟩ := opn_loop (R0 := R0) (T := T) (s := s) (e5 := e5) (e6 := e6) (e7 := e7) (e8 := e8) (e9 := e9) (x := x) hn ks (if k.2.1 = some x then osPut l k OC.zero else l) (some (.r (.d (oxD k)))) (fun z hz => by
      have h2 := h z (List.mem_cons_of_mem _ hz)
      split
      · exact hasX_put _ _ _ _ h2
      · exact h2) (by
      split
      · rw [len_put _ _ _ h1]; exact hl
      · exact hl)
    refine ⟨e4', ?_⟩
    have hg : (S.set n (.dit (osD l)))[n]? = some (.dit (osD l)) := List.getElem?_set_self hn
    rw [List.map_cons, loopM_cons]
    unfold opnOS at ih ⊢
    rw [List.foldl_cons]
    by_cases c : k.2.1 = some x
    · simp only [if_pos c] at ih ⊢
      simp [OC.d, OC.zero] at hz
      simp [oxD, kxD, eqB_opt, c, z5, hg] at hz ih ⊢
      simp [OC.zero] at ih ⊢
      simp [hz, ih, hg]
    · simp only [if_neg c] at ih ⊢
      simp [oxD, kxD, eqB_opt, c] at ih ⊢
      simp [ih]
end SH
namespace SH
open PySem PySem.Spec PyProof.Rows L2 MM
theorem cat_cut {c : OC} {t : Int} : addD (.tup (cutD [.int c.count, .int c.at_, .int c.til, .int c.whole, .int c.streak] none (some 2))) (.tup [.int (t + c.whole), .int c.whole, .int c.streak]) = some (.tup [.int c.count, .int c.at_, .int (t + c.whole), .int c.whole, .int c.streak]) := by
  rw [cut02, addD_tup, if_pos (by show (5 : Nat) ≤ sizeLine; exact z5)]
  rfl
def tryBody : SM := seqM (setM 7 (op2M ixD (varM 0) (varM 6))) (seqM (setM 8 (callN 2 m__law_key (consA (varM 7) (consA (varM 3) (nilA))))) (seqM (setM 9 (callN 3 m__law_fresh (consA (varM 7) (consA (callN 3 m__law_cell (consA (varM 1) (consA (varM 6) (consA (varM 8) (nilA))))) (consA (varM 2) (nilA)))))) (seqM (ifM (bT (op2M gtD (callM lenF (consA (varM 5) (nilA))) (litM (.int 0)))) (ifM (andT (bT (op2M inD (varM 6) (varM 5))) (truM (op2M ixD (varM 7) (litM (.int 6))))) (setM 9 (op2M addD (slM (varM 9) (noP) (partM (litM (.int 2)))) (tupM (consA (op2M addD (varM 2) (op2M ixD (varM 9) (litM (.int 3)))) (consA (op2M ixD (varM 9) (litM (.int 3))) (consA (op2M ixD (varM 9) (litM (.int 4))) (nilA))))))) (nxM)) (ifM (truM (op2M ixD (varM 3) (litM (.int 3)))) (ifM (truM (op2M ixD (varM 7) (litM (.int 4)))) (setM 9 (tupM (consA (litM (.int 0)) (consA (litM (.int 0)) (consA (negM (litM (.int 1))) (consA (litM (.int 0)) (consA (litM (.int 0)) (nilA)))))))) (nxM)) (setM 9 (callN 3 m__law_counted (consA (varM 7) (consA (varM 9) (consA (varM 2) (nilA)))))))) (dputM (varM 9) (varM 1) (tupM (consA (varM 6) (consA (varM 8) (nilA))))))))
def tryMid : SM := ifM (bT (op2M gtD (callM lenF (consA (varM 5) (nilA))) (litM (.int 0)))) (ifM (andT (bT (op2M inD (varM 6) (varM 5))) (truM (op2M ixD (varM 7) (litM (.int 6))))) (setM 9 (op2M addD (slM (varM 9) (noP) (partM (litM (.int 2)))) (tupM (consA (op2M addD (varM 2) (op2M ixD (varM 9) (litM (.int 3)))) (consA (op2M ixD (varM 9) (litM (.int 3))) (consA (op2M ixD (varM 9) (litM (.int 4))) (nilA))))))) (nxM)) (ifM (truM (op2M ixD (varM 3) (litM (.int 3)))) (ifM (truM (op2M ixD (varM 7) (litM (.int 4)))) (setM 9 (tupM (consA (litM (.int 0)) (consA (litM (.int 0)) (consA (negM (litM (.int 1))) (consA (litM (.int 0)) (consA (litM (.int 0)) (nilA)))))))) (nxM)) (setM 9 (callN 3 m__law_counted (consA (varM 7) (consA (varM 9) (consA (varM 2) (nilA)))))))
def midC (r : Rule) (c : OC) (t : Int) (hs : List Nat) (right : Bool) (k : Nat) : OC :=
  if hs.isEmpty = false then (if k ∈ hs ∧ r.strict = true then ⟨c.count, c.at_, t + c.whole, c.whole, c.streak⟩ else c)
  else if right = true then (if r.clears = true then OC.zero else c) else countedC r c t
theorem try_mid {S : Sto} {e0 e1 e4 e8 : Option Ent} {r : Rule} {c : OC} {t x y : Int} {right : Bool} {hs : List Nat} {k : Nat} (h0 : 0 ≤ c.streak) :
    tryMid [e0, e1, some (.r (.d (.int t))), some (.r (.d (Act.tri x y right).d)), e4, some (.r (.d (.lst (natsD hs)))), some (.r (.d (.int (k : Int)))), some (.r (.d r.d)), e8, some (.r (.d c.d))] S
      = some (.nx, [e0, e1, some (.r (.d (.int t))), some (.r (.d (Act.tri x y right).d)), e4, some (.r (.d (.lst (natsD hs)))), some (.r (.d (.int (k : Int)))), some (.r (.d r.d)), e8, some (.r (.d (midC r c t hs right k).d))], S) := by
  have hin := inB_ints (k := k) (ks := hs) trivial
  have hc := law_counted (r := r) (c := c) (t := t) (S := S) h0
  have hcat := cat_cut (c := c) (t := t)
  unfold tryMid
  by_cases h1 : hs.isEmpty = false
  · have hl : ¬ natsD hs = [] := by
      cases hs with
      | nil => cases h1
      | cons _ _ => unfold natsD; simp
    have hin2 : inB (.int (k : Int)) (.lst (natsD hs)) = some (decide (k ∈ hs)) := hin
    by_cases h2 : k ∈ hs
    · cases h3 : r.strict with
      | true => simp [hl, hin2, h2, Rule.d, OC.d, h3, midC, h1, z3, hcat]
      | false => simp [hl, hin2, h2, Rule.d, OC.d, h3, midC, h1]
    · simp [hl, hin2, h2, Rule.d, OC.d, midC, h1]
  · have he : hs = [] := by
      cases hs with
      | nil => rfl
      | cons _ _ => simp at h1
    subst he
    cases right with
    | true =>
      cases h3 : r.clears with
      | true => simp [natsD, Rule.d, OC.d, Act.d, h3, midC, OC.zero, z5]
      | false => simp [natsD, Rule.d, OC.d, Act.d, h3, midC]
    | false => simp [natsD, Act.d, midC, hc]
end SH
namespace SH
open PySem PySem.Spec PyProof.Rows L2 MM
theorem newC_mid {rs : List Rule} {l0 : OS} {t x y : Int} {right : Bool} {k : Nat} (hk : k < rs.length) :
    newC rs l0 t x y right k = midC (ruleAt rs k) (freshC (ruleAt rs k) (osGet l0 (k, keyOf (ruleAt rs k).key x y)) t) t (heldK rs l0 t x y) right k := by
  unfold newC midC
  have e : (k ∈ heldK rs l0 t x y) ↔ heldB rs l0 t x y k = true := by
    unfold heldK
    rw [List.mem_filter]
    exact ⟨fun h => h.2, fun h => ⟨List.mem_range.mpr hk, h⟩⟩
  simp only [e]
theorem tryBody_eq : tryBody = seqM (setM 7 (op2M ixD (varM 0) (varM 6))) (seqM (setM 8 (callN 2 m__law_key (consA (varM 7) (consA (varM 3) (nilA))))) (seqM (setM 9 (callN 3 m__law_fresh (consA (varM 7) (consA (callN 3 m__law_cell (consA (varM 1) (consA (varM 6) (consA (varM 8) (nilA))))) (consA (varM 2) (nilA)))))) (seqM tryMid (dputM (varM 9) (varM 1) (tupM (consA (varM 6) (consA (varM 8) (nilA)))))))) := rfl
theorem try_loop {S : Sto} {n : Nat} {rs : List Rule} {l0 : OS} {t x y : Int} {right : Bool} {e4 : Option Ent} (hn : n < S.length) (hsk : ∀ z, 0 ≤ (osGet l0 z).streak) :
    ∀ (ks : List Nat) (l : OS) (e6 e7 e8 e9 : Option Ent), (∀ k ∈ ks, k < rs.length) → ks.Nodup → (∀ k ∈ ks, ∀ κ : Kx, osGet l (k, κ) = osGet l0 (k, κ)) → l.length + ks.length ≤ 16000000 → ∃ e6' e7' e8' e9',
    loopM (nameT 6) tryBody (natsD ks)
      [some (.r (.d (.lst (rulesD rs)))), some (.r (.loc n)), some (.r (.d (.int t))), some (.r (.d (Act.tri x y right).d)), e4, some (.r (.d (.lst (natsD (heldK rs l0 t x y))))), e6, e7, e8, e9] (S.set n (.dit (osD l)))
      = some (.nx, [some (.r (.d (.lst (rulesD rs)))), some (.r (.loc n)), some (.r (.d (.int t))), some (.r (.d (Act.tri x y right).d)), e4, some (.r (.d (.lst (natsD (heldK rs l0 t x y))))), e6', e7', e8', e9'], S.set n (.dit (osD (tryOS rs l0 t x y right ks l))))
  | [], l, e6, e7, e8, e9, _, _, _, _ => ⟨e6, e7, e8, e9, by simp [natsD, tryOS]⟩
  | k :: ks, l, e6, e7, e8, e9, hk, hnd, hg, hl => by
    simp only [List.length_cons] at hl
    have hk0 := hk k (by simp)
    have ix := ix_rules hk0
    have hgn : (S.set n (.dit (osD l)))[n]? = some (.dit (osD l)) := List.getElem?_set_self hn
    have hc : ∀ κ : Kx, m__law_cell [.loc n, .d (.int (k : Int)), .d (kxD κ)] (S.set n (.dit (osD l))) = some (.ok (.d (osGet l0 (k, κ)).d), S.set n (.dit (osD l))) := fun κ => by rw [← hg k (by simp) κ]; exact law_cell hgn
    have key := law_key (r := ruleAt rs k) (s := .str "try") (x := x) (y := y) (ds := [.bl right]) (S := S.set n (.dit (osD l)))
    have hf := law_fresh (r := ruleAt rs k) (c := osGet l0 (k, keyOf (ruleAt rs k).key x y)) (t := t) (S := S.set n (.dit (osD l)))
    have hmid := try_mid (S := S.set n (.dit (osD l))) (e0 := some (.r (.d (.lst (rulesD rs))))) (e1 := some (.r (.loc n))) (e4 := e4) (e8 := some (.r (.d (kxD (keyOf (ruleAt rs k).key x y))))) (r := ruleAt rs k) (c := freshC (ruleAt rs k) (osGet l0 (k, keyOf (ruleAt rs k).key x y)) t) (t := t) (x := x) (y := y) (right := right) (hs := heldK rs l0 t x y) (k := k) (by rw [fresh_streak]; exact hsk _)
    have hput := dput_os (l := l) (x := (k, keyOf (ruleAt rs k).key x y)) (c := midC (ruleAt rs k) (freshC (ruleAt rs k) (osGet l0 (k, keyOf (ruleAt rs k).key x y)) t) t (heldK rs l0 t x y) right k) (by omega)
    rw [← newC_mid hk0] at hmid hput
    obtain ⟨q1, q2⟩ := List.nodup_cons.mp hnd
    obtain ⟨e6', e7', e8', e9', ih⟩ := try_loop (rs := rs) (x := x) (y := y) (t := t) (right := right) (e4 := e4) hn hsk ks (osPut l (k, keyOf (ruleAt rs k).key x y) (newC rs l0 t x y right k)) (some (.r (.d (.int (k : Int))))) (some (.r (.d (ruleAt rs k).d))) (some (.r (.d (kxD (keyOf (ruleAt rs k).key x y))))) (some (.r (.d (newC rs l0 t x y right k).d))) (fun z hz => hk z (List.mem_cons_of_mem _ hz)) q2 (fun z hz κ => by
      rw [get_put, if_neg]
      · exact hg z (List.mem_cons_of_mem _ hz) κ
      · intro e
        have : z = k := congrArg Prod.fst e
        exact q1 (by rw [← this]; exact hz)) (by have := osPut_len l (k, keyOf (ruleAt rs k).key x y) (newC rs l0 t x y right k); omega)
    refine ⟨e6', e7', e8', e9', ?_⟩
    have e : natsD (k :: ks) = .int (k : Int) :: natsD ks := rfl
    have et : tryOS rs l0 t x y right (k :: ks) l = tryOS rs l0 t x y right ks (osPut l (k, keyOf (ruleAt rs k).key x y) (newC rs l0 t x y right k)) := rfl
    rw [e, et, loopM_cons, ← ih]
    have key' : m__law_key [.d (ruleAt rs k).d, .d (Act.tri x y right).d] (S.set n (.dit (osD l))) = some (.ok (.d (kxD (keyOf (ruleAt rs k).key x y))), S.set n (.dit (osD l))) := key
    have hput' : dputC (.d (.tup [.int (k : Int), kxD (keyOf (ruleAt rs k).key x y)])) (.d (newC rs l0 t x y right k).d) (.dit (osD l)) = some (.dit (osD (osPut l (k, keyOf (ruleAt rs k).key x y) (newC rs l0 t x y right k)))) := hput
    rw [tryBody_eq]
    simp [ix, key', hc, hf]
    rw [hmid]
    simp [z2, hgn, hput']
end SH
namespace SH
open PySem PySem.Spec PyProof.Rows L2 MM
def doS (rs : List Rule) (l : OS) (t : Int) : Act → Str × OS
  | .non => ("none", l)
  | .opn x => ("opened", doOpn x l)
  | .tri x y right => doTry rs l t x y right
theorem set_self {α : Type} {S : List α} {n : Nat} {c : α} (h : S[n]? = some c) : S.set n c = S := by
  apply List.ext_getElem?
  intro j
  by_cases hj : n = j
  · subst hj
    rw [List.getElem?_set_self (List.getElem?_eq_some_iff.mp h).1, h]
  · rw [List.getElem?_set_ne hj]
def doF (LO : SM) (HC : EM) (J : NM) (B : SM) : SM := seqM (ifM (bT (op2M isD (varM 3) (litM .non))) (retM (litM (.str "none"))) (nxM)) (seqM (ifM (bT (op2M eqD (op2M ixD (varM 3) (litM (.int 0))) (litM (.str "open")))) (seqM LO (retM (litM (.str "opened")))) (nxM)) (seqM (setM 5 HC) (seqM (MM.forM J (nameT 6) B) (seqM (ifM (bT (op2M gtD (callM lenF (consA (varM 5) (nilA))) (litM (.int 0)))) (retM (litM (.str "kept"))) (nxM)) (seqM (ifM (truM (op2M ixD (varM 3) (litM (.int 3)))) (retM (litM (.str "in"))) (nxM)) (retM (litM (.str "wrong"))))))))
section
variable {LO : SM} {HC : EM} {J : NM} {B : SM} {S S' : Sto} {n : Nat} {R0 : D} {t x y : Int} {right : Bool} {ds hs : List D}
theorem do_non : funM true 4 6 (doF LO HC J B) [.d R0, .loc n, .d (.int t), .d Act.non.d] S = some (.ok (.d (.str "none")), S) := by
  unfold doF
  rw [funM_ap, if_pos (by simp)]
  simp [frame0, Act.d]
theorem do_opn {ρ' : Fr} (h : LO (frame0 [.d R0, .loc n, .d (.int t), .d (Act.opn x).d] 6) S = some (.nx, ρ', S')) : funM true 4 6 (doF LO HC J B) [.d R0, .loc n, .d (.int t), .d (Act.opn x).d] S = some (.ok (.d (.str "opened")), S') := by
  unfold doF
  rw [funM_ap, if_pos (by simp)]
  simp [frame0, Act.d, eqB_oo] at h ⊢
  simp [h]
theorem do_tri {e6 e7 e8 e9 : Option Ent} (hH : HC (frame0 [.d R0, .loc n, .d (.int t), .d (Act.tri x y right).d] 6) S = some (.ok (.d (.lst hs)), S)) (hJ : ∀ ρ, ρ[0]? = some (some (.r (.d R0))) → J ρ S = some (.ok ds, S))
    (h : loopM (nameT 6) B ds [some (.r (.d R0)), some (.r (.loc n)), some (.r (.d (.int t))), some (.r (.d (Act.tri x y right).d)), none, some (.r (.d (.lst hs))), none, none, none, none] S = some (.nx, [some (.r (.d R0)), some (.r (.loc n)), some (.r (.d (.int t))), some (.r (.d (Act.tri x y right).d)), none, some (.r (.d (.lst hs))), e6, e7, e8, e9], S')) :
    funM true 4 6 (doF LO HC J B) [.d R0, .loc n, .d (.int t), .d (Act.tri x y right).d] S = some (.ok (.d (.str (if hs.isEmpty = false then "kept" else if right = true then "in" else "wrong"))), S') := by
  unfold doF
  rw [funM_ap, if_pos (by simp)]
  cases hs with
  | nil => cases right <;> (simp [frame0, Act.d, eqB_to, hJ] at h hH ⊢; simp [hH, hJ, h])
  | cons z hs =>
    have c : (0 : Int) < (hs.length : Int) + 1 := by omega
    simp [frame0, Act.d, eqB_to, hJ] at h hH ⊢
    simp [hH, hJ, h, c]
end
theorem law_do {S : Sto} {n : Nat} {rs : List Rule} {l : OS} {t : Int} {act : Act} (hn : S[n]? = some (.dit (osD l))) (hl : rs.length ≤ 3) (hlen : l.length ≤ 15000000) (hsk : ∀ z, 0 ≤ (osGet l z).streak) :
    m__law_do [.d (.lst (rulesD rs)), .loc n, .d (.int t), .d act.d] S = some (.ok (.d (.str (doS rs l t act).1)), S.set n (.dit (osD (doS rs l t act).2))) := by
  have hlt : n < S.length := (List.getElem?_eq_some_iff.mp hn).1
  have hself : S.set n (.dit (osD l)) = S := set_self hn
  cases act with
  | non =>
    have := do_non (LO := MM.forM (iSeqM (callM keysF (consA (varM 1) (nilA)))) (nameT 4) (ifM (bT (op2M eqD (op2M ixD (op2M ixD (varM 4) (litM (.int 1))) (litM (.int 0))) (op2M ixD (varM 3) (litM (.int 1))))) (dputM (tupM (consA (litM (.int 0)) (consA (litM (.int 0)) (consA (negM (litM (.int 1))) (consA (litM (.int 0)) (consA (litM (.int 0)) (nilA))))))) (varM 1) (varM 4)) (nxM))) (HC := callN 5 m__law_locked (consA (varM 0) (consA (varM 1) (consA (varM 2) (consA (op2M ixD (varM 3) (litM (.int 1))) (consA (op2M ixD (varM 3) (litM (.int 2))) (nilA))))))) (J := iRng1M (consA (callM lenF (consA (varM 0) (nilA))) (nilA))) (B := tryBody) (R0 := .lst (rulesD rs)) (n := n) (t := t) (S := S)
    rw [show (doS rs l t .non).2 = l from rfl, hself]
    exact this
  | opn x =>
    have hk : keysF [.dit (osD l)] = some (.lst ((l.map (·.1)).map oxD)) := by
      show some (D.lst ((osD l).map (·.1))) = _
      unfold osD
      simp [Function.comp_def]
    obtain ⟨e4, h⟩ := opn_loop (S := S) (n := n) (x := x) (R0 := .lst (rulesD rs)) (T := .int t) (s := .str "open") (e5 := none) (e6 := none) (e7 := none) (e8 := none) (e9 := none) hlt (l.map (·.1)) l none (has_keys l) (by omega)
    rw [hself] at h
    refine do_opn (ρ' := [some (.r (.d (.lst (rulesD rs)))), some (.r (.loc n)), some (.r (.d (.int t))), some (.r (.d (.tup [.str "open", .int x]))), e4, none, none, none, none, none]) (J := iRng1M (consA (callM lenF (consA (varM 0) (nilA))) (nilA))) (B := tryBody) ?_
    · generalize (ifM (bT (op2M eqD (op2M ixD (op2M ixD (varM 4) (litM (.int 1))) (litM (.int 0))) (op2M ixD (varM 3) (litM (.int 1))))) (dputM (tupM (consA (litM (.int 0)) (consA (litM (.int 0)) (consA (negM (litM (.int 1))) (consA (litM (.int 0)) (consA (litM (.int 0)) (nilA))))))) (varM 1) (varM 4)) (nxM)) = B at h ⊢
      have q : (iSeqM (callM keysF (consA (varM 1) (nilA)))) (frame0 [.d (.lst (rulesD rs)), .loc n, .d (.int t), .d (Act.opn x).d] 6) S = some (.ok ((l.map (·.1)).map oxD), S) := by
        simp [frame0, hn, hk]
      show thenM _ _ _ _ = _
      unfold thenM
      rw [q]
      exact h
  | tri x y right =>
    have hlk := law_locked (t := t) (x := x) (y := y) hn hl
    obtain ⟨e6, e7, e8, e9, h⟩ := try_loop (S := S) (n := n) (rs := rs) (l0 := l) (t := t) (x := x) (y := y) (right := right) (e4 := none) hlt hsk (List.range rs.length) l none none none none (fun k hk => List.mem_range.mp hk) List.nodup_range (fun _ _ _ => rfl) (by simp; omega)
    rw [hself] at h
    have hrl : ∀ ρ, ρ[0]? = some (some (.r (.d (.lst (rulesD rs))))) → iRng1M (consA (callM lenF (consA (varM 0) (nilA))) (nilA)) ρ S = some (.ok (natsD (List.range rs.length)), S) := fun ρ hi => by
      rw [rngLen hi (by simp [rulesD]; omega)]
      simp [rulesD]
    have hH : callN 5 m__law_locked (consA (varM 0) (consA (varM 1) (consA (varM 2) (consA (op2M ixD (varM 3) (litM (.int 1))) (consA (op2M ixD (varM 3) (litM (.int 2))) (nilA)))))) (frame0 [.d (.lst (rulesD rs)), .loc n, .d (.int t), .d (Act.tri x y right).d] 6) S = some (.ok (.d (.lst (natsD (heldK rs l t x y)))), S) := by
      simp [frame0, Act.d, hlk]
    have := do_tri (LO := MM.forM (iSeqM (callM keysF (consA (varM 1) (nilA)))) (nameT 4) (ifM (bT (op2M eqD (op2M ixD (op2M ixD (varM 4) (litM (.int 1))) (litM (.int 0))) (op2M ixD (varM 3) (litM (.int 1))))) (dputM (tupM (consA (litM (.int 0)) (consA (litM (.int 0)) (consA (negM (litM (.int 1))) (consA (litM (.int 0)) (consA (litM (.int 0)) (nilA))))))) (varM 1) (varM 4)) (nxM))) hH hrl h
    have e : (natsD (heldK rs l t x y)).isEmpty = (heldK rs l t x y).isEmpty := by unfold natsD; cases heldK rs l t x y <;> rfl
    rw [e] at this
    exact this
end SH
namespace SH
open PySem PySem.Spec PyProof.Rows L2 MM
/-! ### a row at the own door, a row by standings -/
def runO (rs : List Rule) : OS → Nat → List Act → List Str × OS
  | l, _, [] => ([], l)
  | l, t, x :: xs => ((doS rs l (t : Int) x).1 :: (runO rs (doS rs l (t : Int) x).2 (t + 1) xs).1, (runO rs (doS rs l (t : Int) x).2 (t + 1) xs).2)
def runS (rs : List Rule) (a p : Int) : St → List Act → List Str × St
  | st, [] => ([], st)
  | st, x :: xs => ((stepS rs a p st x).1 :: (runS rs a p (stepS rs a p st x).2 xs).1, (runS rs a p (stepS rs a p st x).2 xs).2)
/-! ### the cell at the moment t is the part -/
structure Mt (r : Rule) (c : OC) (t : Int) (q : Part) : Prop where
  s0 : 0 ≤ c.streak
  c0 : 0 ≤ c.count
  w0 : t ≤ c.til → 0 < c.whole
  left : q.left = if t ≤ c.til then c.til - t + 1 else 0
  whole : q.whole = if t ≤ c.til then c.whole else 0
  count : q.count = (freshC r c t).count
  age : q.age = if 0 < (freshC r c t).count ∧ 0 < r.fade then t - c.at_ else 0
  streak : q.streak = if r.grows = true then (if 2 < c.streak then 2 else c.streak) else 0
theorem fresh_count {r : Rule} {c : OC} {t : Int} : (freshC r c t).count = if 0 < c.count ∧ 0 < r.fade ∧ c.at_ + r.fade ≤ t then 0 else c.count := by
  unfold freshC; split <;> rfl
theorem fresh_til {r : Rule} {c : OC} {t : Int} : (freshC r c t).til = c.til := by unfold freshC; split <;> rfl
theorem fresh_whole {r : Rule} {c : OC} {t : Int} : (freshC r c t).whole = c.whole := by unfold freshC; split <;> rfl
theorem fresh_congr {r : Rule} {c c' : OC} {t : Int} (h1 : c.count = c'.count) (h2 : c.at_ = c'.at_) : (freshC r c t).count = (freshC r c' t).count := by
  rw [fresh_count, fresh_count, h1, h2]
theorem Mt.pass {r : Rule} {c : OC} {t : Int} {q : Part} (h : Mt r c t q) (hf : 0 ≤ r.fade) : Mt r c (t + 1) (passedP r q 1) := by
  obtain ⟨s0, c0, w0, hl, hw, hc, ha, hs⟩ := h
  rw [fresh_count] at hc ha
  refine ⟨s0, c0, fun h => w0 (by omega), ?_, ?_, ?_, ?_, hs⟩
  · show (if q.left - 1 < 0 then 0 else q.left - 1) = _
    rw [hl]
    by_cases h1 : t ≤ c.til <;> by_cases h2 : t + 1 ≤ c.til <;> simp only [h1, h2, if_true, if_false] <;> split <;> omega
  · show (if q.left - 1 ≤ 0 then 0 else q.whole) = _
    rw [hl, hw]
    by_cases h1 : t ≤ c.til <;> by_cases h2 : t + 1 ≤ c.til <;> simp only [h1, h2, if_true, if_false] <;> split <;> omega
  · rw [fresh_count]
    show (if faded r q 1 then 0 else q.count) = _
    have fd : faded r q 1 ↔ (r.fade ≠ 0 ∧ q.count ≠ 0 ∧ r.fade ≤ q.age + 1) := Iff.rfl
    by_cases k1 : 0 < c.count ∧ 0 < r.fade ∧ c.at_ + r.fade ≤ t
    · have k2 : 0 < c.count ∧ 0 < r.fade ∧ c.at_ + r.fade ≤ t + 1 := ⟨k1.1, k1.2.1, by omega⟩
      rw [if_pos k1] at hc
      rw [if_pos k2, hc]
      split <;> rfl
    · rw [if_neg k1] at hc ha
      by_cases k2 : 0 < c.count ∧ 0 < r.fade ∧ c.at_ + r.fade ≤ t + 1
      · rw [if_pos ⟨k2.1, k2.2.1⟩] at ha
        rw [if_pos k2, if_pos (fd.mpr ⟨by omega, by omega, by omega⟩)]
      · rw [if_neg k2]
        by_cases F : faded r q 1
        · obtain ⟨f1, f2, f3⟩ := fd.mp F
          have k3 : 0 < c.count ∧ 0 < r.fade := ⟨by omega, by omega⟩
          rw [if_pos k3] at ha
          exact absurd ⟨k3.1, k3.2, by omega⟩ k2
        · rw [if_neg F]; exact hc
  · rw [fresh_count]
    show (if faded r q 1 then 0 else if r.fade ≠ 0 ∧ q.count ≠ 0 then q.age + 1 else q.age) = _
    have fd : faded r q 1 ↔ (r.fade ≠ 0 ∧ q.count ≠ 0 ∧ r.fade ≤ q.age + 1) := Iff.rfl
    by_cases k1 : 0 < c.count ∧ 0 < r.fade ∧ c.at_ + r.fade ≤ t
    · have k2 : 0 < c.count ∧ 0 < r.fade ∧ c.at_ + r.fade ≤ t + 1 := ⟨k1.1, k1.2.1, by omega⟩
      rw [if_pos k1] at hc ha
      rw [if_neg (fun z => absurd z.1 (by omega))] at ha
      rw [if_pos k2, if_neg (fun z : faded r q 1 => (fd.mp z).2.1 hc), if_neg (fun z => z.2 hc), ha, if_neg (fun z => absurd z.1 (by decide))]
    · rw [if_neg k1] at hc ha
      by_cases k2 : 0 < c.count ∧ 0 < r.fade ∧ c.at_ + r.fade ≤ t + 1
      · rw [if_pos ⟨k2.1, k2.2.1⟩] at ha
        rw [if_pos k2, if_pos (fd.mpr ⟨by omega, by omega, by omega⟩), if_neg (fun z => absurd z.1 (by decide))]
      · rw [if_neg k2]
        by_cases k3 : 0 < c.count ∧ 0 < r.fade
        · rw [if_pos k3] at ha ⊢
          rw [if_neg (fun z => k2 ⟨k3.1, k3.2, by have := (fd.mp z).2.2; omega⟩), if_pos ⟨by omega, by omega⟩]
          omega
        · rw [if_neg k3] at ha ⊢
          rw [if_neg (fun z => k3 ⟨by have := (fd.mp z).2.1; omega, by have := (fd.mp z).1; omega⟩), if_neg (fun z => k3 ⟨by have := z.2; omega, by have := z.1; omega⟩)]
          exact ha
theorem Mt.fresh {r : Rule} {c : OC} {t t' : Int} {q : Part} (h : Mt r c t' q) (hle : t ≤ t') (ht : 0 ≤ t) (hf : 0 ≤ r.fade) : Mt r (freshC r c t) t' q := by
  unfold freshC
  split
  · rename_i k1
    obtain ⟨s0, c0, w0, hl, hw, hc, ha, hs⟩ := h
    rw [fresh_count] at hc ha
    have k2 : 0 < c.count ∧ 0 < r.fade ∧ c.at_ + r.fade ≤ t' := ⟨k1.1, k1.2.1, by omega⟩
    rw [if_pos k2] at hc ha
    refine ⟨s0, by simp, w0, hl, hw, ?_, ?_, hs⟩
    · rw [fresh_count]; simpa using hc
    · rw [fresh_count]; simpa using ha
  · exact h
theorem Mt.new {r : Rule} {t : Int} (ht : 0 ≤ t) : Mt r OC.zero t Part.new := by
  have h : ¬ t ≤ (-1 : Int) := by omega
  refine ⟨by decide, by decide, fun h2 => absurd h2 h, ?_, ?_, ?_, ?_, ?_⟩
  · show (0 : Int) = if t ≤ (-1 : Int) then _ else 0
    rw [if_neg h]
  · show (0 : Int) = if t ≤ (-1 : Int) then _ else 0
    rw [if_neg h]
  · rw [fresh_count]; simp [OC.zero, Part.new]
  · rw [fresh_count]; simp [OC.zero, Part.new]
  · simp [OC.zero, Part.new]
theorem Mt.held {r : Rule} {c : OC} {t : Int} {q : Part} (h : Mt r c t q) : (0 < q.left) ↔ t ≤ c.til := by
  rw [h.left]
  split <;> omega
theorem Mt.kept {r : Rule} {c : OC} {t : Int} {q : Part} (h : Mt r c t q) (ht : 0 ≤ t) (hf : 0 ≤ r.fade) :
    Mt r (if t ≤ c.til ∧ r.strict = true then ⟨(freshC r c t).count, (freshC r c t).at_, t + (freshC r c t).whole, (freshC r c t).whole, (freshC r c t).streak⟩ else freshC r c t) (t + 1) (keptP r q) := by
  have hp := (h.pass hf).fresh (t := t) (by omega) ht hf
  unfold keptP
  by_cases k : t ≤ c.til ∧ r.strict = true
  · rw [if_pos k, if_pos ⟨k.2, h.held.mpr k.1⟩]
    have hw := h.w0 k.1
    have hwh := h.whole
    rw [if_pos k.1] at hwh
    have e1 : (freshC r ⟨(freshC r c t).count, (freshC r c t).at_, t + (freshC r c t).whole, (freshC r c t).whole, (freshC r c t).streak⟩ (t + 1)).count = (freshC r (freshC r c t) (t + 1)).count := fresh_congr rfl rfl
    refine ⟨hp.s0, hp.c0, fun _ => ?_, ?_, ?_, ?_, ?_, hp.streak⟩
    · show 0 < (freshC r c t).whole
      rw [fresh_whole]; exact hw
    · show q.whole = if t + 1 ≤ t + (freshC r c t).whole then t + (freshC r c t).whole - (t + 1) + 1 else 0
      rw [fresh_whole, hwh]
      split <;> omega
    · show q.whole = if t + 1 ≤ t + (freshC r c t).whole then (freshC r c t).whole else 0
      rw [fresh_whole, hwh]
      split <;> omega
    · rw [e1]; exact hp.count
    · rw [e1]; exact hp.age
  · rw [if_neg k, if_neg (fun z => k ⟨h.held.mp z.2, z.1⟩)]
    exact hp
theorem fac_min {s : Int} (h : 0 ≤ s) : fac (if 2 < s then 2 else s) = fac s := by
  unfold fac
  split <;> (repeat' split) <;> omega
theorem fac_pos (s : Int) : 1 ≤ fac s := by
  unfold fac
  split
  · omega
  · split <;> omega
theorem Mt.begun {r : Rule} {c : OC} {t : Int} {q : Part} (h : Mt r c t q) (ht : 0 ≤ t) (ok : r.Ok) (hn : ¬ t ≤ c.til) : Mt r (countedC r (freshC r c t) t) (t + 1) (begunP r q) := by
  have hc := h.count
  have hs := h.streak
  have hsk := h.s0
  have c0 : 0 ≤ (freshC r c t).count := by rw [fresh_count]; have := h.c0; split <;> omega
  unfold countedC begunP
  rw [← hc, fresh_streak, fresh_til, fresh_whole]
  rw [← hc] at c0
  by_cases k : q.count + 1 < r.most
  · rw [if_pos k, if_pos k]
    have hl : ¬ t + 1 ≤ c.til := by omega
    refine ⟨hsk, by show 0 ≤ q.count + 1; omega, fun z => absurd z hl, ?_, ?_, ?_, ?_, hs⟩
    · show (if (0 : Int) - 1 < 0 then 0 else (0 : Int) - 1) = if t + 1 ≤ c.til then _ else 0
      rw [if_neg hl]; simp
    · show (if (0 : Int) - 1 ≤ 0 then (0 : Int) else 0) = if t + 1 ≤ c.til then _ else 0
      rw [if_neg hl]; simp
    · rw [fresh_count]
      show (if faded r ⟨q.count + 1, 0, 0, 0, q.streak⟩ 1 then 0 else q.count + 1) = if 0 < q.count + 1 ∧ 0 < r.fade ∧ t + r.fade ≤ t + 1 then 0 else q.count + 1
      have fd : faded r ⟨q.count + 1, 0, 0, 0, q.streak⟩ 1 ↔ (r.fade ≠ 0 ∧ q.count + 1 ≠ 0 ∧ r.fade ≤ 0 + 1) := Iff.rfl
      have := ok.f0
      by_cases F : faded r ⟨q.count + 1, 0, 0, 0, q.streak⟩ 1
      · obtain ⟨f1, f2, f3⟩ := fd.mp F
        rw [if_pos F, if_pos ⟨by omega, by omega, by omega⟩]
      · rw [if_neg F, if_neg (fun z => F (fd.mpr ⟨by omega, by omega, by omega⟩))]
    · rw [fresh_count]
      show (if faded r ⟨q.count + 1, 0, 0, 0, q.streak⟩ 1 then 0 else if r.fade ≠ 0 ∧ q.count + 1 ≠ 0 then (0 : Int) + 1 else 0) = if 0 < (if 0 < q.count + 1 ∧ 0 < r.fade ∧ t + r.fade ≤ t + 1 then 0 else q.count + 1) ∧ 0 < r.fade then t + 1 - t else 0
      have fd : faded r ⟨q.count + 1, 0, 0, 0, q.streak⟩ 1 ↔ (r.fade ≠ 0 ∧ q.count + 1 ≠ 0 ∧ r.fade ≤ 0 + 1) := Iff.rfl
      have := ok.f0
      by_cases k1 : 0 < r.fade
      · by_cases k2 : r.fade ≤ 1
        · rw [if_pos (fd.mpr ⟨by omega, by omega, by omega⟩), if_pos (show 0 < q.count + 1 ∧ 0 < r.fade ∧ t + r.fade ≤ t + 1 from ⟨by omega, k1, by omega⟩), if_neg (fun z => absurd z.1 (by omega))]
        · rw [if_neg (fun z => k2 (by have := (fd.mp z).2.2; omega)), if_pos ⟨by omega, by omega⟩, if_neg (show ¬ (0 < q.count + 1 ∧ 0 < r.fade ∧ t + r.fade ≤ t + 1) from fun z => k2 (by omega)), if_pos ⟨by omega, k1⟩]
          omega
      · rw [if_neg (fun z => k1 (by have := (fd.mp z).1; omega)), if_neg (fun z => k1 (by have := z.1; omega)), if_neg (fun z => k1 z.2)]
  · rw [if_neg k, if_neg k]
    have he : (if r.grows = true then fac q.streak else 1) = if r.grows = true then fac c.streak else 1 := by
      by_cases g : r.grows = true
      · rw [if_pos g, if_pos g]
        rw [if_pos g] at hs
        rw [hs, fac_min hsk]
      · rw [if_neg g, if_neg g]
    rw [he]
    have hpos : 1 ≤ r.lock * (if r.grows = true then fac c.streak else 1) := by
      have h1 := ok.l0
      have h2 : 1 ≤ (if r.grows = true then fac c.streak else 1) := by
        split
        · exact fac_pos _
        · omega
      have := Int.mul_le_mul h1 h2 (by omega) (by omega)
      omega
    generalize r.lock * (if r.grows = true then fac c.streak else 1) = z at hpos ⊢
    refine ⟨by show 0 ≤ c.streak + 1; omega, by show (0 : Int) ≤ 0; omega, fun _ => by show 0 < z; omega, ?_, ?_, ?_, ?_, ?_⟩
    · show z = if t + 1 ≤ t + z then t + z - (t + 1) + 1 else 0
      rw [if_pos (by omega)]; omega
    · show z = if t + 1 ≤ t + z then z else 0
      rw [if_pos (by omega)]
    · rw [fresh_count]; simp
    · rw [fresh_count]; simp
    · show (if r.grows = true then (if 2 < q.streak + 1 then 2 else q.streak + 1) else 0) = if r.grows = true then (if 2 < c.streak + 1 then 2 else c.streak + 1) else 0
      by_cases g : r.grows = true
      · rw [if_pos g, if_pos g]
        rw [if_pos g] at hs
        rw [hs]
        split <;> split <;> (split at * <;> omega)
      · rw [if_neg g, if_neg g]
end SH
namespace SH
open PySem PySem.Spec PyProof.Rows L2 MM
/-- the cells at the moment t are the standing; the rules rs stand from the k-th place on -/
inductive RelS (a p : Int) (l : OS) (t : Int) : Nat → List Rule → St → Prop
  | nil {k : Nat} : RelS a p l t k [] []
  | cons {k : Nat} {r : Rule} {ps : List Part} {rs : List Rule} {st : St} : ps.length = (keysOf a p r.key).length → (∀ z ∈ (keysOf a p r.key).zip ps, Mt r (osGet l (k, z.1)) t z.2) → RelS a p l t (k + 1) rs st → RelS a p l t k (r :: rs) (ps :: st)
section
variable {a p : Int} {l l' : OS} {t t' : Int} {rs0 : List Rule}
theorem RelS.shape : ∀ {k : Nat} {rs : List Rule} {st : St}, RelS a p l t k rs st → Shape rs a p st
  | _, _, _, .nil => .nil
  | _, _, _, .cons h1 _ h3 => .cons h1 (RelS.shape h3)
theorem mt_strk {r : Rule} {c : OC} {q : Part} (h : Mt r c t q) : 0 ≤ q.streak ∧ q.streak ≤ 2 := by
  have := h.s0
  rw [h.streak]
  split
  · split <;> omega
  · omega
theorem mem_zip_right {α β : Type} : ∀ {xs : List α} {ys : List β}, ys.length = xs.length → ∀ {y : β}, y ∈ ys → ∃ x, (x, y) ∈ xs.zip ys
  | [], [], _, _, h => by simp at h
  | x :: xs, y :: ys, hl, z, h => by
    rcases List.mem_cons.mp h with e | e
    · exact ⟨x, by rw [e]; simp⟩
    · obtain ⟨w, hw⟩ := mem_zip_right (xs := xs) (by simpa using hl) e
      exact ⟨w, by rw [List.zip_cons_cons]; exact List.mem_cons_of_mem _ hw⟩
theorem RelS.strk : ∀ {k : Nat} {rs : List Rule} {st : St}, RelS a p l t k rs st → StrkOk st
  | _, _, _, .nil => fun ps h => by simp at h
  | _, _, _, .cons h1 h2 h3 => fun qs hq q hqq => by
    rcases List.mem_cons.mp hq with e | e
    · subst e
      obtain ⟨κ, hκ⟩ := mem_zip_right h1 hqq
      exact mt_strk (h2 _ hκ)
    · exact RelS.strk h3 qs e q hqq
theorem zip_zip_map {α β γ : Type} (f : α × β → γ) : ∀ (xs : List α) (ys : List β), xs.zip ((xs.zip ys).map f) = (xs.zip ys).map fun z => (z.1, f z)
  | [], _ => by simp
  | x :: xs, [] => by simp
  | x :: xs, y :: ys => by simp [zip_zip_map f xs ys]
/-- a change, part by part -/
theorem RelS.map (g : Rule → Kx → Part → Part) : ∀ {k : Nat} {rs : List Rule} {st : St}, RelS a p l t k rs st → (∀ i r, rs[i]? = some r → ruleAt rs0 (k + i) = r) →
    (∀ i r, rs[i]? = some r → ∀ κ ∈ keysOf a p r.key, ∀ q, Mt r (osGet l (k + i, κ)) t q → Mt r (osGet l' (k + i, κ)) t' (g r κ q)) → RelS a p l' t' k rs ((rs.zip st).map fun z => ((keysOf a p z.1.key).zip z.2).map fun y => g z.1 y.1 y.2)
  | _, _, _, .nil, _, _ => .nil
  | k, _, _, .cons (r := r) (ps := ps) (rs := rs) h1 h2 h3, hr, hm => by
    refine .cons (by simp [h1]) (fun z hz => ?_) ?_
    · rw [zip_zip_map] at hz
      obtain ⟨y, hy, rfl⟩ := List.mem_map.mp hz
      exact hm 0 r rfl y.1 (List.of_mem_zip hy).1 y.2 (h2 y hy)
    · refine RelS.map g h3 (fun i r' e => ?_) (fun i r' e κ hκ q hq => ?_)
      · have := hr (i + 1) r' (by simpa using e)
        rw [← this]; congr 1; omega
      · have := hm (i + 1) r' (by simpa using e) κ hκ q (by rw [show k + (i + 1) = k + 1 + i by omega]; exact hq)
        rw [show k + (i + 1) = k + 1 + i by omega] at this
        exact this
theorem keyOf_mem {x y : Int} (hx : 0 ≤ x ∧ x < a) (hy : 0 ≤ y ∧ y < p) (k : KK) : keyOf k x y ∈ keysOf a p k := by
  cases k with
  | acc => exact List.mem_map.mpr ⟨x.toNat, List.mem_range.mpr (by omega), by show (some ((x.toNat : Nat) : Int), (none : Option Int)) = (some x, none); rw [Int.toNat_of_nonneg hx.1]⟩
  | pla => exact List.mem_map.mpr ⟨y.toNat, List.mem_range.mpr (by omega), by show ((none : Option Int), some ((y.toNat : Nat) : Int)) = (none, some y); rw [Int.toNat_of_nonneg hy.1]⟩
  | both => exact List.mem_flatMap.mpr ⟨x.toNat, List.mem_range.mpr (by omega), List.mem_map.mpr ⟨y.toNat, List.mem_range.mpr (by omega), by show (some ((x.toNat : Nat) : Int), some ((y.toNat : Nat) : Int)) = (some x, some y); rw [Int.toNat_of_nonneg hx.1, Int.toNat_of_nonneg hy.1]⟩⟩
theorem isAt_iff {x y : Int} {k : KK} {κ : Kx} (h : κ ∈ keysOf a p k) : isAt κ x y = true ↔ κ = keyOf k x y := by
  cases k with
  | acc =>
    obtain ⟨i, _, rfl⟩ := List.mem_map.mp h
    simp [isAt, keyOf]
  | pla =>
    obtain ⟨i, _, rfl⟩ := List.mem_map.mp h
    simp [isAt, keyOf]
  | both =>
    obtain ⟨i, _, h⟩ := List.mem_flatMap.mp h
    obtain ⟨j, _, rfl⟩ := List.mem_map.mp h
    simp [isAt, keyOf]
theorem mem_zip_left {α β : Type} : ∀ {xs : List α} {ys : List β}, ys.length = xs.length → ∀ {x : α}, x ∈ xs → ∃ y, (x, y) ∈ xs.zip ys
  | [], [], _, _, h => by simp at h
  | x :: xs, y :: ys, hl, z, h => by
    rcases List.mem_cons.mp h with e | e
    · exact ⟨y, by rw [e]; simp⟩
    · obtain ⟨w, hw⟩ := mem_zip_left (xs := xs) (ys := ys) (by simpa using hl) e
      exact ⟨w, by rw [List.zip_cons_cons]; exact List.mem_cons_of_mem _ hw⟩
/-- locked by the standing just when some cell holds -/
theorem RelS.locked {x y : Int} (hx : 0 ≤ x ∧ x < a) (hy : 0 ≤ y ∧ y < p) : ∀ {k : Nat} {rs : List Rule} {st : St}, RelS a p l t k rs st →
    (lockedS rs a p st x y = true ↔ ∃ i r, rs[i]? = some r ∧ t ≤ (osGet l (k + i, keyOf r.key x y)).til)
  | _, _, _, .nil => by simp [lockedS]
  | k, _, _, .cons (r := r) (ps := ps) (rs := rs) (st := st) h1 h2 h3 => by
    have ih := RelS.locked hx hy h3
    have e : lockedS (r :: rs) a p (ps :: st) x y = ((((keysOf a p r.key).zip ps).any fun k => isAt k.1 x y && decide (0 < k.2.left)) || lockedS rs a p st x y) := rfl
    rw [e, Bool.or_eq_true]
    constructor
    · rintro (h | h)
      · obtain ⟨z, hz, hb⟩ := List.any_eq_true.mp h
        rw [Bool.and_eq_true, decide_eq_true_eq] at hb
        have hk := (isAt_iff (List.of_mem_zip hz).1).mp hb.1
        have := (h2 z hz).held.mp hb.2
        rw [hk] at this
        exact ⟨0, r, rfl, this⟩
      · obtain ⟨i, r', q1, q2⟩ := ih.mp h
        exact ⟨i + 1, r', by simpa using q1, by rw [show k + (i + 1) = k + 1 + i by omega]; exact q2⟩
    · rintro ⟨i, r', q1, q2⟩
      cases i with
      | zero =>
        have q1 : r = r' := by simpa using q1
        subst q1
        left
        obtain ⟨q, hq⟩ := mem_zip_left h1 (keyOf_mem hx hy r.key)
        refine List.any_eq_true.mpr ⟨_, hq, ?_⟩
        rw [Bool.and_eq_true, decide_eq_true_eq]
        exact ⟨(isAt_iff (keyOf_mem hx hy r.key)).mpr rfl, (h2 _ hq).held.mpr q2⟩
      | succ i =>
        right
        exact ih.mpr ⟨i, r', by simpa using q1, by rw [show k + 1 + i = k + (i + 1) by omega]; exact q2⟩
end
theorem ruleAt_of {rs : List Rule} {i : Nat} {r : Rule} (h : rs[i]? = some r) : ruleAt rs i = r := by
  unfold ruleAt
  rw [List.getD_eq_getElem?_getD, h]; rfl
theorem held_iff {rs : List Rule} {l : OS} {t x y : Int} : ((heldK rs l t x y).isEmpty = false) ↔ ∃ i r, rs[i]? = some r ∧ t ≤ (osGet l (i, keyOf r.key x y)).til := by
  constructor
  · intro h
    cases e : heldK rs l t x y with
    | nil => rw [e] at h; cases h
    | cons k ks =>
      have hk : k ∈ heldK rs l t x y := by rw [e]; simp
      unfold heldK at hk
      rw [List.mem_filter] at hk
      have hr := List.mem_range.mp hk.1
      have hb := hk.2
      unfold heldB at hb
      rw [decide_eq_true_eq] at hb
      refine ⟨k, rs[k], List.getElem?_eq_getElem hr, ?_⟩
      rw [ruleAt_of (List.getElem?_eq_getElem hr)] at hb
      exact hb
  · rintro ⟨i, r, h1, h2⟩
    have hi : i ∈ heldK rs l t x y := by
      unfold heldK
      rw [List.mem_filter]
      refine ⟨List.mem_range.mpr (List.getElem?_eq_some_iff.mp h1).1, ?_⟩
      unfold heldB
      rw [decide_eq_true_eq, ruleAt_of h1]
      exact h2
    cases e : heldK rs l t x y with
    | nil => rw [e] at hi; simp at hi
    | cons _ _ => rfl
end SH
namespace SH
open PySem PySem.Spec PyProof.Rows L2 MM
theorem zip_snd {α β γ : Type} (f : β → γ) : ∀ (xs : List α) (ys : List β), ys.length = xs.length → (xs.zip ys).map (fun z => f z.2) = ys.map f
  | [], [], _ => rfl
  | x :: xs, y :: ys, h => by simp [zip_snd f xs ys (by simpa using h)]
theorem idle_keyed {rs : List Rule} {a p : Int} {st : St} {n : Int} (h : Shape rs a p st) : idleS rs st n = (rs.zip st).map fun z => ((keysOf a p z.1.key).zip z.2).map fun y => passedP z.1 y.2 n := by
  unfold idleS
  refine List.map_congr_left fun z hz => ?_
  exact (zip_snd (fun q => passedP z.1 q n) _ _ (shape_zip h z hz).2.2).symm
section
variable {rs : List Rule} {a p : Int} {st : St} {l : OS} {t : Int}
theorem newC_r {x y : Int} {right : Bool} {i : Nat} {r : Rule} {κ : Kx} (er : ruleAt rs i = r) (c : κ = keyOf r.key x y) : newC rs l t x y right i =
    if (heldK rs l t x y).isEmpty = false then (if heldB rs l t x y i = true ∧ r.strict = true then ⟨(freshC r (osGet l (i, κ)) t).count, (freshC r (osGet l (i, κ)) t).at_, t + (freshC r (osGet l (i, κ)) t).whole, (freshC r (osGet l (i, κ)) t).whole, (freshC r (osGet l (i, κ)) t).streak⟩ else freshC r (osGet l (i, κ)) t)
    else if right = true then (if r.clears = true then OC.zero else freshC r (osGet l (i, κ)) t) else countedC r (freshC r (osGet l (i, κ)) t) t := by
  subst er c
  rfl
theorem locked_held {x y : Int} (h : RelS a p l t 0 rs st) (hx : 0 ≤ x ∧ x < a) (hy : 0 ≤ y ∧ y < p) : (lockedS rs a p st x y = true) ↔ (heldK rs l t x y).isEmpty = false := by
  rw [h.locked hx hy, held_iff]
  simp only [Nat.zero_add]
theorem sim_step {act : Act} (hok : ∀ r ∈ rs, r.Ok) (ht : 0 ≤ t) (ha : act.Ok a p) (h : RelS a p l t 0 rs st) :
    (doS rs l t act).1 = (stepS rs a p st act).1 ∧ RelS a p (doS rs l t act).2 (t + 1) 0 rs (stepS rs a p st act).2 := by
  have hr0 : ∀ i r, rs[i]? = some r → ruleAt rs (0 + i) = r := fun i r e => by rw [Nat.zero_add]; exact ruleAt_of e
  have hokr : ∀ {i : Nat} {r : Rule}, rs[i]? = some r → r.Ok := fun e => hok _ (List.mem_of_getElem? e)
  cases act with
  | non =>
    refine ⟨rfl, ?_⟩
    show RelS a p l (t + 1) 0 rs (idleS rs st 1)
    rw [idle_keyed h.shape]
    exact h.map (fun r _ q => passedP r q 1) hr0 fun i r e κ hκ q hq => hq.pass (hokr e).f0
  | opn x =>
    refine ⟨rfl, ?_⟩
    refine h.map (l' := doOpn x l) (fun r κ q => if touchO x r κ = true then Part.new else passedP r q 1) hr0 fun i r e κ hκ q hq => ?_
    rw [doOpn_get]
    by_cases c : κ.1 = some x
    · have c2 : touchO x r κ = true := decide_eq_true c
      simp only [c2, if_true]
      rw [if_pos c]
      exact Mt.new (by omega)
    · have c2 : ¬ touchO x r κ = true := fun z => c (of_decide_eq_true z)
      simp only [c2, if_false]
      rw [if_neg c]
      exact hq.pass (hokr e).f0
  | tri x y right =>
    obtain ⟨hx, hy⟩ := ha
    have hlk := locked_held (x := x) (y := y) h hx hy
    constructor
    · show (if (heldK rs l t x y).isEmpty = false then _ else _) = toldS _ _
      unfold toldS
      by_cases c : lockedS rs a p st x y = true
      · rw [if_pos c, if_pos (hlk.mp c)]
      · rw [if_neg c, if_neg (fun z => c (hlk.mpr z))]
    · refine h.map (l' := tryOS rs l t x y right (List.range rs.length) l) (fun r κ q => if touchT x y r κ = true then chgS (lockedS rs a p st x y) right r q else passedP r q 1) hr0 fun i r e κ hκ q hq => ?_
      rw [Nat.zero_add] at hq ⊢
      rw [tryOS_get]
      have hi : i ∈ List.range rs.length := List.mem_range.mpr (List.getElem?_eq_some_iff.mp e).1
      have er := ruleAt_of e
      show Mt r (if i ∈ List.range rs.length ∧ κ = keyOf (ruleAt rs i).key x y then newC rs l t x y right i else osGet l (i, κ)) (t + 1) _
      rw [er]
      by_cases c : κ = keyOf r.key x y
      · have c2 : touchT x y r κ = true := (isAt_iff hκ).mpr c
        rw [if_pos ⟨hi, c⟩]
        simp only [c2, if_true]
        rw [newC_r er c]
        have hb : heldB rs l t x y i = true ↔ t ≤ (osGet l (i, κ)).til := by
          unfold heldB
          rw [decide_eq_true_eq, er, ← c]
        unfold chgS
        by_cases lk : lockedS rs a p st x y = true
        · have e1 := hlk.mp lk
          simp only [lk, e1, if_true, hb]
          exact hq.kept ht (hokr e).f0
        · have e1 : ¬ (heldK rs l t x y).isEmpty = false := fun z => lk (hlk.mpr z)
          have hn : ¬ t ≤ (osGet l (i, κ)).til := fun z => e1 (held_iff.mpr ⟨i, r, e, by rw [← c]; exact z⟩)
          simp only [lk, e1, if_false]
          cases right with
          | true =>
            simp only [Bool.false_eq_true, Bool.true_eq_false, if_true, if_false]
            unfold letP
            by_cases g : r.clears = true
            · simp only [g, Bool.false_eq_true, Bool.true_eq_false, if_true, if_false]
              exact Mt.new (by omega)
            · simp only [g, Bool.false_eq_true, Bool.true_eq_false, if_true, if_false]
              exact (hq.pass (hokr e).f0).fresh (by omega) ht (hokr e).f0
          | false =>
            simp only [Bool.false_eq_true, if_false]
            exact hq.begun ht (hokr e) hn
      · have c2 : ¬ touchT x y r κ = true := fun z => c ((isAt_iff hκ).mp z)
        rw [if_neg (fun z => c z.2)]
        simp only [c2, if_false]
        exact hq.pass (hokr e).f0
theorem RelS.first {t : Int} (ht : 0 ≤ t) : ∀ (rs : List Rule) (k : Nat), RelS a p [] t k rs (firstS rs a p)
  | [], _ => .nil
  | r :: rs, k => by
    refine .cons (by simp) (fun z hz => ?_) (RelS.first ht rs (k + 1))
    have : z.2 = Part.new := by
      have := (List.of_mem_zip hz).2
      obtain ⟨_, _, e⟩ := List.mem_map.mp this
      exact e.symm
    rw [this]
    exact Mt.new ht
end
end SH
namespace SH
open PySem PySem.Spec PyProof.Rows L2 MM
def Sk (l : OS) : Prop := ∀ z, 0 ≤ (osGet l z).streak
theorem mid_sk {r : Rule} {c : OC} {t : Int} {hs : List Nat} {right : Bool} {k : Nat} (h : 0 ≤ c.streak) : 0 ≤ (midC r c t hs right k).streak := by
  unfold midC
  split
  · split <;> exact h
  · split
    · split
      · decide
      · exact h
    · unfold countedC
      split
      · exact h
      · show 0 ≤ c.streak + 1; omega
theorem do_sk {rs : List Rule} {l : OS} {t : Int} {act : Act} (h : Sk l) : Sk (doS rs l t act).2 := by
  intro z
  cases act with
  | non => exact h z
  | opn x =>
    show 0 ≤ (osGet (doOpn x l) z).streak
    rw [doOpn_get]
    split
    · decide
    · exact h z
  | tri x y right =>
    show 0 ≤ (osGet (tryOS rs l t x y right (List.range rs.length) l) z).streak
    rw [tryOS_get]
    split
    · rename_i q
      rw [newC_mid (List.mem_range.mp q.1)]
      refine mid_sk ?_
      rw [fresh_streak]; exact h _
    · exact h z
theorem do_len {rs : List Rule} {l : OS} {t : Int} {act : Act} : (doS rs l t act).2.length ≤ l.length + rs.length := by
  cases act with
  | non => show l.length ≤ _; omega
  | opn x => show (doOpn x l).length ≤ _; rw [doOpn_len]; omega
  | tri x y right =>
    have := tryOS_len (rs := rs) (l0 := l) (t := t) (x := x) (y := y) (right := right) (List.range rs.length) l
    rw [List.length_range] at this
    exact this
def strsD (ss : List Str) : List D := ss.map D.str
def actsD (xs : List Act) : List D := xs.map Act.d
def rowBody : SM := appM (varM 3) (callN 4 m__law_do (consA (varM 0) (consA (varM 2) (consA (varM 4) (consA (op2M ixD (varM 1) (varM 4)) (nilA))))))
theorem row_loop {S : Sto} {n : Nat} {rs : List Rule} {acts : List Act} (hn : n < S.length) (hl : rs.length ≤ 3) : ∀ (suf pre : List Act) (l : OS) (acc : List Str) (e4 : Option Ent), acts = pre ++ suf → Sk l → l.length + 3 * suf.length ≤ 15000000 → acc.length + suf.length ≤ 4000000 → ∃ e4',
    loopM (nameT 4) rowBody (natsD (List.range' pre.length suf.length)) [some (.r (.d (.lst (rulesD rs)))), some (.r (.d (.lst (actsD acts)))), some (.r (.loc n)), some (.own (.lst (strsD acc))), e4] (S.set n (.dit (osD l)))
      = some (.nx, [some (.r (.d (.lst (rulesD rs)))), some (.r (.d (.lst (actsD acts)))), some (.r (.loc n)), some (.own (.lst (strsD (acc ++ (runO rs l pre.length suf).1)))), e4'], S.set n (.dit (osD (runO rs l pre.length suf).2)))
  | [], pre, l, acc, e4, _, _, _, _ => ⟨e4, by simp [natsD, runO]⟩
  | x :: suf, pre, l, acc, e4, he, hsk, hlen, ha => by
    simp only [List.length_cons] at hlen ha
    have hd := law_do (S := S.set n (.dit (osD l))) (n := n) (rs := rs) (l := l) (t := (pre.length : Int)) (act := x) (List.getElem?_set_self hn) hl (by omega) hsk
    rw [List.set_set] at hd
    have hlen2 := do_len (rs := rs) (l := l) (t := (pre.length : Int)) (act := x)
    obtain ⟨e4', ih⟩ := row_loop (S := S) (n := n) (rs := rs) (acts := acts) hn hl suf (pre ++ [x]) (doS rs l (pre.length : Int) x).2 (acc ++ [(doS rs l (pre.length : Int) x).1]) (some (.r (.d (.int (pre.length : Int))))) (by rw [he]; simp) (do_sk hsk) (by omega) (by simp; omega)
    refine ⟨e4', ?_⟩
    have hx : atI (actsD acts) (pre.length : Int) = some x.d := by
      rw [MM.atI_nat (by rw [he]; simp [actsD])]
      rw [he]; simp [actsD]
    have hlt : (strsD acc).length < sizeLine := slt (by simp [strsD]; omega)
    have e1 : natsD (List.range' pre.length (x :: suf).length) = .int (pre.length : Int) :: natsD (List.range' (pre.length + 1) suf.length) := rfl
    have e2 : (pre ++ [x]).length = pre.length + 1 := by simp
    rw [e2] at ih
    have e3 : runO rs l pre.length (x :: suf) = ((doS rs l (pre.length : Int) x).1 :: (runO rs (doS rs l (pre.length : Int) x).2 (pre.length + 1) suf).1, (runO rs (doS rs l (pre.length : Int) x).2 (pre.length + 1) suf).2) := rfl
    have e4 : strsD (acc ++ [(doS rs l (pre.length : Int) x).1]) = strsD acc ++ [.str (doS rs l (pre.length : Int) x).1] := by simp [strsD]
    have e5 : acc ++ [(doS rs l (pre.length : Int) x).1] ++ (runO rs (doS rs l (pre.length : Int) x).2 (pre.length + 1) suf).1 = acc ++ (runO rs l pre.length (x :: suf)).1 := by rw [e3]; simp
    rw [e5, e4] at ih
    rw [e1, loopM_cons, show (runO rs l pre.length (x :: suf)).2 = (runO rs (doS rs l (pre.length : Int) x).2 (pre.length + 1) suf).2 from rfl, ← ih]
    unfold rowBody
    simp [hx, hd, hlt]
end SH
namespace SH
open PySem PySem.Spec PyProof.Rows L2 MM
section
variable {rs : List Rule} {a p : Int} {S : Sto}
theorem is_action {x : Act} (h : x.Ok a p) : m_is_action [.d (bookD rs a p), .d x.d] S = some (.ok (.d (.bl true)), S) := by
  unfold m_is_action b_is_action
  rw [funM_ap, if_pos (by simp)]
  cases x with
  | non => simp [frame0, Act.d]
  | opn x =>
    have h1 : x ≤ a - 1 := by have := h.2; omega
    simp [frame0, Act.d, bookD, eqB_oo, num, h.1, h1]
  | tri x y b =>
    obtain ⟨⟨h1, h2⟩, h3, h4⟩ := h
    have k1 : x ≤ a - 1 := by omega
    have k2 : y ≤ p - 1 := by omega
    simp [frame0, Act.d, bookD, eqB_to, eqB_tt, num, h1, h3, k1, k2]
theorem check {ds : List D} {g : D → Bool} (hg : ∀ d ∈ ds, m_is_action [.d (bookD rs a p), .d d] S = some (.ok (.d (.bl (g d))), S)) (hl : ds.length ≤ 1000000) :
    m_check_actions [.d (bookD rs a p), .d (.lst ds)] S = if ds.all g = true then some (.ok (.d .non), S) else some (.ex "BadAction" [], S) := by
  unfold m_check_actions b_check_actions
  rw [funM_ap, if_pos (by simp)]
  have k := lc_pairs (S := S) (ρ := [some (.r (.d (bookD rs a p))), some (.r (.d (.lst ds))), none]) (vs := [2]) (t := nameT 2) (te := callN 2 m_is_action (consA (varM 0) (consA (varM 2) (nilA)))) (ds.map fun d => (d, .bl (g d))) [] (szl (by simp; omega)) (by
    rintro ⟨d, e⟩ hd
    obtain ⟨d', hd', he⟩ := List.mem_map.mp hd
    cases he
    exact ⟨_, by simp; rfl, by simp [hg _ hd']⟩)
  simp [Function.comp_def] at k
  by_cases c : ds.all g = true
  · simp [frame0, k, allF_map, c]
  · have c' : ds.all g = false := by simpa using c
    simp [frame0, k, allF_map, c']
theorem check_ok {xs : List Act} (h : ∀ x ∈ xs, x.Ok a p) (hl : xs.length ≤ 1000000) : m_check_actions [.d (bookD rs a p), .d (.lst (actsD xs))] S = some (.ok (.d .non), S) := by
  rw [check (g := fun _ => true) (fun d hd => by
    obtain ⟨x, hx, rfl⟩ := List.mem_map.mp hd
    exact is_action (h x hx)) (by simpa [actsD] using hl)]
  rw [if_pos (by simp)]
end
end SH
namespace SH
open PySem PySem.Spec PyProof.Rows L2 MM
@[simp] theorem isi_str_bool {x : Str} : isiF [.str x, .ty "bool"] = some (.bl false) := rfl
@[simp] theorem isi_str_int {x : Str} : isiF [.str x, .ty "int"] = some (.bl false) := rfl
@[simp] theorem isi_lst_bool {x : List D} : isiF [.lst x, .ty "bool"] = some (.bl false) := rfl
@[simp] theorem isi_lst_int {x : List D} : isiF [.lst x, .ty "int"] = some (.bl false) := rfl
@[simp] theorem isi_lst_str {x : List D} : isiF [.lst x, .ty "str"] = some (.bl false) := rfl
@[simp] theorem isi_lst_tup {x : List D} : isiF [.lst x, .ty "tuple"] = some (.bl false) := rfl
@[simp] theorem isi_lst_lst {x : List D} : isiF [.lst x, .ty "list"] = some (.bl true) := rfl
@[simp] theorem isN_str {x : Str} : isN (.str x) = false := rfl
@[simp] theorem isN_lst {x : List D} : isN (.lst x) = false := rfl
end SH
namespace SH
open PySem PySem.Spec PyProof.Rows L2 MM
/-! ### the law's actions -/
def allActs (a p : Int) : List Act := .non :: ((List.range a.toNat).flatMap fun (i : Nat) => (List.range p.toNat).flatMap fun (j : Nat) => [Act.tri (i : Int) (j : Int) false, Act.tri (i : Int) (j : Int) true]) ++ (List.range a.toNat).map fun (i : Nat) => Act.opn (i : Int)
theorem actions {a p : Int} {S : Sto} (hs : Sizes a p) : m__law_actions [.d (.int a), .d (.int p)] S = some (.ok (.d (.lst (actsD (allActs a p)))), S) := by
  unfold m__law_actions b__law_actions
  rw [funM_ap, if_pos (by simp)]
  have q : ∀ n : Nat, n ≤ 1000 → n < sizeLine := fun n h => slt (by omega)
  have q0 := q 0 (by omega)
  have q1 := q 1 (by omega)
  have q2 := q 2 (by omega)
  have q3 := q 3 (by omega)
  have q4 := q 4 (by omega)
  have q5 := q 5 (by omega)
  have q7 : (7 : Nat) ≤ sizeLine := z7
  have q6 : (6 : Nat) ≤ sizeLine := by decide
  rcases hs with ⟨rfl, rfl⟩ | ⟨rfl, rfl⟩ | ⟨rfl, rfl⟩ <;> simp [frame0, rngL, List.range, List.range.loop, loopM_cons, lcL_cons, z4, z2, z1, q0, q1, q2, q3, q4, q5, q6, q7, z5, z3, actsD, allActs, Act.d]
end SH
namespace SH
open PySem PySem.Spec PyProof.Rows L2 MM
/-! ### moments pass by -/
theorem Part.ext' {p q : Part} (h1 : p.count = q.count) (h2 : p.age = q.age) (h3 : p.left = q.left) (h4 : p.whole = q.whole) (h5 : p.streak = q.streak) : p = q := by
  cases p; cases q; simp_all
theorem passed_succ {r : Rule} {q : Part} {n : Int} (h : 0 ≤ n) : passedP r (passedP r q n) 1 = passedP r q (n + 1) := by
  have fd : ∀ (q : Part) (n : Int), faded r q n ↔ (r.fade ≠ 0 ∧ q.count ≠ 0 ∧ r.fade ≤ q.age + n) := fun _ _ => Iff.rfl
  have ec : (passedP r q n).count = if faded r q n then 0 else q.count := rfl
  have ea : (passedP r q n).age = if faded r q n then 0 else if r.fade ≠ 0 ∧ q.count ≠ 0 then q.age + n else q.age := rfl
  have el : (passedP r q n).left = if q.left - n < 0 then 0 else q.left - n := rfl
  have ew : (passedP r q n).whole = if q.left - n ≤ 0 then 0 else q.whole := rfl
  have key : (faded r q n ∧ faded r q (n + 1) ∧ ¬ faded r (passedP r q n) 1) ∨ (¬ faded r q n ∧ (faded r (passedP r q n) 1 ↔ faded r q (n + 1))) := by
    by_cases c : faded r q n
    · left
      obtain ⟨c1, c2, c3⟩ := (fd _ _).mp c
      refine ⟨c, (fd _ _).mpr ⟨c1, c2, by omega⟩, fun z => ((fd _ _).mp z).2.1 (by rw [ec, if_pos c])⟩
    · right
      refine ⟨c, ?_⟩
      rw [fd, fd, ec, ea, if_neg c, if_neg c]
      by_cases k : r.fade ≠ 0 ∧ q.count ≠ 0
      · rw [if_pos k]
        constructor
        · rintro ⟨a1, a2, a3⟩; exact ⟨a1, a2, by omega⟩
        · rintro ⟨a1, a2, a3⟩; exact ⟨a1, a2, by omega⟩
      · constructor
        · rintro ⟨a1, a2, a3⟩; exact absurd ⟨a1, a2⟩ k
        · rintro ⟨a1, a2, a3⟩; exact absurd ⟨a1, a2⟩ k
  refine Part.ext' ?_ ?_ ?_ ?_ rfl
  · show (if faded r (passedP r q n) 1 then 0 else (passedP r q n).count) = if faded r q (n + 1) then 0 else q.count
    rw [ec]
    rcases key with ⟨k1, k2, k3⟩ | ⟨k1, k2⟩
    · rw [if_neg k3, if_pos k1, if_pos k2]
    · rw [if_neg k1]
      by_cases c : faded r q (n + 1)
      · rw [if_pos (k2.mpr c), if_pos c]
      · rw [if_neg (fun z => c (k2.mp z)), if_neg c]
  · show (if faded r (passedP r q n) 1 then 0 else if r.fade ≠ 0 ∧ (passedP r q n).count ≠ 0 then (passedP r q n).age + 1 else (passedP r q n).age) = if faded r q (n + 1) then 0 else if r.fade ≠ 0 ∧ q.count ≠ 0 then q.age + (n + 1) else q.age
    rw [ec, ea]
    rcases key with ⟨k1, k2, k3⟩ | ⟨k1, k2⟩
    · rw [if_neg k3, if_pos k1, if_pos k1, if_pos k2, if_neg (fun z => z.2 rfl)]
    · rw [if_neg k1, if_neg k1]
      by_cases c : faded r q (n + 1)
      · rw [if_pos (k2.mpr c), if_pos c]
      · rw [if_neg (fun z => c (k2.mp z)), if_neg c]
        by_cases k : r.fade ≠ 0 ∧ q.count ≠ 0
        · rw [if_pos k, if_pos k, if_pos k]; omega
        · rw [if_neg k, if_neg k, if_neg k]
  · show (if (passedP r q n).left - 1 < 0 then 0 else (passedP r q n).left - 1) = if q.left - (n + 1) < 0 then 0 else q.left - (n + 1)
    rw [el]
    repeat' split
    all_goals omega
  · show (if (passedP r q n).left - 1 ≤ 0 then 0 else (passedP r q n).whole) = if q.left - (n + 1) ≤ 0 then 0 else q.whole
    rw [el, ew]
    repeat' split
    all_goals omega
theorem passed_zero {r : Rule} {c : OC} {t : Int} {q : Part} (h : Mt r c t q) (hf : 0 ≤ r.fade) : passedP r q 0 = q := by
  obtain ⟨s0, c0, w0, hl, hw, hc, ha, hs⟩ := h
  rw [fresh_count] at hc ha
  have nf : ¬ faded r q 0 := fun z => by
    have fd : faded r q 0 ↔ (r.fade ≠ 0 ∧ q.count ≠ 0 ∧ r.fade ≤ q.age + 0) := Iff.rfl
    obtain ⟨a1, a2, a3⟩ := fd.mp z
    by_cases k1 : 0 < c.count ∧ 0 < r.fade ∧ c.at_ + r.fade ≤ t
    · rw [if_pos k1] at hc; exact a2 hc
    · rw [if_neg k1] at hc ha
      have k2 : 0 < c.count ∧ 0 < r.fade := ⟨by omega, by omega⟩
      rw [if_pos k2] at ha
      exact k1 ⟨k2.1, k2.2, by omega⟩
  refine Part.ext' ?_ ?_ ?_ ?_ rfl
  · show (if faded r q 0 then 0 else q.count) = _
    rw [if_neg nf]
  · show (if faded r q 0 then 0 else if r.fade ≠ 0 ∧ q.count ≠ 0 then q.age + 0 else q.age) = _
    rw [if_neg nf]; split <;> omega
  · show (if q.left - 0 < 0 then 0 else q.left - 0) = _
    rw [hl]; repeat' split
    all_goals omega
  · show (if q.left - 0 ≤ 0 then 0 else q.whole) = _
    rw [hl, hw]; repeat' split
    all_goals omega
theorem Mt.passN {r : Rule} {c : OC} {t : Int} {q : Part} (h : Mt r c t q) (hf : 0 ≤ r.fade) : ∀ n : Nat, Mt r c (t + (n : Int)) (passedP r q (n : Int))
  | 0 => by
    rw [show ((0 : Nat) : Int) = 0 from rfl, passed_zero h hf, Int.add_zero]; exact h
  | n + 1 => by
    have ih := (Mt.passN h hf n).pass hf
    rw [passed_succ (by omega)] at ih
    rw [show ((n + 1 : Nat) : Int) = (n : Int) + 1 by omega, ← Int.add_assoc]
    exact ih
theorem RelS.pass {rs : List Rule} {a p : Int} {l : OS} {t t' : Int} {st : St} (hok : ∀ r ∈ rs, r.Ok) (h : RelS a p l t 0 rs st) (hle : t ≤ t') : RelS a p l t' 0 rs (idleS rs st (t' - t)) := by
  obtain ⟨n, hn⟩ : ∃ n : Nat, t' - t = (n : Int) := ⟨(t' - t).toNat, by omega⟩
  rw [hn, idle_keyed h.shape, show t' = t + (n : Int) by omega]
  exact h.map (rs0 := rs) (fun r _ q => passedP r q (n : Int)) (fun i r e => by rw [Nat.zero_add]; exact ruleAt_of e) fun i r e κ hκ q hq => hq.passN (hok r (List.mem_of_getElem? e)).f0 n
/-! ### the bound of what is held -/
def Bd (l : OS) (now : Int) : Prop := ∀ z, (osGet l z).til ≤ now + 16 ∧ (osGet l z).whole ≤ 16
theorem mid_bd {r : Rule} {c : OC} {now t : Int} {hs : List Nat} {right : Bool} {k : Nat} (ok : r.Ok) (h : c.til ≤ now + 16 ∧ c.whole ≤ 16) (hle : now ≤ t) (h0 : -1 ≤ t) : (midC r c t hs right k).til ≤ t + 16 ∧ (midC r c t hs right k).whole ≤ 16 := by
  obtain ⟨a1, a2⟩ := h
  unfold midC
  split
  · split
    · exact ⟨by show t + c.whole ≤ t + 16; omega, a2⟩
    · exact ⟨by omega, a2⟩
  · split
    · split
      · exact ⟨by show (-1 : Int) ≤ t + 16; omega, by show (0 : Int) ≤ 16; omega⟩
      · exact ⟨by omega, a2⟩
    · unfold countedC
      split
      · exact ⟨by show c.til ≤ t + 16; omega, a2⟩
      · have h2 : 1 ≤ (if r.grows = true then fac c.streak else 1) ∧ (if r.grows = true then fac c.streak else 1) ≤ 4 := by
          unfold fac
          repeat' split
          all_goals omega
        have h1 := ok.l0
        have h3 := ok.l1
        have hm : r.lock * (if r.grows = true then fac c.streak else 1) ≤ 16 := by
          generalize (if r.grows = true then fac c.streak else 1) = f at h2
          have : f = 1 ∨ f = 2 ∨ f = 3 ∨ f = 4 := by omega
          rcases this with rfl | rfl | rfl | rfl <;> omega
        exact ⟨by show t + _ ≤ t + 16; omega, hm⟩
theorem do_bd {rs : List Rule} {l : OS} {now t : Int} {act : Act} (hok : ∀ r ∈ rs, r.Ok) (h : Bd l now) (hle : now ≤ t) (h0 : -1 ≤ t) : Bd (doS rs l t act).2 t := by
  intro z
  cases act with
  | non => exact ⟨by have := (h z).1; show (osGet l z).til ≤ _; omega, (h z).2⟩
  | opn x =>
    show (osGet (doOpn x l) z).til ≤ _ ∧ (osGet (doOpn x l) z).whole ≤ _
    rw [doOpn_get]
    split
    · exact ⟨by show (-1 : Int) ≤ _; omega, by show (0 : Int) ≤ _; omega⟩
    · exact ⟨by have := (h z).1; omega, (h z).2⟩
  | tri x y right =>
    show (osGet (tryOS rs l t x y right (List.range rs.length) l) z).til ≤ _ ∧ (osGet (tryOS rs l t x y right (List.range rs.length) l) z).whole ≤ _
    rw [tryOS_get]
    split
    · rename_i q
      rw [newC_mid (List.mem_range.mp q.1)]
      have hz := List.mem_range.mp q.1
      refine mid_bd (now := now) (hok _ ?_) ?_ hle h0
      · have : ruleAt rs z.1 = rs[z.1] := ruleAt_of (List.getElem?_eq_getElem hz)
        rw [this]; exact List.getElem_mem hz
      · rw [fresh_til, fresh_whole]; exact h _
    · exact ⟨by have := (h z).1; omega, (h z).2⟩
end SH
namespace SH
open PySem PySem.Spec PyProof.Rows L2 MM
/-! ### a door: its log, its standings -/
@[simp] theorem isIns_loc {C z : Str} {n : Nat} {ρ : MM.Fr} {S : Sto} : isIns C z (.loc n) ρ S = match S[n]? with
    | some (.ins E fs) => if E = C ∧ fs.lookup z = none then some (.ok (.loc n), S) else none
    | some (.frz (.obj E fs)) => if E = C ∧ fs.lookup z = none then some (.ok (.d (.obj E fs)), S) else none
    | _ => none := rfl
@[simp] theorem propM_ap {C z : Str} {f : FM} {mo : EM} {ρ : MM.Fr} {S : Sto} : propM C z f mo ρ S = MM.bindM (MM.bindM mo (isIns C z)) (fun o => fun _ S => if closedR o = true then (match f [o] S with
  | some (.ok r, S') => some (.ok r, S')
  | _ => none) else none) ρ S := rfl
@[simp] theorem lkd_0 {α : Type} {x y z : α} : List.lookup ("book" : Str) [("book", x), ("rows", y), ("standings", z)] = some x := by with_unfolding_all rfl
@[simp] theorem lkd_1 {α : Type} {x y z : α} : List.lookup ("rows" : Str) [("book", x), ("rows", y), ("standings", z)] = some y := by with_unfolding_all rfl
@[simp] theorem lkd_2 {α : Type} {x y z : α} : List.lookup ("standings" : Str) [("book", x), ("rows", y), ("standings", z)] = some z := by with_unfolding_all rfl
@[simp] theorem lkd_3 {α : Type} {x y z : α} : List.lookup ("now" : Str) [("book", x), ("rows", y), ("standings", z)] = none := by with_unfolding_all rfl
@[simp] theorem lkd_4 {α : Type} {x y z : α} : List.lookup ("at" : Str) [("book", x), ("rows", y), ("standings", z)] = none := by with_unfolding_all rfl
@[simp] theorem lkd_5 {α : Type} {x y z : α} : List.lookup ("act" : Str) [("book", x), ("rows", y), ("standings", z)] = none := by with_unfolding_all rfl
@[simp] theorem lkd_6 {α : Type} {x y z : α} : List.lookup ("is_kept" : Str) [("book", x), ("rows", y), ("standings", z)] = none := by with_unfolding_all rfl
@[simp] theorem lkd_7 {α : Type} {x y z : α} : List.lookup ("open_again" : Str) [("book", x), ("rows", y), ("standings", z)] = none := by with_unfolding_all rfl
@[simp] theorem lkd_8 {α : Type} {x y z : α} : List.lookup ("undo" : Str) [("book", x), ("rows", y), ("standings", z)] = none := by with_unfolding_all rfl
@[simp] theorem lkd_9 {α : Type} {x y z : α} : List.lookup ("log" : Str) [("book", x), ("rows", y), ("standings", z)] = none := by with_unfolding_all rfl
@[simp] theorem lkd_10 {α : Type} {x y z : α} : List.lookup ("__len__" : Str) [("book", x), ("rows", y), ("standings", z)] = none := by with_unfolding_all rfl
theorem seq_nx {m n : SM} {ρ ρ' : MM.Fr} {S S' : Sto} (h : m ρ S = some (.nx, ρ', S')) : seqM m n ρ S = n ρ' S' := by simp [h]
theorem atI_last {l : List D} {d : D} : atI (l ++ [d]) (-1) = some d := by
  unfold atI ixN
  rw [if_neg (by decide), if_pos (by simp; omega)]
  show (l ++ [d])[((-1 : Int) + ((l ++ [d]).length : Int)).toNat]? = some d
  rw [show ((-1 : Int) + ((l ++ [d]).length : Int)).toNat = l.length by rw [List.length_append]; simp; omega]
  simp
abbrev LG := Int × Act × Str
def rowD (z : LG) : D := .tup [.int z.1, z.2.1.d, .str z.2.2]
def logD (log : List LG) : List D := log.map rowD
inductive Dr (rs : List Rule) (a p : Int) : List LG → List St → Int → St → OS → Prop
  | nil : Dr rs a p [] [firstS rs a p] (-1) (firstS rs a p) []
  | snoc {log : List LG} {sts : List St} {now : Int} {st : St} {l : OS} {m : Int} {act : Act} : Dr rs a p log sts now st l → now < m → act.Ok a p →
      Dr rs a p (log ++ [(m, act, (doS rs l m act).1)]) (sts ++ [(stepS rs a p (idleS rs st (m - now - 1)) act).2]) m (stepS rs a p (idleS rs st (m - now - 1)) act).2 (doS rs l m act).2
section
variable {rs : List Rule} {a p : Int} {log : List LG} {sts : List St} {now : Int} {st : St} {l : OS}
theorem Dr.ok (hok : ∀ r ∈ rs, r.Ok) (hl : rs.length ≤ 3) (h : Dr rs a p log sts now st l) : -1 ≤ now ∧ RelS a p l (now + 1) 0 rs st ∧ Bd l now ∧ Sk l ∧ l.length ≤ 3 * log.length ∧ sts.length = log.length + 1 := by
  induction h with
  | nil => exact ⟨by omega, RelS.first (by omega) rs 0, fun z => ⟨by show (-1 : Int) ≤ -1 + 16; omega, by show (0 : Int) ≤ 16; omega⟩, fun z => Int.le_refl 0, by simp, rfl⟩
  | @snoc log sts now st l m act h hm ha ih =>
    obtain ⟨i1, i2, i3, i4, i5, i6⟩ := ih
    have hp := i2.pass (t' := m) hok (by omega)
    rw [show m - (now + 1) = m - now - 1 by omega] at hp
    obtain ⟨q1, q2⟩ := sim_step hok (by omega) ha hp
    have := do_len (rs := rs) (l := l) (t := m) (act := act)
    exact ⟨by omega, q2, do_bd hok i3 (by omega) (by omega), do_sk i4, by simp; omega, by simp [i6]⟩
theorem Dr.told (hok : ∀ r ∈ rs, r.Ok) (hl : rs.length ≤ 3) (h : Dr rs a p log sts now st l) {m : Int} {act : Act} (hm : now < m) (ha : act.Ok a p) : (doS rs l m act).1 = (stepS rs a p (idleS rs st (m - now - 1)) act).1 := by
  obtain ⟨i1, i2, _⟩ := h.ok hok hl
  have hp := i2.pass (t' := m) hok (by omega)
  rw [show m - (now + 1) = m - now - 1 by omega] at hp
  exact (sim_step hok (by omega) ha hp).1
theorem Dr.good (hok : ∀ r ∈ rs, r.Ok) (hl : rs.length ≤ 3) (h : Dr rs a p log sts now st l) {m : Int} (hm : now < m) : Shape rs a p (idleS rs st (m - now - 1)) ∧ StrkOk (idleS rs st (m - now - 1)) := by
  obtain ⟨i1, i2, _⟩ := h.ok hok hl
  have hp := i2.pass (t' := m) hok (by omega)
  rw [show m - (now + 1) = m - now - 1 by omega] at hp
  exact ⟨hp.shape, hp.strk⟩
theorem Dr.last (h : Dr rs a p log sts now st l) : ∃ pre, sts = pre ++ [st] := by
  cases h with
  | nil => exact ⟨[], rfl⟩
  | snoc _ _ _ => exact ⟨_, rfl⟩
theorem Dr.end (h : Dr rs a p log sts now st l) : (log = [] ∧ now = -1 ∧ l = []) ∨ ∃ (pre : List LG) (act : Act) (s : Str) (sp : List St) (now' : Int) (st' : St) (l' : OS), log = pre ++ [(now, act, s)] ∧ sts = sp ++ [st] ∧ Dr rs a p pre sp now' st' l' := by
  cases h with
  | nil => exact .inl ⟨rfl, rfl, rfl⟩
  | snoc h1 h2 h3 => exact .inr ⟨_, _, _, _, _, _, _, rfl, rfl, h1⟩
structure DoorAt (S : Sto) (nd : Nat) (bk : D) (rows sts : List D) : Prop where
  two : 2 ≤ nd
  ins : S[nd]? = some (.ins "Door" [("book", .d bk), ("rows", .loc (nd + 1)), ("standings", .loc (nd + 2))])
  rows : S[nd + 1]? = some (.lst rows)
  sts : S[nd + 2]? = some (.lst sts)
variable {S : Sto} {nd : Nat}
theorem get_app {S T : Sto} {i : Nat} {c : Cell} (h : S[i]? = some c) : (S ++ T)[i]? = some c := by
  rw [List.getElem?_append_left (List.getElem?_eq_some_iff.mp h).1]; exact h
theorem get_set {S : Sto} {i j : Nat} {c d : Cell} (h : S[i]? = some c) (hn : j ≠ i) : (S.set j d)[i]? = some c := by
  rw [List.getElem?_set_ne hn]; exact h
theorem get_self {S : Sto} {i : Nat} {c d : Cell} (h : S[i]? = some c) : (S.set i d)[i]? = some d := List.getElem?_set_self (List.getElem?_eq_some_iff.mp h).1
theorem DoorAt.put {bk : D} {rows sts rows' sts' : List D} (h : DoorAt S nd bk rows sts) : DoorAt ((S.set (nd + 1) (.lst rows')).set (nd + 2) (.lst sts')) nd bk rows' sts' := by
  refine ⟨h.two, get_set (get_set h.ins (by omega)) (by omega), get_set (get_self h.rows) (by omega), get_self (get_set h.sts (by omega) (d := .lst rows'))⟩
theorem put_b {x : R} : putR "book" x [] = ([("book", x)] : List (Str × R)) := by with_unfolding_all rfl
theorem put_r {x y : R} : putR "rows" y [("book", x)] = ([("book", x), ("rows", y)] : List (Str × R)) := by with_unfolding_all rfl
theorem put_s {x y z : R} : putR "standings" z [("book", x), ("rows", y)] = ([("book", x), ("rows", y), ("standings", z)] : List (Str × R)) := by with_unfolding_all rfl
theorem door_init {bk : D} (hs : Sizes a p) (hl : rs.length ≤ 3) (hb : bk = bookD rs a p) : m_Door_init [.loc S.length, .d bk] (S ++ [.ins "Door" []]) = some (.ok (.d .non), S ++ [.ins "Door" [("book", .d bk), ("rows", .loc (S.length + 1)), ("standings", .loc (S.length + 2))], .lst [], .lst [stD (firstS rs a p)]]) := by
  subst hb
  have hf : ∀ S, m_first_standing [.d (bookD rs a p)] S = some (.ok (.d (stD (firstS rs a p))), S) := fun S => first_standing hs hl
  unfold m_Door_init b_Door_init
  rw [funM_ap, if_pos (by simp)]
  generalize bookD rs a p = bk at hf ⊢
  simp [frame0, put_b, put_r, put_s, hf, z1, List.set_append]
theorem door_now (d : Dr rs a p log sts now st l) (h : DoorAt S nd (bookD rs a p) (logD log) (sts.map stD)) : m_Door_now [.loc nd] S = some (.ok (.d (.int now)), S) := by
  have h1 := h.ins
  have h2 := h.rows
  unfold m_Door_now b_Door_now
  rw [funM_ap, if_pos (by simp)]
  rcases d.end with ⟨rfl, rfl, _⟩ | ⟨pre, act, s, sp, now', st', l', rfl, rfl, _⟩
  · simp [frame0, h1, h2, logD]
  · have e : logD (pre ++ [(now, act, s)]) = logD pre ++ [rowD (now, act, s)] := by simp [logD]
    rw [e] at h2
    simp [frame0, h1, h2, atI_last, rowD]
@[simp] theorem isi_non_int : isiF [.non, .ty "int"] = some (.bl false) := rfl
theorem door_at (hs : Sizes a p) (hl : rs.length ≤ 3) (hok : ∀ r ∈ rs, r.Ok) (d : Dr rs a p log sts now st l) (h : DoorAt S nd (bookD rs a p) (logD log) (sts.map stD)) {m : Int} (hm : now < m) : m_Door_at [.loc nd, .d (.int m)] S = some (.ok (.d (stD (idleS rs st (m - now - 1)))), S) := by
  have h1 := h.ins
  have h3 := h.sts
  have hn := door_now d h
  obtain ⟨_, i2, _⟩ := d.ok hok hl
  have hi := idle (n := m - now - 1) (S := S) hs hl i2.shape
  obtain ⟨pre, rfl⟩ := d.last
  rw [List.map_append] at h3
  have hm' : ¬ m ≤ now := by omega
  unfold m_Door_at b_Door_at
  rw [funM_ap, if_pos (by simp)]
  simp [frame0, h1, h3, hn, hm', atI_last, hi]
theorem door_at_bad (d : Dr rs a p log sts now st l) (h : DoorAt S nd (bookD rs a p) (logD log) (sts.map stD)) {x : D} (hx : x = .non ∨ (∃ s, x = .str s) ∨ ∃ m, x = .int m ∧ m ≤ now) : m_Door_at [.loc nd, .d x] S = some (.ex "BadMoment" [], S) := by
  have h1 := h.ins
  have hn := door_now d h
  unfold m_Door_at b_Door_at
  rw [funM_ap, if_pos (by simp)]
  rcases hx with rfl | ⟨s, rfl⟩ | ⟨m, rfl, hm⟩
  · simp [frame0]
  · have i1 : isiF [.str s, .ty "int"] = some (.bl false) := rfl
    simp [frame0, i1]
  · simp [frame0, h1, hn, hm]
theorem door_act (hs : Sizes a p) (hl : rs.length ≤ 3) (hok : ∀ r ∈ rs, r.Ok) (hS : S[0]? = some (.tab "step")) (hlen : log.length ≤ 100000) (d : Dr rs a p log sts now st l) (h : DoorAt S nd (bookD rs a p) (logD log) (sts.map stD)) {m : Int} {act : Act} (hm : now < m) (ha : act.Ok a p) :
    m_Door_act [.loc nd, .d (.int m), .d act.d] S = some (.ok (.d (.str (doS rs l m act).1)), (S.set (nd + 1) (.lst (logD (log ++ [(m, act, (doS rs l m act).1)])))).set (nd + 2) (.lst ((sts ++ [(stepS rs a p (idleS rs st (m - now - 1)) act).2]).map stD))) := by
  have h1 := h.ins
  have h2 := h.rows
  have h3 := h.sts
  have hat := door_at hs hl hok d h hm
  obtain ⟨g1, g2⟩ := d.good hok hl hm
  have hst := step (t := act) hs hl g1 g2 hS
  have hsl : sts.length = log.length + 1 := by obtain ⟨_, _, _, _, _, e⟩ := d.ok hok hl; exact e
  rw [← d.told hok hl hm ha] at hst
  have hc := check_ok (rs := rs) (a := a) (p := p) (S := S) (xs := [act]) (fun z hz => by rw [List.mem_singleton.mp hz]; exact ha) (by simp)
  have b1 : (logD log).length < sizeLine := slt (by simp [logD]; omega)
  have b2 : (sts.map stD).length < sizeLine := slt (by simp; omega)
  have k1 : ∀ c : Cell, (S.set (nd + 1) c)[nd]? = some (.ins "Door" [("book", .d (bookD rs a p)), ("rows", .loc (nd + 1)), ("standings", .loc (nd + 2))]) := fun c => get_set h1 (by omega)
  have k3 : ∀ c : Cell, (S.set (nd + 1) c)[nd + 2]? = some (.lst (sts.map stD)) := fun c => get_set h3 (by omega)
  have e1 : logD (log ++ [(m, act, (doS rs l m act).1)]) = logD log ++ [.tup [.int m, act.d, .str (doS rs l m act).1]] := by simp [logD, rowD]
  have e2 : ∀ s : St, (sts ++ [s]).map stD = sts.map stD ++ [stD s] := fun s => by simp
  rw [e1, e2]
  unfold m_Door_act b_Door_act
  rw [funM_ap, if_pos (by simp)]
  simp only [actsD, List.map_cons, List.map_nil] at hc
  generalize logD log = L at *
  generalize sts.map stD = T at *
  generalize act.d = A at *
  generalize stD (idleS rs st (m - now - 1)) = B at *
  generalize stD (stepS rs a p (idleS rs st (m - now - 1)) act).2 = E at *
  generalize (doS rs l m act).1 = O at *
  generalize bookD rs a p = bk at *
  simp [frame0, h1, h2, hc, z1, hat, hst, b1, b2, k1, k3, z3, methO_ap]
theorem door_act_moment (hok : ∀ r ∈ rs, r.Ok) (d : Dr rs a p log sts now st l) (h : DoorAt S nd (bookD rs a p) (logD log) (sts.map stD)) {x : D} {act : Act} (hx : x = .non ∨ (∃ s, x = .str s) ∨ ∃ m, x = .int m ∧ m ≤ now) (ha : act.Ok a p) :
    m_Door_act [.loc nd, .d x, .d act.d] S = some (.ex "BadMoment" [], S) := by
  have h1 := h.ins
  have hat := door_at_bad d h hx
  have hc := check_ok (rs := rs) (a := a) (p := p) (S := S) (xs := [act]) (fun z hz => by rw [List.mem_singleton.mp hz]; exact ha) (by simp)
  simp only [actsD, List.map_cons, List.map_nil] at hc
  unfold m_Door_act b_Door_act
  rw [funM_ap, if_pos (by simp)]
  generalize act.d = A at *
  generalize bookD rs a p = bk at *
  simp [frame0, h1, hc, z1, hat, methO_ap]
theorem door_act_action (h : DoorAt S nd (bookD rs a p) (logD log) (sts.map stD)) {x y : D} (hg : m_is_action [.d (bookD rs a p), .d y] S = some (.ok (.d (.bl false)), S)) :
    m_Door_act [.loc nd, .d x, .d y] S = some (.ex "BadAction" [], S) := by
  have h1 := h.ins
  have hc := check (rs := rs) (a := a) (p := p) (S := S) (ds := [y]) (g := fun _ => false) (fun z hz => by rw [List.mem_singleton.mp hz]; exact hg) (by simp)
  simp at hc
  unfold m_Door_act b_Door_act
  rw [funM_ap, if_pos (by simp)]
  generalize bookD rs a p = bk at *
  simp [frame0, h1, hc, z1]
end
end SH
namespace SH
open PySem PySem.Spec PyProof.Rows L2 MM
section
variable {rs : List Rule} {a p : Int} {log : List LG} {sts : List St} {now : Int} {st : St} {l : OS} {S : Sto} {nd : Nat} {x y : Int}
theorem door_undo_none (h : DoorAt S nd (bookD rs a p) [] (sts.map stD)) : m_Door_undo [.loc nd] S = some (.ex "NothingToUndo" [], S) := by
  have h1 := h.ins
  have h2 := h.rows
  unfold m_Door_undo b_Door_undo
  rw [funM_ap, if_pos (by simp)]
  simp [frame0, h1, h2]
/-! ### replay -/
def lateD (s : Str) (z : LG) : D := .tup [.int z.1, z.2.1.d, .str s]
theorem set2 {S : Sto} {n : Nat} {A A' B B' : Cell} : (((S.set (n + 1) A).set (n + 2) B).set (n + 1) A').set (n + 2) B' = (S.set (n + 1) A').set (n + 2) B' := by
  rw [List.set_comm B A' (by omega : n + 2 ≠ n + 1), List.set_set, List.set_set]
noncomputable def repBody : SM := dropM (methO "Door" "act" 3 m_Door_act (varM 2) (consA (varM 3) (consA (varM 4) (nilA))))
theorem step_set {S : Sto} {j : Nat} {c d : Cell} (h : S[0]? = some c) (hj : 2 ≤ j) : (S.set j d)[0]? = some c := get_set h (by omega)
theorem rep_loop {R1 : D} {s : Str} (hs : Sizes a p) (hl : rs.length ≤ 3) (hok : ∀ r ∈ rs, r.Ok) (hS : S[0]? = some (.tab "step")) (h0 : DoorAt S nd (bookD rs a p) (logD []) ([firstS rs a p].map stD)) (d : Dr rs a p log sts now st l) (hlen : log.length ≤ 100000) :
    ∃ e3 e4 e5, ∀ ys, loopM (tupT [nameT 3, nameT 4, nameT 5]) repBody (log.map (lateD s) ++ ys) [some (.r (.d (bookD rs a p))), some (.r (.d R1)), some (.r (.loc nd)), none, none, none] S
      = loopM (tupT [nameT 3, nameT 4, nameT 5]) repBody ys [some (.r (.d (bookD rs a p))), some (.r (.d R1)), some (.r (.loc nd)), e3, e4, e5] ((S.set (nd + 1) (.lst (logD log))).set (nd + 2) (.lst (sts.map stD))) := by
  induction d with
  | nil =>
    refine ⟨none, none, none, fun ys => ?_⟩
    rw [set_self h0.rows, set_self h0.sts]
    rfl
  | @snoc log sts now st l m act d hm ha ih =>
    rw [List.length_append, List.length_singleton] at hlen
    obtain ⟨e3, e4, e5, ih⟩ := ih (by omega)
    have hT : DoorAt ((S.set (nd + 1) (.lst (logD log))).set (nd + 2) (.lst (sts.map stD))) nd (bookD rs a p) (logD log) (sts.map stD) := h0.put
    have h2 := h0.two
    have hact := door_act hs hl hok (step_set (step_set hS (by omega)) (by omega)) (by omega) d hT hm ha
    have hi := hT.ins
    rw [set2] at hact
    refine ⟨some (.r (.d (.int m))), some (.r (.d act.d)), some (.r (.d (.str s))), fun ys => ?_⟩
    rw [List.map_append, List.append_assoc, ih]
    show loopM _ _ (D.tup [.int m, act.d, .str s] :: ys) _ _ = _
    rw [loopM_cons]
    unfold repBody
    generalize logD (log ++ [(m, act, (doS rs l m act).1)]) = L at *
    generalize bookD rs a p = bk at *
    simp [hact, hi, methO_ap]
theorem replay {s : Str} (hs : Sizes a p) (hl : rs.length ≤ 3) (hok : ∀ r ∈ rs, r.Ok) (hS : S[0]? = some (.tab "step")) (h2 : 2 ≤ S.length) (d : Dr rs a p log sts now st l) (hlen : log.length ≤ 100000) :
    ∃ S', m_replay [.d (bookD rs a p), .d (.lst (log.map (lateD s)))] S = some (.ok (.loc S.length), S') ∧ DoorAt S' S.length (bookD rs a p) (logD log) (sts.map stD) ∧ S' = S ++ [.ins "Door" [("book", .d (bookD rs a p)), ("rows", .loc (S.length + 1)), ("standings", .loc (S.length + 2))], .lst (logD log), .lst (sts.map stD)] := by
  obtain ⟨T, hT⟩ : ∃ T, T = S ++ [Cell.ins "Door" [("book", .d (bookD rs a p)), ("rows", .loc (S.length + 1)), ("standings", .loc (S.length + 2))], .lst [], .lst [stD (firstS rs a p)]] := ⟨_, rfl⟩
  have hi := door_init (S := S) hs hl rfl
  rw [← hT] at hi
  have hD : DoorAt T S.length (bookD rs a p) (logD []) ([firstS rs a p].map stD) := by
    rw [hT]
    exact ⟨h2, by simp, by simp [logD], by simp⟩
  have hT0 : T[0]? = some (.tab "step") := by rw [hT]; exact get_app hS
  obtain ⟨e3, e4, e5, hlo⟩ := rep_loop (R1 := .lst (log.map (lateD s))) (s := s) hs hl hok hT0 hD d hlen
  have hlo := hlo []
  rw [List.append_nil] at hlo
  refine ⟨(T.set (S.length + 1) (.lst (logD log))).set (S.length + 2) (.lst (sts.map stD)), ?_, hD.put, by rw [hT]; simp [List.set_append]⟩
  unfold m_replay b_replay
  rw [funM_ap, if_pos (by simp)]
  rw [show dropM (methO "Door" "act" 3 m_Door_act (varM 2) (consA (varM 3) (consA (varM 4) (nilA)))) = repBody from rfl]
  generalize repBody = B at hlo ⊢
  generalize List.map (lateD s) log = X at hlo ⊢
  generalize bookD rs a p = bk at hi hlo ⊢
  simp [frame0, hi, hlo]
end
end SH
namespace SH
open PySem PySem.Spec PyProof.Rows L2 MM
/-! ### dicts by keys of a kind -/
structure KeyT (κ : Type) where
  d : κ → D
  nk : κ → NestedKey
  tk : ∀ x, MM.tupKey (d x) = some (nk x)
  inj : ∀ x y, nk x = nk y → x = y
section
variable {κ α : Type} [DecidableEq κ] (T : KeyT κ) (vd : α → D)
end
/-! ### standings as keys -/
end SH
namespace SH
open PySem PySem.Spec PyProof.Rows L2 MM
/-! ### good parts -/
structure PG (r : Rule) (q : Part) : Prop where
  c0 : 0 ≤ q.count
  c1 : q.count < r.most
  age : (0 < q.count ∧ 0 < r.fade) → 1 ≤ q.age ∧ q.age < r.fade
  age0 : ¬ (0 < q.count ∧ 0 < r.fade) → q.age = 0
  l0 : 0 ≤ q.left
  lw : q.left ≤ q.whole
  lz : q.left = 0 → q.whole = 0
  lc : 0 < q.left → q.count = 0
  w : q.whole = 0 ∨ q.whole = r.lock ∨ (r.grows = true ∧ (q.whole = 2 * r.lock ∨ q.whole = 4 * r.lock))
  s0 : 0 ≤ q.streak
  s2 : q.streak ≤ 2
  sg : r.grows = false → q.streak = 0
theorem PG.new {r : Rule} (ok : r.Ok) : PG r Part.new := by
  have := ok.m0
  exact ⟨Int.le_refl _, by show (0 : Int) < _; omega, fun h => absurd h.1 (by show ¬ (0 : Int) < 0; omega), fun _ => rfl, Int.le_refl _, Int.le_refl _, fun _ => rfl, fun _ => rfl, .inl rfl, Int.le_refl _, by show (0 : Int) ≤ 2; omega, fun _ => rfl⟩
/-- a moment passes a part whose age may be 0 -/
theorem PG.of_pass {r : Rule} {q : Part} (ok : r.Ok) (c0 : 0 ≤ q.count) (c1 : q.count < r.most) (a0 : 0 ≤ q.age) (age0 : ¬ (0 < q.count ∧ 0 < r.fade) → q.age = 0) (l0 : 0 ≤ q.left) (lw : q.left ≤ q.whole)
    (lc : 0 < q.left → q.count = 0) (w : q.whole = 0 ∨ q.whole = r.lock ∨ (r.grows = true ∧ (q.whole = 2 * r.lock ∨ q.whole = 4 * r.lock))) (s0 : 0 ≤ q.streak) (s2 : q.streak ≤ 2) (sg : r.grows = false → q.streak = 0) : PG r (passedP r q 1) := by
  have f0 := ok.f0
  have m0 := ok.m0
  have fd : faded r q 1 ↔ (r.fade ≠ 0 ∧ q.count ≠ 0 ∧ r.fade ≤ q.age + 1) := Iff.rfl
  have ec : (passedP r q 1).count = if faded r q 1 then 0 else q.count := rfl
  have ea : (passedP r q 1).age = if faded r q 1 then 0 else if r.fade ≠ 0 ∧ q.count ≠ 0 then q.age + 1 else q.age := rfl
  have el : (passedP r q 1).left = if q.left - 1 < 0 then 0 else q.left - 1 := rfl
  have ew : (passedP r q 1).whole = if q.left - 1 ≤ 0 then 0 else q.whole := rfl
  have es : (passedP r q 1).streak = q.streak := rfl
  refine ⟨?_, ?_, ?_, ?_, ?_, ?_, ?_, ?_, ?_, by rw [es]; exact s0, by rw [es]; exact s2, fun h => by rw [es]; exact sg h⟩
  · rw [ec]; split <;> omega
  · rw [ec]; split <;> omega
  · rw [ec, ea]
    by_cases c : faded r q 1
    · rw [if_pos c, if_pos c]; intro h; omega
    · rw [if_neg c, if_neg c]
      intro ⟨h1, h2⟩
      rw [if_pos ⟨by omega, by omega⟩]
      have : ¬ r.fade ≤ q.age + 1 := fun z => c (fd.mpr ⟨by omega, by omega, z⟩)
      omega
  · rw [ec, ea]
    by_cases c : faded r q 1
    · rw [if_pos c, if_pos c]; intro _; rfl
    · rw [if_neg c, if_neg c]
      intro h
      rw [if_neg (fun z => h ⟨by omega, by omega⟩)]
      exact age0 h
  · rw [el]; split <;> omega
  · rw [el, ew]; repeat' split
    all_goals omega
  · rw [el, ew]; repeat' split
    all_goals omega
  · rw [el, ec]
    intro h
    have : 0 < q.left := by revert h; split <;> omega
    rw [lc this]; split <;> rfl
  · rw [ew]
    split
    · exact .inl rfl
    · exact w
theorem PG.pass {r : Rule} {q : Part} (ok : r.Ok) (h : PG r q) : PG r (passedP r q 1) := by
  have a0 : 0 ≤ q.age := by
    by_cases c : 0 < q.count ∧ 0 < r.fade
    · have := h.age c; omega
    · rw [h.age0 c]; exact Int.le_refl _
  exact PG.of_pass ok h.c0 h.c1 a0 h.age0 h.l0 h.lw h.lc h.w h.s0 h.s2 h.sg
theorem PG.kept {r : Rule} {q : Part} (ok : r.Ok) (h : PG r q) : PG r (keptP r q) := by
  have hp := h.pass ok
  unfold keptP
  split
  · rename_i c
    have hc := h.lc c.2
    have hw : 0 < q.whole := by have := h.lw; omega
    have fd : faded r q 1 ↔ (r.fade ≠ 0 ∧ q.count ≠ 0 ∧ r.fade ≤ q.age + 1) := Iff.rfl
    have ec : (passedP r q 1).count = 0 := by
      show (if faded r q 1 then 0 else q.count) = 0
      rw [hc]; split <;> rfl
    exact ⟨hp.c0, hp.c1, hp.age, hp.age0, by show 0 ≤ q.whole; omega, Int.le_refl _, fun z => z, fun _ => ec, h.w, hp.s0, hp.s2, hp.sg⟩
  · exact hp
theorem PG.let_ {r : Rule} {q : Part} (ok : r.Ok) (h : PG r q) : PG r (letP r q) := by
  unfold letP
  split
  · exact PG.new ok
  · exact h.pass ok
theorem PG.begun {r : Rule} {q : Part} (ok : r.Ok) (h : PG r q) : PG r (begunP r q) := by
  have hl0 := ok.l0
  have hm0 := ok.m0
  have hc0 := h.c0
  have hs0 := h.s0
  have hs2 := h.s2
  unfold begunP
  split
  · rename_i c
    exact PG.of_pass (q := ⟨q.count + 1, 0, 0, 0, q.streak⟩) ok (by show 0 ≤ q.count + 1; omega) c (Int.le_refl _) (fun _ => rfl) (Int.le_refl _) (Int.le_refl _) (fun z => absurd z (by show ¬ (0 : Int) < 0; omega)) (.inl rfl) hs0 hs2 h.sg
  · have hw : ∀ z : Int, z = r.lock * (if r.grows = true then fac q.streak else 1) → 1 ≤ z ∧ (z = r.lock ∨ (r.grows = true ∧ (z = 2 * r.lock ∨ z = 4 * r.lock))) := by
      intro z hz
      by_cases g : r.grows = true
      · rw [if_pos g] at hz
        unfold fac at hz
        have : z = r.lock ∨ z = 2 * r.lock ∨ z = 4 * r.lock := by
          split at hz
          · left; omega
          · split at hz
            · right; left; omega
            · right; right; omega
        rcases this with e | e | e
        · exact ⟨by omega, .inl e⟩
        · exact ⟨by omega, .inr ⟨g, .inl e⟩⟩
        · exact ⟨by omega, .inr ⟨g, .inr e⟩⟩
      · rw [if_neg g] at hz
        exact ⟨by omega, .inl (by omega)⟩
    obtain ⟨w1, w2⟩ := hw _ rfl
    generalize r.lock * (if r.grows = true then fac q.streak else 1) = z at w1 w2 ⊢
    refine ⟨Int.le_refl _, by show (0 : Int) < _; omega, fun z => absurd z.1 (by show ¬ (0 : Int) < 0; omega), fun _ => rfl, by show 0 ≤ z; omega, Int.le_refl _, fun z => z, fun _ => rfl, .inr w2, ?_, ?_, ?_⟩
    · show 0 ≤ (if r.grows = true then (if 2 < q.streak + 1 then 2 else q.streak + 1) else 0)
      repeat' split
      all_goals omega
    · show (if r.grows = true then (if 2 < q.streak + 1 then 2 else q.streak + 1) else 0) ≤ 2
      repeat' split
      all_goals omega
    · intro g
      show (if r.grows = true then (if 2 < q.streak + 1 then 2 else q.streak + 1) else 0) = 0
      rw [if_neg (by rw [g]; simp)]
/-! ### good standings -/
inductive GS (a p : Int) : List Rule → St → Prop
  | nil : GS a p [] []
  | cons {r : Rule} {ps : List Part} {rs : List Rule} {st : St} : ps.length = (keysOf a p r.key).length → (∀ q ∈ ps, PG r q) → GS a p rs st → GS a p (r :: rs) (ps :: st)
section
variable {rs : List Rule} {a p : Int} {st : St}
theorem GS.shape (h : GS a p rs st) : Shape rs a p st := by
  induction h with
  | nil => exact .nil
  | cons h1 _ _ ih => exact .cons h1 ih
theorem GS.map (g : Rule → Kx → Part → Part) (hg : ∀ r ∈ rs, ∀ κ q, PG r q → PG r (g r κ q)) (h : GS a p rs st) : GS a p rs ((rs.zip st).map fun z => ((keysOf a p z.1.key).zip z.2).map fun y => g z.1 y.1 y.2) := by
  induction h with
  | nil => exact .nil
  | @cons r ps rs st h1 h2 h3 ih =>
    refine .cons (by simp [h1]) (fun q hq => ?_) (ih fun r' hr => hg r' (List.mem_cons_of_mem _ hr))
    obtain ⟨y, hy, rfl⟩ := List.mem_map.mp hq
    exact hg r (by simp) _ _ (h2 _ (List.of_mem_zip hy).2)
theorem GS.first (hok : ∀ r ∈ rs, r.Ok) : GS a p rs (firstS rs a p) := by
  induction rs with
  | nil => exact .nil
  | cons r rs ih =>
    refine .cons (by simp) (fun q hq => ?_) (ih fun r' hr => hok r' (List.mem_cons_of_mem _ hr))
    obtain ⟨_, _, rfl⟩ := List.mem_map.mp hq
    exact PG.new (hok r (by simp))
theorem GS.step (hok : ∀ r ∈ rs, r.Ok) (h : GS a p rs st) (x : Act) : GS a p rs (stepS rs a p st x).2 := by
  cases x with
  | non =>
    show GS a p rs (idleS rs st 1)
    rw [idle_keyed h.shape]
    exact h.map (fun r _ q => passedP r q 1) fun r hr _ q hq => hq.pass (hok r hr)
  | opn x =>
    exact h.map (fun r κ q => if touchO x r κ = true then Part.new else passedP r q 1) fun r hr κ q hq => by
      split
      · exact PG.new (hok r hr)
      · exact hq.pass (hok r hr)
  | tri x y right =>
    exact h.map (fun r κ q => if touchT x y r κ = true then chgS (lockedS rs a p st x y) right r q else passedP r q 1) fun r hr κ q hq => by
      split
      · unfold chgS
        split
        · exact hq.kept (hok r hr)
        · split
          · exact hq.let_ (hok r hr)
          · exact hq.begun (hok r hr)
      · exact hq.pass (hok r hr)
end
/-! ### how many there are -/
def encP (q : Part) : Nat := if q.left = 0 then (q.count * 15 + q.age * 3 + q.streak).toNat else 45 + ((q.whole * 17 + q.left) * 3 + q.streak).toNat
theorem encP_lt {r : Rule} {q : Part} (ok : r.Ok) (h : PG r q) : encP q < 912 := by
  have := ok.m1
  have := ok.f1
  have := ok.l0
  have := ok.l1
  have hc0 := h.c0
  have hc1 := h.c1
  have hs0 := h.s0
  have hs2 := h.s2
  have hl := h.l0
  have hlw := h.lw
  unfold encP
  split
  · have : 0 ≤ q.age ∧ q.age ≤ 4 := by
      by_cases c : 0 < q.count ∧ 0 < r.fade
      · have := h.age c; omega
      · rw [h.age0 c]; omega
    omega
  · have : q.whole ≤ 16 := by rcases h.w with e | e | ⟨_, e | e⟩ <;> omega
    omega
theorem encP_inj {r : Rule} {q q' : Part} (ok : r.Ok) (h : PG r q) (h' : PG r q') (e : encP q = encP q') : q = q' := by
  have := ok.m1
  have := ok.f1
  have := ok.l0
  have := ok.l1
  have hc0 := h.c0
  have hc1 := h.c1
  have hs0 := h.s0
  have hs2 := h.s2
  have hl := h.l0
  have hlw := h.lw
  have hc0' := h'.c0
  have hc1' := h'.c1
  have hs0' := h'.s0
  have hs2' := h'.s2
  have hl' := h'.l0
  have hlw' := h'.lw
  have ag : ∀ q : Part, PG r q → 0 ≤ q.age ∧ q.age ≤ 4 := fun q h => by
    by_cases c : 0 < q.count ∧ 0 < r.fade
    · have := h.age c; omega
    · rw [h.age0 c]; omega
  have wh : ∀ q : Part, PG r q → q.whole ≤ 16 := fun q h => by rcases h.w with e | e | ⟨_, e | e⟩ <;> omega
  have a1 := ag q h
  have a2 := ag q' h'
  have w1 := wh q h
  have w2 := wh q' h'
  unfold encP at e
  by_cases c : q.left = 0
  · by_cases c' : q'.left = 0
    · rw [if_pos c, if_pos c'] at e
      have z1 := h.lz c
      have z2 := h'.lz c'
      exact Part.ext' (by omega) (by omega) (by omega) (by omega) (by omega)
    · rw [if_pos c, if_neg c'] at e; omega
  · by_cases c' : q'.left = 0
    · rw [if_neg c, if_pos c'] at e; omega
    · rw [if_neg c, if_neg c'] at e
      have z1 := h.lc (by omega)
      have z2 := h'.lc (by omega)
      have y1 := h.age0 (by omega)
      have y2 := h'.age0 (by omega)
      exact Part.ext' (by omega) (by omega) (by omega) (by omega) (by omega)
def encS (st : St) : Nat := st.flatten.foldr (fun q n => encP q + 912 * n) 0
def cells (a p : Int) (rs : List Rule) : Nat := (rs.map fun r => (keysOf a p r.key).length).sum
theorem encL_lt {ps : List Part} (h : ∀ q ∈ ps, encP q < 912) : ps.foldr (fun q n => encP q + 912 * n) 0 < 912 ^ ps.length := by
  induction ps with
  | nil => simp
  | cons q ps ih =>
    rw [List.foldr_cons, List.length_cons, Nat.pow_succ]
    have h1 := h q (by simp)
    have h2 := ih fun x hx => h x (List.mem_cons_of_mem _ hx)
    generalize ps.foldr (fun q n => encP q + 912 * n) 0 = n at h2 ⊢
    generalize 912 ^ ps.length = m at h2 ⊢
    omega
theorem GS.encs {rs : List Rule} {a p : Int} {st : St} (hok : ∀ r ∈ rs, r.Ok) (h : GS a p rs st) : (∀ q ∈ st.flatten, encP q < 912) ∧ st.flatten.length = cells a p rs := by
  induction h with
  | nil => exact ⟨by simp, rfl⟩
  | @cons r ps rs st h1 h2 h3 ih =>
    obtain ⟨i1, i2⟩ := ih fun r' hr => hok r' (List.mem_cons_of_mem _ hr)
    refine ⟨fun q hq => ?_, ?_⟩
    · rw [List.flatten_cons] at hq
      rcases List.mem_append.mp hq with e | e
      · exact encP_lt (hok r (by simp)) (h2 q e)
      · exact i1 q e
    · rw [List.flatten_cons, List.length_append, i2, h1]
      simp [cells]
theorem encS_lt {rs : List Rule} {a p : Int} {st : St} (hok : ∀ r ∈ rs, r.Ok) (h : GS a p rs st) : encS st < 912 ^ cells a p rs := by
  obtain ⟨h1, h2⟩ := h.encs hok
  rw [← h2]
  exact encL_lt h1
theorem encL_split {ps qs : List Part} {n m : Nat} (hl : ps.length = qs.length) (hp : ∀ q ∈ ps, encP q < 912) (hq : ∀ q ∈ qs, encP q < 912) (e : ps.foldr (fun q n => encP q + 912 * n) n = qs.foldr (fun q n => encP q + 912 * n) m) : ps.map encP = qs.map encP ∧ n = m := by
  induction ps generalizing qs with
  | nil =>
    cases qs with
    | nil => exact ⟨rfl, e⟩
    | cons _ _ => simp at hl
  | cons x ps ih =>
    cases qs with
    | nil => simp at hl
    | cons y qs =>
      rw [List.foldr_cons, List.foldr_cons] at e
      have h1 := hp x (by simp)
      have h2 := hq y (by simp)
      obtain ⟨i1, i2⟩ := ih (qs := qs) (by simpa using hl) (fun z hz => hp z (List.mem_cons_of_mem _ hz)) (fun z hz => hq z (List.mem_cons_of_mem _ hz)) (by omega)
      exact ⟨by rw [List.map_cons, List.map_cons, i1, show encP x = encP y by omega], i2⟩
theorem encS_inj {rs : List Rule} {a p : Int} {s t : St} (hok : ∀ r ∈ rs, r.Ok) (h : GS a p rs s) (h' : GS a p rs t) (e : encS s = encS t) : s = t := by
  induction h generalizing t with
  | nil => cases h'; rfl
  | @cons r ps rs st h1 h2 h3 ih =>
    cases h' with
    | @cons _ qs _ st' g1 g2 g3 =>
      have o := hok r (by simp)
      unfold encS at e
      rw [List.flatten_cons, List.flatten_cons, List.foldr_append, List.foldr_append] at e
      obtain ⟨e1, e2⟩ := encL_split (by rw [h1, g1]) (fun q hq => encP_lt o (h2 q hq)) (fun q hq => encP_lt o (g2 q hq)) e
      have eq2 : st = st' := ih (fun r' hr => hok r' (List.mem_cons_of_mem _ hr)) g3 e2
      have eq1 : ps = qs := by
        clear e e2 ih h1 g1
        induction ps generalizing qs with
        | nil => cases qs with
          | nil => rfl
          | cons _ _ => simp at e1
        | cons x ps ihp => cases qs with
          | nil => simp at e1
          | cons y qs =>
            simp only [List.map_cons, List.cons.injEq] at e1
            rw [encP_inj o (h2 x (by simp)) (g2 y (by simp)) e1.1, ihp (fun q hq => h2 q (List.mem_cons_of_mem _ hq)) (fun q hq => g2 q (List.mem_cons_of_mem _ hq)) e1.2]
      rw [eq1, eq2]
theorem nodup_lt : ∀ (n : Nat) (l : List Nat), l.Nodup → (∀ x ∈ l, x < n) → l.length ≤ n
  | 0, l, _, h => by
    cases l with
    | nil => simp
    | cons x l => exact absurd (h x (by simp)) (by omega)
  | n + 1, l, hn, h => by
    have h1 := nodup_lt n (l.filter fun x => decide (x ≠ n)) (hn.filter _) fun x hx => by
      obtain ⟨q1, q2⟩ := List.mem_filter.mp hx
      have := h x q1
      have := of_decide_eq_true q2
      omega
    have h2 : l.length ≤ (l.filter fun x => decide (x ≠ n)).length + 1 := by
      clear h1 h
      induction l with
      | nil => simp
      | cons x l ih =>
        rw [List.nodup_cons] at hn
        by_cases c : x = n
        · subst c
          have : l.filter (fun y => decide (y ≠ x)) = l := List.filter_eq_self.mpr fun y hy => decide_eq_true fun e => hn.1 (e ▸ hy)
          rw [List.filter_cons_of_neg (by simp), this]; simp
        · have := ih hn.2
          simp [c] at this ⊢
          omega
    omega
theorem GS.count {rs : List Rule} {a p : Int} (hok : ∀ r ∈ rs, r.Ok) (hc : cells a p rs ≤ 2) {l : List St} (hn : l.Nodup) (h : ∀ s ∈ l, GS a p rs s) : l.length ≤ 831744 := by
  have h1 : (l.map encS).Nodup := by
    refine List.pairwise_map.mpr ?_
    refine List.Pairwise.imp_of_mem (R := fun x y => x ≠ y) (fun {x y} hx hy hne e => hne (encS_inj hok (h x hx) (h y hy) e)) hn
  have h2 := nodup_lt 831744 (l.map encS) h1 fun x hx => by
    obtain ⟨s, hs, rfl⟩ := List.mem_map.mp hx
    refine Nat.lt_of_lt_of_le (encS_lt hok (h s hs)) ?_
    have : cells a p rs = 0 ∨ cells a p rs = 1 ∨ cells a p rs = 2 := by omega
    rcases this with e | e | e <;> rw [e] <;> decide
  simpa using h2
/-- there are few good standings -/
def Few (a p : Int) (rs : List Rule) : Prop := ∀ l : List St, l.Nodup → (∀ s ∈ l, GS a p rs s) → l.length ≤ 831744
theorem Few.of_cells {rs : List Rule} {a p : Int} (hok : ∀ r ∈ rs, r.Ok) (hc : cells a p rs ≤ 2) : Few a p rs := fun _ hn h => GS.count hok hc hn h
end SH
namespace SH
open PySem PySem.Spec PyProof.Rows L2 MM
/-! ### while -/
/-! ### the graph -/
abbrev Ways := List (St × Option (St × Act))
structure WI (rs : List Rule) (a p : Int) (al : List Act) (ws : List St) (W : Ways) : Prop where
  keys : W.map (·.1) = ws
  nd : ws.Nodup
  gs : ∀ s ∈ ws, GS a p rs s
  hd : ∃ r, W = (firstS rs a p, none) :: r
  way : ∀ i s, ws[i]? = some s → 0 < i → ∃ (q : St) (x : Act) (j : Nat), W[i]? = some (s, some (q, x)) ∧ j < i ∧ ws[j]? = some q ∧ x ∈ al ∧ (stepS rs a p q x).2 = s
section
variable {rs : List Rule} {a p : Int} {al : List Act} {ws : List St} {W : Ways}
theorem WI.first (hok : ∀ r ∈ rs, r.Ok) : WI rs a p al [firstS rs a p] [(firstS rs a p, none)] :=
  ⟨rfl, by simp, fun s hs => by rw [List.mem_singleton.mp hs]; exact GS.first hok, ⟨[], rfl⟩, fun i s hi h0 => by
    cases i with
    | zero => omega
    | succ i => simp at hi⟩
theorem WI.len (h : WI rs a p al ws W) (hok : ∀ r ∈ rs, r.Ok) (hc : Few a p rs) : ws.length ≤ 831744 := hc _ h.nd h.gs
@[simp] theorem lkg_0 {α : Type} {x y z w : α} : List.lookup ("book" : Str) [("book", x), ("allowed", y), ("ways", z), ("steps", w)] = some x := by with_unfolding_all rfl
@[simp] theorem lkg_1 {α : Type} {x y z w : α} : List.lookup ("allowed" : Str) [("book", x), ("allowed", y), ("ways", z), ("steps", w)] = some y := by with_unfolding_all rfl
@[simp] theorem lkg_2 {α : Type} {x y z w : α} : List.lookup ("ways" : Str) [("book", x), ("allowed", y), ("ways", z), ("steps", w)] = some z := by with_unfolding_all rfl
@[simp] theorem lkg_3 {α : Type} {x y z w : α} : List.lookup ("steps" : Str) [("book", x), ("allowed", y), ("ways", z), ("steps", w)] = some w := by with_unfolding_all rfl
@[simp] theorem lkg_4 {α : Type} {x y z w : α} : List.lookup ("way_to" : Str) [("book", x), ("allowed", y), ("ways", z), ("steps", w)] = none := by with_unfolding_all rfl
end
end SH
namespace SH
open PySem PySem.Spec PyProof.Rows L2 MM
section
variable {rs : List Rule} {a p : Int} {al : List Act}
end
end SH
namespace SH
open PySem PySem.Spec PyProof.Rows L2 MM
section
variable {rs : List Rule} {a p : Int} {al : List Act} {S : Sto} {N : Nat}
/-- what is tried in a graph: None, then what is allowed -/
def alOf (xs : List Act) : List Act := .non :: xs.filter fun x => decide (x ≠ .non)
end
end SH
namespace SH
open PySem PySem.Spec PyProof.Rows L2 MM
section
variable {rs : List Rule} {a p : Int} {al : List Act} {S : Sto} {ws : List St} {W : Ways}
theorem runS_snoc {x : Act} : ∀ (xs : List Act) (st : St), (runS rs a p st (xs ++ [x])).2 = (stepS rs a p (runS rs a p st xs).2 x).2
  | [], _ => rfl
  | y :: xs, st => runS_snoc xs (stepS rs a p st y).2
end
end SH
namespace SH
open PySem PySem.Spec PyProof.Rows L2 MM
/-! ### the most wrong tries from each standing on -/
def wor (t : Str) : Int := if t = "wrong" then 1 else 0
def mxL : List Int → Int
  | [] => 0
  | i :: is => is.foldl max i
def V (rs : List Rule) (a p : Int) (al : List Act) : Nat → St → Int
  | 0, _ => 0
  | n + 1, s => mxL (al.map fun x => wor (stepS rs a p s x).1 + V rs a p al n (stepS rs a p s x).2)
section
variable {rs : List Rule} {a p : Int} {al : List Act} {S : Sto} {ws : List St} {W : Ways}
end
end SH
namespace SH
open PySem PySem.Spec PyProof.Rows L2 MM
section
variable {rs : List Rule} {a p : Int} {al : List Act} {S : Sto} {ws : List St} {W : Ways}
/-! ### the best standing -/
/-! ### the row -/
end
end SH
namespace SH
open PySem PySem.Spec PyProof.Rows L2 MM
section
variable {rs : List Rule} {a p : Int} {al : List Act} {S : Sto} {ws : List St} {W : Ways}
end
end SH
namespace SH
open PySem PySem.Spec PyProof.Rows L2 MM
/-! ### small worlds -/
section
variable {S : Sto} {n : Nat}
def Tiny (r : Rule) : Prop := r.grows = false ∧ r.most ≤ 2 ∧ r.lock ≤ 2 ∧ r.fade ≤ 2
/-- a world -/
structure World (a p : Int) (rs : List Rule) : Prop where
  hs : Sizes a p
  hok : ∀ r ∈ rs, r.Ok
  hl : rs.length ≤ 2
  hc2 : cells a p rs ≤ 2
  kind : (∀ r ∈ rs, Tiny r) ∨ (rs.length ≤ 1 ∧ a = 1 ∧ p = 1)
theorem World.hc {a p : Int} {rs : List Rule} (W : World a p rs) : Few a p rs := Few.of_cells W.hok W.hc2
/-! ### what is allowed -/
theorem cut1' {x : D} {ds : List D} : MM.cutD (x :: ds) (some 1) none = ds := by
  unfold MM.cutD HT.sIx
  simp
def restActs (a p : Int) : List Act := (allActs a p).tail
theorem rest_len {a p : Int} (hs : Sizes a p) : (restActs a p).length ≤ 6 := by
  rcases hs with ⟨rfl, rfl⟩ | ⟨rfl, rfl⟩ | ⟨rfl, rfl⟩ <;> decide
theorem all_rest (a p : Int) : actsD (allActs a p) = .non :: actsD (restActs a p) := rfl
noncomputable def allowB : SM := (ifM (bT (op2M gtD (callN 2 m__law_draw (consA (varM 0) (consA (litM (.int 3)) (nilA)))) (litM (.int 0)))) (appM (varM 3) (varM 4)) (nxM))
theorem allow_loop {e1 e2 : Option Ent} : ∀ (ys : List Act) (S : Sto) (acc : List Act) (e4 : Option Ent), DrwAt S n → acc.length + ys.length ≤ 1000 → ∃ (xs : List Act) (c : Cell) (e4' : Option Ent),
    loopM (nameT 4) allowB (actsD ys) [some (.r (.loc n)), e1, e2, some (.own (.lst (actsD acc))), e4] S = some (.nx, [some (.r (.loc n)), e1, e2, some (.own (.lst (actsD (acc ++ xs)))), e4'], S.set n c) ∧ (∀ x ∈ xs, x ∈ ys) ∧ xs.length ≤ ys.length ∧ DrwAt (S.set n c) n
  | [], S, acc, e4, h, _ => by
    obtain ⟨d, _, h2⟩ := id h
    exact ⟨[], d.cell, e4, by rw [set_self h2]; simp [actsD], by simp, Nat.le_refl _, by rw [set_self h2]; exact h⟩
  | y :: ys, S, acc, e4, h, hl => by
    simp only [List.length_cons] at hl
    obtain ⟨v, c, e, a1, b1, h1⟩ := draw (many := 3) h (by decide) (by decide)
    have hlt : (actsD acc).length < sizeLine := slt (by simp [actsD]; omega)
    by_cases k : 0 < v
    · obtain ⟨xs, c2, f4, ih, i1, i2, i3⟩ := allow_loop (e1 := e1) (e2 := e2) ys (S.set n c) (acc ++ [y]) (some (.r (.d y.d))) h1 (by simp; omega)
      rw [List.set_set] at ih i3
      refine ⟨y :: xs, c2, f4, ?_, fun x hx => ?_, by simp; omega, i3⟩
      · have e3 : acc ++ [y] ++ xs = acc ++ y :: xs := by simp
        have e4 : actsD (acc ++ [y]) = actsD acc ++ [y.d] := by simp [actsD]
        rw [e3, e4] at ih
        rw [← ih, show actsD (y :: ys) = y.d :: actsD ys from rfl, loopM_cons]
        unfold allowB
        generalize actsD acc = A at *
        simp [e, k, hlt]
      · rcases List.mem_cons.mp hx with z | z
        · rw [z]; simp
        · exact List.mem_cons_of_mem _ (i1 x z)
    · obtain ⟨xs, c2, f4, ih, i1, i2, i3⟩ := allow_loop (e1 := e1) (e2 := e2) ys (S.set n c) acc (some (.r (.d y.d))) h1 (by omega)
      rw [List.set_set] at ih i3
      refine ⟨xs, c2, f4, ?_, fun x hx => List.mem_cons_of_mem _ (i1 x hx), by simp; omega, i3⟩
      rw [← ih, show actsD (y :: ys) = y.d :: actsD ys from rfl, loopM_cons]
      unfold allowB
      generalize actsD acc = A at *
      simp [e, k]
theorem allowed {a p : Int} (hs : Sizes a p) (h : DrwAt S n) : ∃ (xs : List Act) (c : Cell), m__law_allowed [.loc n, .d (.int a), .d (.int p)] S = some (.ok (.d (.lst (actsD xs))), S.set n c) ∧ (∀ x ∈ xs, x ∈ restActs a p) ∧ xs.length ≤ 6 ∧ DrwAt (S.set n c) n := by
  have hl := rest_len hs
  obtain ⟨xs, c, f4, h1, h2, h3, h4⟩ := allow_loop (e1 := some (.r (.d (.int a)))) (e2 := some (.r (.d (.int p)))) (restActs a p) S [] none h (by simp; omega)
  have ha := actions (S := S) hs
  rw [all_rest] at ha
  refine ⟨xs, c, ?_, h2, by omega, h4⟩
  unfold m__law_allowed b__law_allowed
  rw [funM_ap, if_pos (by simp)]
  rw [show (ifM (bT (op2M gtD (callN 2 m__law_draw (consA (varM 0) (consA (litM (.int 3)) (nilA)))) (litM (.int 0)))) (appM (varM 3) (varM 4)) (nxM)) = allowB from rfl]
  rw [List.nil_append] at h1
  have e0 : actsD [] = [] := rfl
  rw [e0] at h1
  generalize allowB = B at *
  generalize actsD (restActs a p) = R at *
  generalize actsD xs = X at *
  simp [frame0, ha, cut1', h1]
/-! ### drawn rows -/
noncomputable def drawnB : SM := (ifM (orT (bT (op2M eqD (callM lenF (consA (varM 1) (nilA))) (litM (.int 0)))) (bT (op2M eqD (callN 2 m__law_draw (consA (varM 0) (consA (litM (.int 5)) (nilA)))) (litM (.int 0))))) (appM (varM 3) (litM .non)) (appM (varM 3) (op2M ixD (varM 1) (callN 2 m__law_draw (consA (varM 0) (consA (callM lenF (consA (varM 1) (nilA))) (nilA)))))))
theorem drawn_loop {xs : List Act} {e2 : Option Ent} (hx : xs.length ≤ 1000) (hno : ∀ x ∈ xs, x ≠ .non) : ∀ (ks : List D) (S : Sto) (acc : List Act) (e4 : Option Ent), DrwAt S n → acc.length + ks.length ≤ 100000 → ∃ (ys : List Act) (c : Cell) (e4' : Option Ent),
    loopM (nameT 4) drawnB ks [some (.r (.loc n)), some (.r (.d (.lst (actsD xs)))), e2, some (.own (.lst (actsD acc))), e4] S = some (.nx, [some (.r (.loc n)), some (.r (.d (.lst (actsD xs)))), e2, some (.own (.lst (actsD (acc ++ ys)))), e4'], S.set n c) ∧ (∀ y ∈ ys, y ∈ alOf xs) ∧ ys.length = ks.length ∧ DrwAt (S.set n c) n
  | [], S, acc, e4, h, _ => by
    obtain ⟨d, _, h2⟩ := id h
    exact ⟨[], d.cell, e4, by rw [set_self h2]; simp [actsD], by simp, rfl, by rw [set_self h2]; exact h⟩
  | k :: ks, S, acc, e4, h, hl => by
    simp only [List.length_cons] at hl
    have hlt : (actsD acc).length < sizeLine := slt (by simp [actsD]; omega)
    have fin : ∀ (y : Act) (c1 : Cell), y ∈ alOf xs → DrwAt (S.set n c1) n → drawnB [some (.r (.loc n)), some (.r (.d (.lst (actsD xs)))), e2, some (.own (.lst (actsD acc))), some (.r (.d k))] S = some (.nx, [some (.r (.loc n)), some (.r (.d (.lst (actsD xs)))), e2, some (.own (.lst (actsD acc ++ [y.d]))), some (.r (.d k))], S.set n c1) → ∃ (ys : List Act) (c : Cell) (e4' : Option Ent),
        loopM (nameT 4) drawnB (k :: ks) [some (.r (.loc n)), some (.r (.d (.lst (actsD xs)))), e2, some (.own (.lst (actsD acc))), e4] S = some (.nx, [some (.r (.loc n)), some (.r (.d (.lst (actsD xs)))), e2, some (.own (.lst (actsD (acc ++ ys)))), e4'], S.set n c) ∧ (∀ y ∈ ys, y ∈ alOf xs) ∧ ys.length = (k :: ks).length ∧ DrwAt (S.set n c) n := fun y c1 hy h1 hb => by
      obtain ⟨ys, c, f4, ih, i1, i2, i3⟩ := drawn_loop (e2 := e2) hx hno ks (S.set n c1) (acc ++ [y]) (some (.r (.d k))) h1 (by simp; omega)
      rw [List.set_set] at ih i3
      have q3 : acc ++ [y] ++ ys = acc ++ y :: ys := by simp
      have q4 : actsD (acc ++ [y]) = actsD acc ++ [y.d] := by simp [actsD]
      rw [q3, q4] at ih
      refine ⟨y :: ys, c, f4, ?_, fun z hz => ?_, by simp [i2], i3⟩
      · rw [loopM_cons, show nameT 4 k [some (.r (.loc n)), some (.r (.d (.lst (actsD xs)))), e2, some (.own (.lst (actsD acc))), e4] = some [some (.r (.loc n)), some (.r (.d (.lst (actsD xs)))), e2, some (.own (.lst (actsD acc))), some (.r (.d k))] by simp]
        simp only [hb]
        exact ih
      · rcases List.mem_cons.mp hz with q | q
        · rw [q]; exact hy
        · exact i1 z q
    have non_in : Act.non ∈ alOf xs := by simp [alOf]
    by_cases k0 : xs.length = 0
    · have ex : xs = [] := List.length_eq_zero_iff.mp k0
      obtain ⟨d, _, h2⟩ := id h
      refine fin .non d.cell non_in (by rw [set_self h2]; exact h) ?_
      rw [set_self h2]
      unfold drawnB
      rw [ex]
      have e0 : actsD [] = [] := rfl
      rw [e0]
      generalize actsD acc = A at *
      simp [hlt, Act.d]
    · have hlen : ((actsD xs).length : Int) ≠ 0 := by simp [actsD]; intro z; exact k0 (by rw [z]; rfl)
      have hlen2 : ¬ actsD xs = [] := fun z => hlen (by rw [z]; rfl)
      obtain ⟨v, c1, e1, a1, b1, h1⟩ := draw (many := 5) h (by decide) (by decide)
      by_cases kv : v = 0
      · refine fin .non c1 non_in h1 ?_
        unfold drawnB
        generalize actsD acc = A at *
        generalize actsD xs = X at *
        simp [hlen2, e1, kv, hlt, Act.d]
      · obtain ⟨u, c2, e2', a2, b2, h2⟩ := draw (many := ((actsD xs).length : Int)) h1 (by omega) (by simp [actsD]; omega)
        rw [List.set_set] at e2' h2
        have hu : u.toNat < xs.length := by
          have : ((actsD xs).length : Int) = (xs.length : Int) := by simp [actsD]
          omega
        have hat : atI (actsD xs) u = some (xs[u.toNat]).d := by
          obtain ⟨m, hm⟩ : ∃ m : Nat, u = (m : Int) := ⟨u.toNat, by omega⟩
          subst hm
          have hm' : m < xs.length := hu
          rw [MM.atI_nat (by simpa [actsD] using hm')]
          unfold actsD
          rw [List.getElem?_map, List.getElem?_eq_getElem hm']
          rfl
        have hm : xs[u.toNat] ∈ xs := List.getElem_mem hu
        refine fin xs[u.toNat] c2 (List.mem_cons_of_mem _ (List.mem_filter.mpr ⟨hm, decide_eq_true (hno _ hm)⟩)) h2 ?_
        unfold drawnB
        generalize actsD acc = A at *
        generalize actsD xs = X at *
        generalize (xs[u.toNat]).d = YD at *
        simp [hlen2, e1, kv, e2', hat, hlt]
theorem drawn {xs : List Act} {k : Nat} (hx : xs.length ≤ 1000) (hno : ∀ x ∈ xs, x ≠ .non) (hk : k ≤ 1000) (h : DrwAt S n) : ∃ (ys : List Act) (c : Cell), m__law_drawn [.loc n, .d (.lst (actsD xs)), .d (.int (k : Int))] S = some (.ok (.d (.lst (actsD ys))), S.set n c) ∧ (∀ y ∈ ys, y ∈ alOf xs) ∧ ys.length = k ∧ DrwAt (S.set n c) n := by
  obtain ⟨ys, c, f4, h1, h2, h3, h4⟩ := drawn_loop (e2 := some (.r (.d (.int (k : Int))))) hx hno (natsD (List.range k)) S [] none h (by simp [natsD]; omega)
  have hj : ∀ ρ : MM.Fr, ρ[2]? = some (some (.r (.d (.int (k : Int))))) → iRng1M (consA (varM 2) (nilA)) ρ S = some (.ok (natsD (List.range k)), S) := fun ρ h => by
    have e : (consA (varM 2) (nilA)) ρ S = some (.ok [.d (.int (k : Int))], S) := by simp [h]
    show MM.bindM _ rng1R ρ S = _
    unfold MM.bindM
    rw [e]
    exact rng1_nat (by omega)
  refine ⟨ys, c, ?_, h2, by rw [h3]; simp [natsD], h4⟩
  unfold m__law_drawn b__law_drawn
  rw [funM_ap, if_pos (by simp)]
  rw [show (ifM (orT (bT (op2M eqD (callM lenF (consA (varM 1) (nilA))) (litM (.int 0)))) (bT (op2M eqD (callN 2 m__law_draw (consA (varM 0) (consA (litM (.int 5)) (nilA)))) (litM (.int 0))))) (appM (varM 3) (litM .non)) (appM (varM 3) (op2M ixD (varM 1) (callN 2 m__law_draw (consA (varM 0) (consA (callM lenF (consA (varM 1) (nilA))) (nilA))))))) = drawnB from rfl]
  rw [List.nil_append] at h1
  have e0 : actsD [] = [] := rfl
  rw [e0] at h1
  generalize drawnB = B at *
  generalize iRng1M (consA (varM 2) (nilA)) = J at *
  generalize actsD ys = Y at *
  generalize actsD xs = X at *
  simp [frame0, hj, h1]
end
end SH
namespace SH
open PySem PySem.Spec PyProof.Rows L2 MM
section
variable {S : Sto} {rs : List Rule} {a p : Int}
/-! ### all rows of a length -/
/-! ### allowed rows -/
/-! ### the most wrong ones of a row -/
end
end SH
namespace SH
open PySem PySem.Spec PyProof.Rows L2 MM
/-! ### rows of actions and their numbers -/
abbrev Row := List Act
def rkF (al : List Act) (v : Nat) (c : Act) : Nat := al.length * v + al.idxOf c + 1
def rk (al : List Act) (r : Row) : Nat := r.foldl (rkF al) 0
section
variable {al : List Act}
theorem rk_snoc (r : Row) (c : Act) : rk al (r ++ [c]) = al.length * rk al r + al.idxOf c + 1 := by
  unfold rk
  rw [List.foldl_append]; rfl
theorem idx_lt {c : Act} (h : c ∈ al) : al.idxOf c < al.length := List.idxOf_lt_length_iff.mpr h
theorem snoc_cases (r : Row) : r = [] ∨ ∃ r' c, r = r' ++ [c] := by
  cases h : r.reverse with
  | nil => left; simpa using h
  | cons c cs =>
    right
    exact ⟨cs.reverse, c, by have := congrArg List.reverse h; simpa using this⟩
end
/-! ### pairs of standings -/
section
variable (rs1 rs2 : List Rule) (a p : Int)
def runP (r : Row) : St × St := ((runS rs1 a p (firstS rs1 a p) r).2, (runS rs2 a p (firstS rs2 a p) r).2)
def agree (r : Row) : Prop := (runS rs1 a p (firstS rs1 a p) r).1 = (runS rs2 a p (firstS rs2 a p) r).1
def stepP (z : St × St) (c : Act) : St × St := ((stepS rs1 a p z.1 c).2, (stepS rs2 a p z.2 c).2)
def eqT (z : St × St) (c : Act) : Prop := (stepS rs1 a p z.1 c).1 = (stepS rs2 a p z.2 c).1
end
theorem runS_tolds {rs : List Rule} {a p : Int} : ∀ (xs : List Act) (c : Act) (st : St), (runS rs a p st (xs ++ [c])).1 = (runS rs a p st xs).1 ++ [(stepS rs a p (runS rs a p st xs).2 c).1]
  | [], _, _ => rfl
  | x :: xs, c, st => by
    show _ :: (runS rs a p _ (xs ++ [c])).1 = _
    rw [runS_tolds xs c]; rfl
section
variable {rs1 rs2 : List Rule} {a p : Int} {al : List Act}
theorem runP_snoc (r : Row) (c : Act) : runP rs1 rs2 a p (r ++ [c]) = stepP rs1 rs2 a p (runP rs1 rs2 a p r) c := by
  unfold runP stepP
  rw [runS_snoc, runS_snoc]
theorem agree_snoc (r : Row) (c : Act) : agree rs1 rs2 a p (r ++ [c]) ↔ agree rs1 rs2 a p r ∧ eqT rs1 rs2 a p (runP rs1 rs2 a p r) c := by
  unfold agree eqT runP
  rw [runS_tolds, runS_tolds]
  constructor
  · intro h
    have hl : (runS rs1 a p (firstS rs1 a p) r).1.length = (runS rs2 a p (firstS rs2 a p) r).1.length := by
      have := congrArg List.length h
      simpa using this
    have := List.append_inj h hl
    exact ⟨this.1, by simpa using this.2⟩
  · rintro ⟨h1, h2⟩
    simp only at h2
    rw [h1, h2]
abbrev WR := List ((St × St) × Row)
/-- what is known ahead of the candidate number c -/
structure BI (rs1 rs2 : List Rule) (a p : Int) (al : List Act) (W : WR) (c : Nat) : Prop where
  nd : (W.map (·.1)).Nodup
  ent : ∀ e ∈ W, e.1 = runP rs1 rs2 a p e.2 ∧ agree rs1 rs2 a p e.2 ∧ (∀ x ∈ e.2, x ∈ al) ∧ rk al e.2 < c
  cov : ∀ r : Row, (∀ x ∈ r, x ∈ al) → rk al r < c → agree rs1 rs2 a p r ∧ ∃ e ∈ W, e.1 = runP rs1 rs2 a p r ∧ rk al e.2 ≤ rk al r
  srt : W.Pairwise fun e f => rk al e.2 < rk al f.2
variable {W : WR} {c : Nat}
/-- between the last candidate of one entry and the first of the next: nothing new -/
theorem BI.gap {pre suf : WR} {e0 : (St × St) × Row} (h : BI rs1 rs2 a p al (pre ++ e0 :: suf) (al.length * rk al e0.2 + al.length + 1)) : ∀ (n : Nat) (r : Row), r.length ≤ n → (∀ x ∈ r, x ∈ al) → (∀ f ∈ suf, rk al r ≤ al.length * rk al f.2) → agree rs1 rs2 a p r ∧ ∃ e ∈ pre ++ e0 :: suf, e.1 = runP rs1 rs2 a p r ∧ rk al e.2 ≤ rk al r := by
  intro n
  induction n with
  | zero =>
    intro r hn hr hs
    have : r = [] := List.length_eq_zero_iff.mp (by omega)
    subst this
    exact h.cov [] (by simp) (by show (0 : Nat) < _; omega)
  | succ n ih =>
    intro r hn hr hs
    by_cases q : rk al r < al.length * rk al e0.2 + al.length + 1
    · exact h.cov r hr q
    · rcases snoc_cases r with rfl | ⟨r', x, rfl⟩
      · exact h.cov [] (by simp) (by show (0 : Nat) < _; omega)
      · have hx : x ∈ al := hr x (by simp)
        have hix := idx_lt hx
        have hr' : ∀ y ∈ r', y ∈ al := fun y hy => hr y (by simp [hy])
        rw [rk_snoc] at q hs
        have hmul : rk al r' ≤ al.length * rk al r' := by
          have : 1 ≤ al.length := by omega
          calc rk al r' = 1 * rk al r' := by omega
            _ ≤ al.length * rk al r' := Nat.mul_le_mul_right _ this
        obtain ⟨h1, e, he, h2, h3⟩ := ih r' (by simp at hn; omega) hr' (fun f hf => by have := hs f hf; omega)
        have hle : rk al e.2 ≤ rk al e0.2 := by
          rcases List.mem_append.mp he with z | z
          · have := (List.pairwise_append.mp h.srt).2.2 e z e0 (by simp)
            omega
          · rcases List.mem_cons.mp z with z | z
            · rw [z]; exact Nat.le_refl _
            · exfalso
              have := hs e z
              have := Nat.mul_le_mul_left al.length h3
              omega
        obtain ⟨g1, g2, g3, _⟩ := h.ent e he
        have hrx : ∀ y ∈ e.2 ++ [x], y ∈ al := fun y hy => by
          rcases List.mem_append.mp hy with z | z
          · exact g3 y z
          · rw [List.mem_singleton.mp z]; exact hx
        obtain ⟨k1, f, hf, k2, k3⟩ := h.cov (e.2 ++ [x]) hrx (by
          rw [rk_snoc]
          have := Nat.mul_le_mul_left al.length hle
          omega)
        have erun : runP rs1 rs2 a p (e.2 ++ [x]) = runP rs1 rs2 a p (r' ++ [x]) := by
          rw [runP_snoc, runP_snoc, ← g1, h2]
        refine ⟨(agree_snoc _ _).mpr ⟨h1, ?_⟩, f, hf, by rw [k2, erun], ?_⟩
        · have := ((agree_snoc _ _).mp k1).2
          rwa [← g1, h2] at this
        · rw [rk_snoc] at k3 ⊢
          have := Nat.mul_le_mul_left al.length h3
          omega
theorem BI.end {pre : WR} {e0 : (St × St) × Row} (h : BI rs1 rs2 a p al (pre ++ [e0]) (al.length * rk al e0.2 + al.length + 1)) (r : Row) (hr : ∀ x ∈ r, x ∈ al) : agree rs1 rs2 a p r :=
  (h.gap (suf := []) r.length r (Nat.le_refl _) hr (by simp)).1
end
end SH
namespace SH
open PySem PySem.Spec PyProof.Rows L2 MM
/-! ### pairs of standings as keys -/
abbrev Pr := St × St
section
variable {rs1 rs2 : List Rule} {a p : Int} {al : List Act} {S : Sto} {n : Nat}
/-- the invariant of the search, ahead of the candidate number c -/
structure PtI (rs1 rs2 : List Rule) (a p : Int) (al : List Act) (W : WR) (c : Nat) : Prop where
  bi : BI rs1 rs2 a p al W c
  ln : ∀ (i : Nat) (e : (St × St) × Row), W[i]? = some e → e.2.length ≤ i
def FewP (rs1 rs2 : List Rule) (a p : Int) (al : List Act) : Prop := ∀ l : List Pr, l.Nodup → (∀ z ∈ l, ∃ r : Row, (∀ x ∈ r, x ∈ al) ∧ z = runP rs1 rs2 a p r) → l.length ≤ 3000000
theorem PtI.few {W : WR} {c : Nat} (h : PtI rs1 rs2 a p al W c) (hf : FewP rs1 rs2 a p al) : W.length ≤ 3000000 := by
  have := hf (W.map (·.1)) h.bi.nd (fun z hz => by
    obtain ⟨e, he, rfl⟩ := List.mem_map.mp hz
    obtain ⟨g1, _, g3, _⟩ := h.bi.ent e he
    exact ⟨e.2, g3, g1⟩)
  simpa using this
end
end SH
namespace SH
open PySem PySem.Spec PyProof.Rows L2 MM
section
variable {rs1 rs2 : List Rule} {a p : Int} {al : List Act} {S : Sto} {n : Nat} {xs : List Act}
/-! ### actions_of -/
theorem actions_of {rs : List Rule} {a p : Int} {S : Sto} (hs : Sizes a p) : m_actions_of [.d (bookD rs a p)] S = some (.ok (.d (.lst (actsD (allActs a p)))), S) := by
  have z4' := z4
  have z2' := z2
  have z1' := z1
  have q : ∀ n : Nat, n ≤ 100 → n ≤ sizeLine := fun n h => szl (by omega)
  have q0 : 0 < sizeLine := slt (by omega)
  have q1 : 1 < sizeLine := slt (by omega)
  rcases hs with ⟨rfl, rfl⟩ | ⟨rfl, rfl⟩ | ⟨rfl, rfl⟩ <;>
  · unfold m_actions_of b_actions_of
    rw [funM_ap, if_pos (by simp)]
    unfold bookD
    generalize rulesD rs = R0 at *
    simp [frame0, allActs, actsD, Act.d, loopM_cons, lcL_cons, rngL, z4, z2, z1, q, q0, q1, List.range_succ]
end
end SH
namespace SH
open PySem PySem.Spec PyProof.Rows L2 MM
/-! ### how many standings there are, by finer codes -/
/-- codes of a kind of rules: each below B, injective -/
structure Enc (B : Nat) (P : Rule → Prop) where
  f : Rule → Part → Nat
  lt : ∀ r q, P r → PG r q → f r q < B
  inj : ∀ r q q', P r → PG r q → PG r q' → f r q = f r q' → q = q'
section
variable {B : Nat} {P : Rule → Prop} (E : Enc B P)
end
end SH
namespace SH
open PySem PySem.Spec PyProof.Rows L2 MM
/-! ### places and ranks of actions -/
/-! ### ranks as numbers -/
/-! ### few pairs -/
section
variable {rs1 rs2 : List Rule} {a p : Int} {al : List Act}
end
theorem parting_bad {rs1 rs2 : List Rule} {a p c d : Int} {S : Sto} (h : a ≠ c ∨ p ≠ d) : m_parting [.d (bookD rs1 a p), .d (bookD rs2 c d)] S = some (.ex "NotComparable" [], S) := by
  unfold m_parting b_parting bookD
  rw [funM_ap, if_pos (by simp)]
  generalize rulesD rs1 = R1 at *
  generalize rulesD rs2 = R2 at *
  by_cases e : a = c
  · have e2 : p ≠ d := by
      rcases h with h | h
      · exact absurd e h
      · exact h
    simp [frame0, e, e2]
  · simp [frame0, e]
end SH
namespace K15
open PySem PySem.Spec PyProof.Rows L2 MM SH
section
variable {S : Sto}
def kName (k : Nat) : Str := ["BadCount", "BadAction", "BadMoment", "NothingToUndo", "NotComparable", "BadRule", "BadLine"].getD k ""
theorem okDs_bls : ∀ bs : List Bool, okDs (bs.map D.bl) = true
  | [] => rfl
  | b :: bs => by
    show (okD (.bl b) && okDs (bs.map D.bl)) = true
    rw [okDs_bls bs]; rfl
theorem dpDs_bls (bs : List Bool) : dpDs (bs.map D.bl) ≤ 0 := by
  rw [dpDs_le]
  intro d hd
  obtain ⟨b, _, rfl⟩ := List.mem_map.mp hd
  exact Nat.le_refl _
theorem begin_ok {ns : List Int} {S : Sto} : m__law_begin [.d (.scr ns)] S = some (.ok (.loc S.length), S ++ [(Drw.mk ns 0 0 7).cell]) := by
  unfold m__law_begin b__law_begin
  rw [funM_ap, if_pos (by simp)]
  have z : (4 : Nat) ≤ sizeLine := z4
  simp [frame0, Drw.cell, z]
theorem s11 : Sizes 1 1 := .inl ⟨rfl, rfl⟩
theorem s12 : Sizes 1 2 := .inr (.inr ⟨rfl, rfl⟩)
theorem noR : ∀ r ∈ ([] : List Rule), r.Ok := fun r h => by simp at h
theorem mk11 {ms : AM} {ρ : MM.Fr} {S0 : Sto} (e : ms ρ S0 = some (.ok [.d (.lst []), .d (.int 1), .d (.int 1)], S)) : frzM (makeM "Book" 4 m_Book_init ms) ρ S0 = some (.ok (.d (bookD [] 1 1)), S ++ [.frz (bookD [] 1 1)]) := make (rs := []) noR (by simp) s11 e
theorem mk12 {ms : AM} {ρ : MM.Fr} {S0 : Sto} (e : ms ρ S0 = some (.ok [.d (.lst []), .d (.int 1), .d (.int 2)], S)) : frzM (makeM "Book" 4 m_Book_init ms) ρ S0 = some (.ok (.d (bookD [] 1 2)), S ++ [.frz (bookD [] 1 2)]) := make (rs := []) noR (by simp) s12 e
/-! ### the seven calls -/
theorem sk_no {X : SM} {j k : Int} {g : Option Ent} (c : ¬ k = j) : (ifM (bT (op2M eqD (varM 0) (litM (.int j)))) X (nxM)) [some (.r (.d (.int k))), g] S = some (.nx, [some (.r (.d (.int k))), g], S) := by
  simp [c]
theorem sk_yes {X : SM} {k : Int} {g : Option Ent} {r : Option (Flo × MM.Fr × Sto)} (h : X [some (.r (.d (.int k))), g] S = r) : (ifM (bT (op2M eqD (varM 0) (litM (.int k)))) X (nxM)) [some (.r (.d (.int k))), g] S = r := by
  simp [h]
theorem seq_exK {m n : SM} {ρ ρ' : MM.Fr} {S S' : Sto} {c : Str} {fs : List (Str × D)} (h : m ρ S = some (.ex c fs, ρ', S')) : seqM m n ρ S = some (.ex c fs, ρ', S') := by simp [h]
theorem bad_count : ∃ fs S', m_Book_init [.loc S.length, .d (.lst []), .d (.int 2), .d (.int 2)] (S ++ [.ins "Book" []]) = some (.ex "BadCount" fs, S') := by
  have hm : CMul 2 2 := (show Sizes 2 1 from .inr (.inl ⟨rfl, rfl⟩)).b.2.2.2 |> fun _ => by first | exact cmul_small (.inr rfl) | exact cmul_small (.inl rfl) | decide
  refine ⟨[], S ++ [.ins "Book" []], ?_⟩
  unfold m_Book_init b_Book_init
  rw [funM_ap, if_pos (by simp)]
  have he : enumL ([] : List D) = [] := rfl
  simp [frame0, num, he, hm]
theorem unit_rule : m_is_rule [.d (.tup [])] S = some (.ok (.d (.bl false)), S) := by
  unfold m_is_rule b_is_rule
  rw [funM_ap, if_pos (by simp)]
  have hi : isiF [.tup [], .ty "tuple"] = some (.bl true) := rfl
  simp [frame0, hi]
theorem bad_rule : ∃ fs S', m_Book_init [.loc S.length, .d (.lst [.tup []]), .d (.int 1), .d (.int 1)] (S ++ [.ins "Book" []]) = some (.ex "BadRule" fs, S') := by
  refine ⟨[("index", .int 0)], S ++ [.ins "Book" []], ?_⟩
  unfold m_Book_init b_Book_init
  rw [funM_ap, if_pos (by simp)]
  have he : enumL [D.tup []] = [.tup [.int 0, .tup []]] := rfl
  simp [frame0, he, loopM_cons, unit_rule]
theorem open_bad : m_is_action [.d (bookD [] 1 1), .d (.tup [.str "open", .int 1])] S = some (.ok (.d (.bl false)), S) := by
  have hi : isiF [.tup [.str "open", .int 1], .ty "tuple"] = some (.bl true) := rfl
  have hi2 : isiF [.str "open", .ty "str"] = some (.bl true) := rfl
  unfold m_is_action b_is_action bookD
  rw [funM_ap, if_pos (by simp)]
  simp [frame0, hi, hi2, eqB_oo, num]
theorem case0 : ∃ fs ρ' S', (dropM (frzM (makeM "Book" 4 m_Book_init (consA (lstM (nilA)) (consA (litM (.int 2)) (consA (litM (.int 2)) (nilA))))))) [some (.r (.d (.int 0))), some (.r (.d (bookD [] 1 1)))] S = some (.ex "BadCount" fs, ρ', S') := by
  obtain ⟨fs, S', h⟩ := bad_count (S := S)
  have z0 : (0 : Nat) ≤ sizeLine := szl (by omega)
  refine ⟨fs, [some (.r (.d (.int 0))), some (.r (.d (bookD [] 1 1)))], S', ?_⟩
  simp [z0, h]
theorem case5 : ∃ fs ρ' S', (dropM (frzM (makeM "Book" 4 m_Book_init (consA (lstM (consA (tupM (nilA)) (nilA))) (consA (litM (.int 1)) (consA (litM (.int 1)) (nilA))))))) [some (.r (.d (.int 5))), some (.r (.d (bookD [] 1 1)))] S = some (.ex "BadRule" fs, ρ', S') := by
  obtain ⟨fs, S', h⟩ := bad_rule (S := S)
  have z0 : (0 : Nat) ≤ sizeLine := szl (by omega)
  refine ⟨fs, [some (.r (.d (.int 5))), some (.r (.d (bookD [] 1 1)))], S', ?_⟩
  simp [z0, z1, h]
theorem door_new (h2 : 2 ≤ S.length) : ∃ T, makeM "Door" 2 m_Door_init (consA (varM 1) (nilA)) = (fun ρ S0 => makeM "Door" 2 m_Door_init (consA (varM 1) (nilA)) ρ S0) ∧ m_Door_init [.loc S.length, .d (bookD [] 1 1)] (S ++ [.ins "Door" []]) = some (.ok (.d .non), S ++ T) ∧ DoorAt (S ++ T) S.length (bookD [] 1 1) (logD []) ([firstS [] 1 1].map stD) := by
  have h := door_init (S := S) (rs := []) (a := 1) (p := 1) (bk := (bookD [] 1 1)) s11 (by simp) rfl
  refine ⟨_, rfl, h, h2, ?_, ?_, ?_⟩
  · simp
  · rw [List.getElem?_append_right (by omega)]; simp [logD]
  · rw [List.getElem?_append_right (by omega)]; simp
theorem shell_door {f : FM} {z : Str} {k : Int} {n : Nat} {ms : AM} {as : List MM.R} {B : D} {S1 S2 : Sto} {c : Str} {fs : List (Str × D)} (hi : m_Door_init [.loc S.length, .d B] (S ++ [.ins "Door" []]) = some (.ok (.d .non), S1)) (hd : ∃ gs, S1[S.length]? = some (.ins "Door" gs) ∧ gs.lookup z = none)
    (ha : ms [some (.r (.d (.int k))), some (.r (.d B))] S1 = some (.ok as, S1)) (hn : as.length + 1 = n) (hc : closedRs as = true) (hf : f (.loc S.length :: as) S1 = some (.ex c fs, S2)) :
    (dropM (methO "Door" z n f (makeM "Door" 2 m_Door_init (consA (varM 1) (nilA))) ms)) [some (.r (.d (.int k))), some (.r (.d B))] S = some (.ex c fs, [some (.r (.d (.int k))), some (.r (.d B))], S2) := by
  obtain ⟨gs, hd, hl⟩ := hd
  have hi1 : isIns "Door" z (.loc S.length) [some (.r (.d (.int k))), some (.r (.d B))] S1 = some (.ok (.loc S.length), S1) := by
    unfold isIns
    simp only [hd]
    simp [hl]
  simp [methO_ap, hi, hi1, ha, hn, hc, hf]
theorem door_gs {T : Sto} {bk : D} {rows sts : List D} {z : Str} (h : DoorAt (S ++ T) S.length bk rows sts) (hz : List.lookup z ([("book", .d bk), ("rows", .loc (S.length + 1)), ("standings", .loc (S.length + 2))] : List (Str × MM.R)) = none) : ∃ gs, (S ++ T)[S.length]? = some (.ins "Door" gs) ∧ gs.lookup z = none := ⟨_, h.ins, hz⟩
theorem case1 (h2 : 2 ≤ S.length) : ∃ fs ρ' S', (dropM (methO "Door" "act" 3 m_Door_act (makeM "Door" 2 m_Door_init (consA (varM 1) (nilA))) (consA (litM (.int 0)) (consA (tupM (consA (litM (.str "open")) (consA (litM (.int 1)) (nilA)))) (nilA))))) [some (.r (.d (.int 1))), some (.r (.d (bookD [] 1 1)))] S = some (.ex "BadAction" fs, ρ', S') := by
  obtain ⟨T, _, hi, hd⟩ := door_new h2
  have z2 : (2 : Nat) ≤ sizeLine := z2
  have hf := door_act_action hd (x := .int 0) (open_bad (S := S ++ T))
  exact ⟨_, _, _, shell_door (f := m_Door_act) (k := 1) (as := [.d (.int 0), .d (.tup [.str "open", .int 1])]) hi (door_gs hd rfl) (by simp [z2]) rfl rfl hf⟩
theorem case2 (h2 : 2 ≤ S.length) : ∃ fs ρ' S', (dropM (methO "Door" "act" 3 m_Door_act (makeM "Door" 2 m_Door_init (consA (varM 1) (nilA))) (consA (negM (litM (.int 1))) (consA (litM .non) (nilA))))) [some (.r (.d (.int 2))), some (.r (.d (bookD [] 1 1)))] S = some (.ex "BadMoment" fs, ρ', S') := by
  obtain ⟨T, _, hi, hd⟩ := door_new h2
  have hf := door_act_moment (act := SH.Act.non) noR (Dr.nil (rs := []) (a := 1) (p := 1)) hd (x := .int (-1)) (.inr (.inr ⟨-1, rfl, by decide⟩)) trivial
  have hn : negD (.int 1) = some (.int (-1)) := rfl
  exact ⟨_, _, _, shell_door (f := m_Door_act) (k := 2) (as := [.d (.int (-1)), .d .non]) hi (door_gs hd rfl) (by simp [hn]) rfl rfl hf⟩
theorem case3 (h2 : 2 ≤ S.length) : ∃ fs ρ' S', (dropM (methO "Door" "undo" 1 m_Door_undo (makeM "Door" 2 m_Door_init (consA (varM 1) (nilA))) nilA)) [some (.r (.d (.int 3))), some (.r (.d (bookD [] 1 1)))] S = some (.ex "NothingToUndo" fs, ρ', S') := by
  obtain ⟨T, _, hi, hd⟩ := door_new h2
  have hf := door_undo_none (S := S ++ T) hd
  exact ⟨_, _, _, shell_door (f := m_Door_undo) (k := 3) (as := []) hi (door_gs hd rfl) (by simp) rfl rfl hf⟩
theorem shell_alike {f : FM} {ME : EM} {B C : D} {S1 S2 : Sto} {c : Str} {fs : List (Str × D)} (hm : ME [some (.r (.d (.int 4))), some (.r (.d B))] S = some (.ok (.d C), S1)) (hf : f [.d B, .d C] S1 = some (.ex c fs, S2)) : (dropM (callN 2 f (consA (varM 1) (consA ME (nilA))))) [some (.r (.d (.int 4))), some (.r (.d B))] S = some (.ex c fs, [some (.r (.d (.int 4))), some (.r (.d B))], S2) := by
  simp [hm, hf]
theorem alike_bad : m_alike [.d (bookD [] 1 1), .d (bookD [] 1 2)] S = some (.ex "NotComparable" [], S) := by
  have h := parting_bad (rs1 := []) (rs2 := []) (a := 1) (p := 1) (c := 1) (d := 2) (S := S) (.inr (by decide))
  unfold m_alike b_alike
  rw [funM_ap, if_pos (by simp)]
  generalize (bookD [] 1 1) = B1 at *
  generalize bookD [] 1 2 = B2 at *
  simp [frame0, h]
theorem case4 : ∃ fs ρ' S', (dropM (callN 2 m_alike (consA (varM 1) (consA (frzM (makeM "Book" 4 m_Book_init (consA (lstM (nilA)) (consA (litM (.int 1)) (consA (litM (.int 2)) (nilA)))))) (nilA))))) [some (.r (.d (.int 4))), some (.r (.d (bookD [] 1 1)))] S = some (.ex "NotComparable" fs, ρ', S') := by
  have z0 : (0 : Nat) ≤ sizeLine := szl (by omega)
  exact ⟨_, _, _, shell_alike (f := m_alike) (mk12 (S := S) (by simp [z0])) alike_bad⟩
theorem read_bad : ∃ S', m_read [.d (.str "")] S = some (.ex "BadLine" [("line", .int 1)], S') := by
  have e1 : Txt.split ("" : Str) "
" = ([""] : List Str) := by decide +kernel
  have e2 : Txt.split ("" : Str) " " = ([""] : List Str) := by decide +kernel
  have h1 : splitF (.str "") [.str "\n"] = some (.lst [.str ""]) := by
    show (if (("\n" : Str).length == 0) = false ∧ ("" : Str).length + 2 ≤ sizeLine then some (D.lst ((Txt.split "" "\n").map D.str)) else none) = _
    rw [if_pos ⟨by decide +kernel, by decide +kernel⟩, e1]; rfl
  have h2 : splitF (.str "") [.str " "] = some (.lst [.str ""]) := by
    show (if ((" " : Str).length == 0) = false ∧ ("" : Str).length + 2 ≤ sizeLine then some (D.lst ((Txt.split "" " ").map D.str)) else none) = _
    rw [if_pos ⟨by decide +kernel, by decide +kernel⟩, e2]; rfl
  refine ⟨S, ?_⟩
  unfold m_read b_read
  rw [funM_ap, if_pos (by simp)]
  simp [frame0, h1, h2]
theorem case6 : ∃ fs ρ' S', (dropM (callN 1 m_read (consA (litM (.str "")) (nilA)))) [some (.r (.d (.int 6))), some (.r (.d (bookD [] 1 1)))] S = some (.ex "BadLine" fs, ρ', S') := by
  obtain ⟨S', h⟩ := read_bad (S := S)
  refine ⟨[("line", .int 1)], [some (.r (.d (.int 6))), some (.r (.d (bookD [] 1 1)))], S', ?_⟩
  generalize m_read = f at *
  simp [h]
theorem raise_ok (h2 : 2 ≤ S.length) : ∀ k : Nat, k < 7 → ∃ (fs : List (Str × D)) (S' : Sto), m__law_raise [.d (.int (k : Int))] S = some (.ex (kName k) fs, S') := by
  have key : ∀ (k : Nat) (c : Str), (∃ fs ρ' S', b__law_raise [some (.r (.d (.int (k : Int)))), none] S = some (.ex c fs, ρ', S')) → ∃ fs S', m__law_raise [.d (.int (k : Int))] S = some (.ex c fs, S') := fun k c ⟨fs, ρ', S', hb⟩ => by
    refine ⟨fs, S', ?_⟩
    unfold m__law_raise
    rw [funM_ap, if_pos (by simp)]
    rw [show frame0 [.d (.int (k : Int))] 1 = [some (.r (.d (.int (k : Int)))), none] from rfl, hb]
    rfl
  obtain ⟨S1, hS1⟩ : ∃ S1, S1 = S ++ [Cell.frz (bookD [] 1 1)] := ⟨_, rfl⟩
  have h3 : 2 ≤ S1.length := by rw [hS1]; simp; omega
  have z0 : (0 : Nat) ≤ sizeLine := szl (by omega)
  have first : ∀ (k : Int) (rest : SM), seqM (setM 1 (frzM (makeM "Book" 4 m_Book_init (consA (lstM (nilA)) (consA (litM (.int 1)) (consA (litM (.int 1)) (nilA))))))) rest [some (.r (.d (.int k))), none] S = rest [some (.r (.d (.int k))), some (.r (.d (bookD [] 1 1)))] S1 := fun k rest => by
    have hm := mk11 (S := S) (ms := (consA (lstM (nilA)) (consA (litM (.int 1)) (consA (litM (.int 1)) (nilA))))) (ρ := [some (.r (.d (.int k))), none]) (S0 := S) (by simp [z0])
    rw [seq_nx (ρ' := [some (.r (.d (.int k))), some (.r (.d (bookD [] 1 1)))]) (S' := S1) (by
      rw [setM_ap, thenM_ap, hm, hS1]
      generalize (bookD [] 1 1) = bk at *
      simp)]
  intro k hk
  have hc : k = 0 ∨ k = 1 ∨ k = 2 ∨ k = 3 ∨ k = 4 ∨ k = 5 ∨ k = 6 := by omega
  rcases hc with rfl | rfl | rfl | rfl | rfl | rfl | rfl
  · refine key 0 _ ?_
    unfold b__law_raise
    rw [first]
    obtain ⟨fs, ρ', S', h⟩ := case0 (S := S1)
    exact ⟨fs, ρ', S', seq_exK (m := (ifM (bT (op2M eqD (varM 0) (litM (.int 0)))) (dropM (frzM (makeM "Book" 4 m_Book_init (consA (lstM (nilA)) (consA (litM (.int 2)) (consA (litM (.int 2)) (nilA))))))) (nxM))) (sk_yes h)⟩
  · refine key 1 _ ?_
    unfold b__law_raise
    rw [first]
    obtain ⟨fs, ρ', S', h⟩ := case1 (S := S1) h3
    rw [seq_nx (m := (ifM (bT (op2M eqD (varM 0) (litM (.int 0)))) (dropM (frzM (makeM "Book" 4 m_Book_init (consA (lstM (nilA)) (consA (litM (.int 2)) (consA (litM (.int 2)) (nilA))))))) (nxM))) (sk_no (by decide))]
    exact ⟨fs, ρ', S', seq_exK (m := (ifM (bT (op2M eqD (varM 0) (litM (.int 1)))) (dropM (methO "Door" "act" 3 m_Door_act (makeM "Door" 2 m_Door_init (consA (varM 1) (nilA))) (consA (litM (.int 0)) (consA (tupM (consA (litM (.str "open")) (consA (litM (.int 1)) (nilA)))) (nilA))))) (nxM))) (sk_yes h)⟩
  · refine key 2 _ ?_
    unfold b__law_raise
    rw [first]
    obtain ⟨fs, ρ', S', h⟩ := case2 (S := S1) h3
    rw [seq_nx (m := (ifM (bT (op2M eqD (varM 0) (litM (.int 0)))) (dropM (frzM (makeM "Book" 4 m_Book_init (consA (lstM (nilA)) (consA (litM (.int 2)) (consA (litM (.int 2)) (nilA))))))) (nxM))) (sk_no (by decide))]
    rw [seq_nx (m := (ifM (bT (op2M eqD (varM 0) (litM (.int 1)))) (dropM (methO "Door" "act" 3 m_Door_act (makeM "Door" 2 m_Door_init (consA (varM 1) (nilA))) (consA (litM (.int 0)) (consA (tupM (consA (litM (.str "open")) (consA (litM (.int 1)) (nilA)))) (nilA))))) (nxM))) (sk_no (by decide))]
    exact ⟨fs, ρ', S', seq_exK (m := (ifM (bT (op2M eqD (varM 0) (litM (.int 2)))) (dropM (methO "Door" "act" 3 m_Door_act (makeM "Door" 2 m_Door_init (consA (varM 1) (nilA))) (consA (negM (litM (.int 1))) (consA (litM .non) (nilA))))) (nxM))) (sk_yes h)⟩
  · refine key 3 _ ?_
    unfold b__law_raise
    rw [first]
    obtain ⟨fs, ρ', S', h⟩ := case3 (S := S1) h3
    rw [seq_nx (m := (ifM (bT (op2M eqD (varM 0) (litM (.int 0)))) (dropM (frzM (makeM "Book" 4 m_Book_init (consA (lstM (nilA)) (consA (litM (.int 2)) (consA (litM (.int 2)) (nilA))))))) (nxM))) (sk_no (by decide))]
    rw [seq_nx (m := (ifM (bT (op2M eqD (varM 0) (litM (.int 1)))) (dropM (methO "Door" "act" 3 m_Door_act (makeM "Door" 2 m_Door_init (consA (varM 1) (nilA))) (consA (litM (.int 0)) (consA (tupM (consA (litM (.str "open")) (consA (litM (.int 1)) (nilA)))) (nilA))))) (nxM))) (sk_no (by decide))]
    rw [seq_nx (m := (ifM (bT (op2M eqD (varM 0) (litM (.int 2)))) (dropM (methO "Door" "act" 3 m_Door_act (makeM "Door" 2 m_Door_init (consA (varM 1) (nilA))) (consA (negM (litM (.int 1))) (consA (litM .non) (nilA))))) (nxM))) (sk_no (by decide))]
    exact ⟨fs, ρ', S', seq_exK (m := (ifM (bT (op2M eqD (varM 0) (litM (.int 3)))) (dropM (methO "Door" "undo" 1 m_Door_undo (makeM "Door" 2 m_Door_init (consA (varM 1) (nilA))) nilA)) (nxM))) (sk_yes h)⟩
  · refine key 4 _ ?_
    unfold b__law_raise
    rw [first]
    obtain ⟨fs, ρ', S', h⟩ := case4 (S := S1)
    rw [seq_nx (m := (ifM (bT (op2M eqD (varM 0) (litM (.int 0)))) (dropM (frzM (makeM "Book" 4 m_Book_init (consA (lstM (nilA)) (consA (litM (.int 2)) (consA (litM (.int 2)) (nilA))))))) (nxM))) (sk_no (by decide))]
    rw [seq_nx (m := (ifM (bT (op2M eqD (varM 0) (litM (.int 1)))) (dropM (methO "Door" "act" 3 m_Door_act (makeM "Door" 2 m_Door_init (consA (varM 1) (nilA))) (consA (litM (.int 0)) (consA (tupM (consA (litM (.str "open")) (consA (litM (.int 1)) (nilA)))) (nilA))))) (nxM))) (sk_no (by decide))]
    rw [seq_nx (m := (ifM (bT (op2M eqD (varM 0) (litM (.int 2)))) (dropM (methO "Door" "act" 3 m_Door_act (makeM "Door" 2 m_Door_init (consA (varM 1) (nilA))) (consA (negM (litM (.int 1))) (consA (litM .non) (nilA))))) (nxM))) (sk_no (by decide))]
    rw [seq_nx (m := (ifM (bT (op2M eqD (varM 0) (litM (.int 3)))) (dropM (methO "Door" "undo" 1 m_Door_undo (makeM "Door" 2 m_Door_init (consA (varM 1) (nilA))) nilA)) (nxM))) (sk_no (by decide))]
    exact ⟨fs, ρ', S', seq_exK (m := (ifM (bT (op2M eqD (varM 0) (litM (.int 4)))) (dropM (callN 2 m_alike (consA (varM 1) (consA (frzM (makeM "Book" 4 m_Book_init (consA (lstM (nilA)) (consA (litM (.int 1)) (consA (litM (.int 2)) (nilA)))))) (nilA))))) (nxM))) (sk_yes h)⟩
  · refine key 5 _ ?_
    unfold b__law_raise
    rw [first]
    obtain ⟨fs, ρ', S', h⟩ := case5 (S := S1)
    rw [seq_nx (m := (ifM (bT (op2M eqD (varM 0) (litM (.int 0)))) (dropM (frzM (makeM "Book" 4 m_Book_init (consA (lstM (nilA)) (consA (litM (.int 2)) (consA (litM (.int 2)) (nilA))))))) (nxM))) (sk_no (by decide))]
    rw [seq_nx (m := (ifM (bT (op2M eqD (varM 0) (litM (.int 1)))) (dropM (methO "Door" "act" 3 m_Door_act (makeM "Door" 2 m_Door_init (consA (varM 1) (nilA))) (consA (litM (.int 0)) (consA (tupM (consA (litM (.str "open")) (consA (litM (.int 1)) (nilA)))) (nilA))))) (nxM))) (sk_no (by decide))]
    rw [seq_nx (m := (ifM (bT (op2M eqD (varM 0) (litM (.int 2)))) (dropM (methO "Door" "act" 3 m_Door_act (makeM "Door" 2 m_Door_init (consA (varM 1) (nilA))) (consA (negM (litM (.int 1))) (consA (litM .non) (nilA))))) (nxM))) (sk_no (by decide))]
    rw [seq_nx (m := (ifM (bT (op2M eqD (varM 0) (litM (.int 3)))) (dropM (methO "Door" "undo" 1 m_Door_undo (makeM "Door" 2 m_Door_init (consA (varM 1) (nilA))) nilA)) (nxM))) (sk_no (by decide))]
    rw [seq_nx (m := (ifM (bT (op2M eqD (varM 0) (litM (.int 4)))) (dropM (callN 2 m_alike (consA (varM 1) (consA (frzM (makeM "Book" 4 m_Book_init (consA (lstM (nilA)) (consA (litM (.int 1)) (consA (litM (.int 2)) (nilA)))))) (nilA))))) (nxM))) (sk_no (by decide))]
    exact ⟨fs, ρ', S', seq_exK (m := (ifM (bT (op2M eqD (varM 0) (litM (.int 5)))) (dropM (frzM (makeM "Book" 4 m_Book_init (consA (lstM (consA (tupM (nilA)) (nilA))) (consA (litM (.int 1)) (consA (litM (.int 1)) (nilA))))))) (nxM))) (sk_yes h)⟩
  · refine key 6 _ ?_
    unfold b__law_raise
    rw [first]
    obtain ⟨fs, ρ', S', h⟩ := case6 (S := S1)
    rw [seq_nx (m := (ifM (bT (op2M eqD (varM 0) (litM (.int 0)))) (dropM (frzM (makeM "Book" 4 m_Book_init (consA (lstM (nilA)) (consA (litM (.int 2)) (consA (litM (.int 2)) (nilA))))))) (nxM))) (sk_no (by decide))]
    rw [seq_nx (m := (ifM (bT (op2M eqD (varM 0) (litM (.int 1)))) (dropM (methO "Door" "act" 3 m_Door_act (makeM "Door" 2 m_Door_init (consA (varM 1) (nilA))) (consA (litM (.int 0)) (consA (tupM (consA (litM (.str "open")) (consA (litM (.int 1)) (nilA)))) (nilA))))) (nxM))) (sk_no (by decide))]
    rw [seq_nx (m := (ifM (bT (op2M eqD (varM 0) (litM (.int 2)))) (dropM (methO "Door" "act" 3 m_Door_act (makeM "Door" 2 m_Door_init (consA (varM 1) (nilA))) (consA (negM (litM (.int 1))) (consA (litM .non) (nilA))))) (nxM))) (sk_no (by decide))]
    rw [seq_nx (m := (ifM (bT (op2M eqD (varM 0) (litM (.int 3)))) (dropM (methO "Door" "undo" 1 m_Door_undo (makeM "Door" 2 m_Door_init (consA (varM 1) (nilA))) nilA)) (nxM))) (sk_no (by decide))]
    rw [seq_nx (m := (ifM (bT (op2M eqD (varM 0) (litM (.int 4)))) (dropM (callN 2 m_alike (consA (varM 1) (consA (frzM (makeM "Book" 4 m_Book_init (consA (lstM (nilA)) (consA (litM (.int 1)) (consA (litM (.int 2)) (nilA)))))) (nilA))))) (nxM))) (sk_no (by decide))]
    rw [seq_nx (m := (ifM (bT (op2M eqD (varM 0) (litM (.int 5)))) (dropM (frzM (makeM "Book" 4 m_Book_init (consA (lstM (consA (tupM (nilA)) (nilA))) (consA (litM (.int 1)) (consA (litM (.int 1)) (nilA))))))) (nxM))) (sk_no (by decide))]
    exact ⟨fs, ρ', S', sk_yes h⟩
/-! ### the law -/
def rowB (k : Nat) : List Bool := (List.range 7).map fun i => decide (i = k)
theorem tab_row (k : Nat) (hk : k < 7) : ∃ row, tab__law_kinds.find? (fun row => decide (row.1 = kName k)) = some row ∧ row.2.1 ++ row.2.2.1 ++ row.2.2.2 = rowB k ++ [true] := by
  have hc : k = 0 ∨ k = 1 ∨ k = 2 ∨ k = 3 ∨ k = 4 ∨ k = 5 ∨ k = 6 := by omega
  rcases hc with rfl | rfl | rfl | rfl | rfl | rfl | rfl
  · exact ⟨("BadCount", [true, false, false, false], [false, false, false], [true]), by decide +kernel, by decide +kernel⟩
  · exact ⟨("BadAction", [false, true, false, false], [false, false, false], [true]), by decide +kernel, by decide +kernel⟩
  · exact ⟨("BadMoment", [false, false, true, false], [false, false, false], [true]), by decide +kernel, by decide +kernel⟩
  · exact ⟨("NothingToUndo", [false, false, false, true], [false, false, false], [true]), by decide +kernel, by decide +kernel⟩
  · exact ⟨("NotComparable", [false, false, false, false], [true, false, false], [true]), by decide +kernel, by decide +kernel⟩
  · exact ⟨("BadRule", [false, false, false, false], [false, true, false], [true]), by decide +kernel, by decide +kernel⟩
  · exact ⟨("BadLine", [false, false, false, false], [false, false, true], [true]), by decide +kernel, by decide +kernel⟩
theorem tb_at (k : Nat) (hk : k < 7) : tabB [("BadRule", "LockError", true), ("BadCount", "LockError", true), ("BadAction", "LockError", true), ("BadMoment", "LockError", true), ("NothingToUndo", "LockError", true), ("NotComparable", "LockError", true), ("BadLine", "LockError", true)] (kName k) "LockError" = some true := by
  have hc : k = 0 ∨ k = 1 ∨ k = 2 ∨ k = 3 ∨ k = 4 ∨ k = 5 ∨ k = 6 := by omega
  rcases hc with rfl | rfl | rfl | rfl | rfl | rfl | rfl <;> decide +kernel
theorem shell_try {f : FM} {c : Str} {fs : List (Str × D)} {row : Str × List Bool × List Bool × List Bool} {L : List D} {g0 g1 g4 g5 : Option Ent} {v : Int} {S1 : Sto} (hf : f [.d (.int v)] S = some (.ex c fs, S1)) (ht : tabB [("BadRule", "LockError", true), ("BadCount", "LockError", true), ("BadAction", "LockError", true), ("BadMoment", "LockError", true), ("NothingToUndo", "LockError", true), ("NotComparable", "LockError", true), ("BadLine", "LockError", true)] c "LockError" = some true)
    (hr : tab__law_kinds.find? (fun row => decide (row.1 = c)) = some row) (hL : (row.2.1 ++ row.2.2.1 ++ row.2.2.2).map D.bl = L) : (tryM [("BadRule", "LockError", true), ("BadCount", "LockError", true), ("BadAction", "LockError", true), ("BadMoment", "LockError", true), ("NothingToUndo", "LockError", true), ("NotComparable", "LockError", true), ("BadLine", "LockError", true)] (dropM (callN 1 f (consA (varM 2) (nilA)))) [⟨"LockError", some 4, kindM tab__law_kinds 3⟩]) [g0, g1, some (.r (.d (.int v))), some (.r (.d (.lst []))), g4, g5] S = some (.nx, [g0, g1, some (.r (.d (.int v))), some (.r (.d (.lst L))), none, g5], S1) := by
  have hk : ∀ ρ : MM.Fr, kindM tab__law_kinds 3 c fs ρ S1 = setR 3 (.d (.lst L)) ρ S1 := fun ρ => by
    unfold kindM
    simp only [hr]
    rw [hL]
  unfold tryM
  rw [show (dropM (callN 1 f (consA (varM 2) (nilA)))) [g0, g1, some (.r (.d (.int v))), some (.r (.d (.lst []))), g4, g5] S = some (.ex c fs, [g0, g1, some (.r (.d (.int v))), some (.r (.d (.lst []))), g4, g5], S1) by simp [hf]]
  simp only [catchM, ht]
  rw [if_pos (by simp), hk]
  simp [offM]
theorem shell_end {L : List D} {g0 g1 : Option Ent} {v : Int} {KL : List D} (hl : KL.length = 7) (hc : lcL [5] (nameT 5) yesT (op2M eqD (varM 5) (varM 2)) (natsD (List.range 7)) [] [g0, g1, some (.r (.d (.int v))), some (.r (.d (.lst L))), none, none] S = some (.ok KL, S)) (he : eqB (.lst L) (.lst (KL ++ [.bl true])) = some true) : (retM (op2M eqD (varM 3) (op2M addD (ofNew (lcM (iRng1M (consA (litM (.int 7)) (nilA))) [5] (nameT 5) (yesT) (op2M eqD (varM 5) (varM 2)))) (lstM (consA (litM (.bl true)) (nilA)))))) [g0, g1, some (.r (.d (.int v))), some (.r (.d (.lst L))), none, none] S = some (.rt (.d (.bl true)), [g0, g1, some (.r (.d (.int v))), some (.r (.d (.lst L))), none, none], S) := by
  have z8 : KL.length + 1 ≤ sizeLine := szl (by omega)
  have z1 : (1 : Nat) ≤ sizeLine := z1
  have hj : iRng1M (consA (litM (.int 7)) (nilA)) [g0, g1, some (.r (.d (.int v))), some (.r (.d (.lst L))), none, none] S = some (.ok (natsD (List.range 7)), S) := by
    have e : (consA (litM (.int 7)) (nilA)) [g0, g1, some (.r (.d (.int v))), some (.r (.d (.lst L))), none, none] S = some (.ok [.d (.int ((7 : Nat) : Int))], S) := by simp
    show MM.bindM _ rng1R _ S = _
    unfold MM.bindM
    rw [e]
    exact rng1_nat (by omega)
  have hl : lcM (iRng1M (consA (litM (.int 7)) (nilA))) [5] (nameT 5) yesT (op2M eqD (varM 5) (varM 2)) [g0, g1, some (.r (.d (.int v))), some (.r (.d (.lst L))), none, none] S = some (.ok KL, S) := by
    rw [lcM_ap, bindM_ap, hj]
    exact hc
  generalize lcM (iRng1M (consA (litM (.int 7)) (nilA))) [5] (nameT 5) yesT (op2M eqD (varM 5) (varM 2)) = LC at *
  simp [hl, he, z8, z1]
theorem row_loop {g0 g1 g3 : Option Ent} (k : Nat) : lcL [5] (nameT 5) yesT (op2M eqD (varM 5) (varM 2)) (natsD (List.range 7)) [] [g0, g1, some (.r (.d (.int (k : Int)))), g3, none, none] S = some (.ok ((rowB k).map D.bl), S) := by
  have key := lc_pairs (S := S) (ρ := [g0, g1, some (.r (.d (.int (k : Int)))), g3, none, none]) (vs := [5]) (t := nameT 5) (te := op2M eqD (varM 5) (varM 2)) ((List.range 7).map fun i : Nat => (D.int (i : Int), D.bl (decide (i = k)))) [] (szl (by simp)) (by
    rintro ⟨d, e⟩ hd
    obtain ⟨i, hi, he⟩ := List.mem_map.mp hd
    cases he
    refine ⟨[g0, g1, some (.r (.d (.int (k : Int)))), g3, none, some (.r (.d (.int (i : Int))))], by simp, ?_⟩
    by_cases c : i = k
    · subst c; simp
    · have : ¬ (i : Int) = (k : Int) := by omega
      simp [c, this])
  have e1 : ((List.range 7).map fun i : Nat => (D.int (i : Int), D.bl (decide (i = k)))).map (·.1) = natsD (List.range 7) := by rw [List.map_map]; rfl
  have e2 : [] ++ ((List.range 7).map fun i : Nat => (D.int (i : Int), D.bl (decide (i = k)))).map (·.2) = (rowB k).map D.bl := by unfold rowB; rw [List.nil_append, List.map_map, List.map_map]; rfl
  rw [e1, e2] at key
  exact key
theorem law_true (ns : List Int) (hlen : ns.length ≤ 63) : ∃ S', m_law [.d (.scr ns)] [.tab "step"] = some (.ok (.d (.bl true)), S') := by
  have hb := begin_ok (ns := ns) (S := [.tab "step"])
  obtain ⟨S1, hS1⟩ : ∃ S1, S1 = [Cell.tab "step"] ++ [(Drw.mk ns 0 0 7).cell] := ⟨_, rfl⟩
  have d1 : DrwAt S1 1 := ⟨⟨ns, 0, 0, 7⟩, by unfold Drw.ok; simp, by rw [hS1]; rfl⟩
  have hl1 : S1.length = 2 := by rw [hS1]; rfl
  rw [← hS1] at hb
  obtain ⟨v, c, e1, v0, v1, d2⟩ := draw (many := 7) d1 (by decide) (by decide)
  obtain ⟨k, hk⟩ : ∃ k : Nat, v = (k : Int) := ⟨v.toNat, by omega⟩
  subst hk
  have hk7 : k < 7 := by omega
  obtain ⟨fs, S3, h3⟩ := raise_ok (S := S1.set 1 c) (by rw [List.length_set]; omega) k hk7
  obtain ⟨row, r1, r2⟩ := tab_row k hk7
  have c3 := shell_try (f := m__law_raise) (S := S1.set 1 c) (g0 := some (.r (.d (.scr ns)))) (g1 := some (.r (.loc 1))) (g4 := none) (g5 := none) h3 (tb_at k hk7) r1 (L := (rowB k ++ [true]).map D.bl) (by rw [r2])
  have he : eqB (.lst ((rowB k ++ [true]).map D.bl)) (.lst ((rowB k).map D.bl ++ [.bl true])) = some true := by
    rw [List.map_append]
    refine eqB_self ?_ ?_
    · show okDs _ = true
      rw [← show (rowB k ++ [true]).map D.bl = (rowB k).map D.bl ++ [true].map D.bl from List.map_append]
      exact okDs_bls _
    · show dpDs _ + 1 ≤ 64
      rw [← show (rowB k ++ [true]).map D.bl = (rowB k).map D.bl ++ [true].map D.bl from List.map_append]
      have := dpDs_bls (rowB k ++ [true])
      omega
  have c4 := shell_end (S := S3) (g0 := some (.r (.d (.scr ns)))) (g1 := some (.r (.loc 1))) (v := (k : Int)) (L := (rowB k ++ [true]).map D.bl) (KL := (rowB k).map D.bl) (by unfold rowB; simp) (row_loop k) he
  have z0 : (0 : Nat) ≤ sizeLine := szl (by omega)
  refine ⟨S3, ?_⟩
  unfold m_law b_law
  rw [funM_ap, if_pos (by simp)]
  rw [seq_nx (m := (setM 1 (callN 1 m__law_begin (consA (varM 0) (nilA))))) (ρ' := [some (.r (.d (.scr ns))), some (.r (.loc 1)), none, none, none, none]) (S' := S1) (by
    generalize m__law_begin = f at *
    simp [frame0, hb])]
  rw [seq_nx (m := (setM 2 (callN 2 m__law_draw (consA (varM 1) (consA (litM (.int 7)) (nilA)))))) (ρ' := [some (.r (.d (.scr ns))), some (.r (.loc 1)), some (.r (.d (.int (k : Int)))), none, none, none]) (S' := S1.set 1 c) (by
    generalize m__law_draw = f at *
    simp [e1])]
  rw [seq_nx (m := (setM 3 (lstM (nilA)))) (ρ' := [some (.r (.d (.scr ns))), some (.r (.loc 1)), some (.r (.d (.int (k : Int)))), some (.r (.d (.lst []))), none, none]) (S' := S1.set 1 c) (by simp [z0])]
  rw [seq_nx c3, c4]
  rfl
end
end K15
open PySem PySem.W PySem.Calls PyProof.Rows
theorem PySem.Challenge.cw_trylocks_k15_errors_are_apart_holds : PySem.Challenge.rw_trylocks_k15_errors_are_apart.Holds := by
  w_on; o_law
  refine HandSHeadRun.head_any (r := OpenLaw.row PySem.Challenge.rw_trylocks_k15_errors_are_apart) (q := view (OpenLaw.row PySem.Challenge.rw_trylocks_k15_errors_are_apart).prog [52]) (H := K15.hk) (ob := K15.ob) (M := 4000) (loose := K15.loose) (d := HandSHeadRun.topDef (OpenLaw.row PySem.Challenge.rw_trylocks_k15_errors_are_apart).prog 52) (kwd := []) K15.ob_eq
    (by kernel_rfl) (fun s => by kernel_rfl) K15.run (by kernel_rfl) (by kernel_rfl) (by kernel_rfl) (by rfl) (by first | assumption | decide +kernel) (by decide +kernel) ⟨rfl, rfl, rfl, rfl, rfl, by decide +kernel⟩ ?hw ?hc
  case hw => w_witness2
  case hc =>

    refine MM.walk_mT (l := PySem.Challenge.rw_trylocks_k15_errors_are_apart) (n := 63) (k := 9) (x := "_law_script") (y := "step") (m := K15.m_law) rfl (by decide) (by kernel_rfl) ⟨rfl, by decide, by decide⟩ K15.law_true ?F
    intro w mg fa h Y G hmg0
    obtain ⟨K, KX, c, GP⟩ := Y
    have hmg : mg ("law" : PySem.Str) = some (.ref fa) := by
      have e : (HandSHeadRun.topDef (OpenLaw.row PySem.Challenge.rw_trylocks_k15_errors_are_apart).prog 52).name = ("law" : PySem.Str) := by kernel_rfl
      rw [← e]
      exact hmg0
    have Z := K15.facts KX G c GP
    have e := hmg.symm.trans Z.g_law
    cases e
    obtain ⟨fd, F⟩ := Z.d_law
    have b := L2.FunD.bindsA (ps := ["_law_script"]) F fun _ _ _ _ _ _ us hl => match us, hl with | [_], _ => rfl
    exact ⟨K, fd, KX, c.empty _ (by simp), c.out _ (by simp), c.hd _ (by simp), fun s v => b s [v] rfl, fun base TB => K15.okF_law ⟨Z, TB⟩ F⟩
