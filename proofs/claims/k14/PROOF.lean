import PyProof.Rows.All
import Wide.All
import OpenK.AllK
import Wide.FinOn
import HandS.ForMost
import HandS.ForExc
import HandS.Walk
import HandS.IsInst
import HandS.Zip
import HandS.Deep
import HandS.TupAny
import HandS.CallLocal
import HandS.ExcField
import HandS.ExcInit
import HandS.Small
import HandS.Wide
import HandS.HeadHook2
import KE.KeyNested
import KE.KDictKeyed
import HandS.HeadHook4
import HandS.OwnEq
import HandS.Property
import HandS.FStr
import HandS.Codes
import HandS.TryMany
import KE.GoesMore
import KE.GoesEnum
import HandS.Head2
import HandS.HeadEnd
import PySem.Challenge.RW_trylocks_k14_texts_refused
set_option Elab.async false
set_option linter.all false
set_option maxRecDepth 100000
set_option maxHeartbeats 4000000
namespace MM
open PySem PySem.Spec PyProof.Rows L2

/-! ### data -/
inductive D where
  | non | bl (b : Bool) | int (i : Int) | str (x : Str)
  | tup (ds : List D) | lst (ds : List D)
  | dic (kvs : List (D × D)) | dit (kvs : List (D × D))
  | obj (C : Str) (fs : List (Str × D))
  | gl (x : Str) | scr (ns : List Int) | ty (n : String)
  deriving Inhabited

mutual
def toKey : D → Option NestedKey
  | .non => some .none
  | .bl b => some (.num (if b = true then 1 else 0))
  | .int i => some (.num i)
  | .str x => some (.text x)
  | .tup ds => (toKeys ds).map .tup
  | _ => none
def toKeys : List D → Option (List NestedKey)
  | [] => some []
  | d :: ds => match toKey d, toKeys ds with
    | some k, some ks => some (k :: ks)
    | _, _ => none
end
/-- a key of a dict with tuple keys -/
def tupKey (d : D) : Option NestedKey := match d with
  | .tup ds => (toKeys ds).bind fun ks => if (NestedKey.tup ks).depth ≤ 8 then some (.tup ks) else none
  | _ => none
/-- a key of a flat dict -/
def flatKey : D → Option Key
  | .int i => some (.inl i)
  | .str x => some (.inr x)
  | _ => none

/-- a dict whose keys are tuples of any depth: its entries (hash, the key's tuple, value) as they stand -/
def dxt (a : Addr) (es : List (Int × Addr × V)) : HO := .ext fun h => ∃ (o : Obj) (ens : Array DictEntry) (ep : Nat) (us : List Value),
    h.get? a = some o ∧ o.ExactDict ∧ o.data = .dict ens ep ∧ Vals (es.map (·.2.2)) us ∧ ens.toList = (es.zip us).map fun p => ⟨p.1.1, .ref p.1.2.1, p.2⟩

mutual
/-- the value v is the data d, read in the frozen heap F -/
inductive Rep (K : PySem.W.Frag) (w : World) (F : Hp) : D → V → Prop
  | non : Rep K w F .non .non
  | bl (b : Bool) : Rep K w F (.bl b) (.bl b)
  | int (i : Int) : Rep K w F (.int i) (.int i)
  | str (x : Str) : Rep K w F (.str x) (.str x)
  | tup {a : Addr} {xs : List V} {ds : List D} : SqT K F a xs → RepAll K w F ds xs → Rep K w F (.tup ds) (.ref a)
  | lst {a : Addr} {xs : List V} {ds : List D} : F a = some (.lst xs) → RepAll K w F ds xs → Rep K w F (.lst ds) (.ref a)
  | dic {a : Addr} {kvs : List (D × D)} {ks : List (Key × V)} : F a = some (.dK ks) → RepKs K w F kvs ks → Rep K w F (.dic kvs) (.ref a)
  | dit {a : Addr} {kvs : List (D × D)} {es : List (Int × Addr × V)} : F a = some (dxt a es) → RepEs K w F kvs es → (kvs.map fun p => tupKey p.1).Nodup → es.length ≤ sizeLine → a ≠ sysModules → Rep K w F (.dit kvs) (.ref a)
  | obj {C : Str} {fs : List (Str × D)} {a dx : Addr} {vs : List (Str × V)} : F a = some (.ins (He.ga K C) dx vs) → RepFs K w F fs vs → Rep K w F (.obj C fs) (.ref a)
  | gl (x : Str) : Rep K w F (.gl x) (.ref (He.ga K x))
  | scr {a : Addr} {ns : List Int} : SqL K F a (ns.map V.int) → Rep K w F (.scr ns) (.ref a)
  | ty (n : String) : Rep K w F (.ty n) (.ty n)
inductive RepAll (K : PySem.W.Frag) (w : World) (F : Hp) : List D → List V → Prop
  | nil : RepAll K w F [] []
  | cons {d : D} {ds : List D} {v : V} {vs : List V} : Rep K w F d v → RepAll K w F ds vs → RepAll K w F (d :: ds) (v :: vs)
inductive RepKs (K : PySem.W.Frag) (w : World) (F : Hp) : List (D × D) → List (Key × V) → Prop
  | nil : RepKs K w F [] []
  | cons {d e : D} {ds : List (D × D)} {k : Key} {v : V} {ks : List (Key × V)} : flatKey d = some k → Rep K w F e v → RepKs K w F ds ks → RepKs K w F ((d, e) :: ds) ((k, v) :: ks)
inductive RepEs (K : PySem.W.Frag) (w : World) (F : Hp) : List (D × D) → List (Int × Addr × V) → Prop
  | nil : RepEs K w F [] []
  | cons {d e : D} {ds : List (D × D)} {k : NestedKey} {b : Addr} {v : V} {es : List (Int × Addr × V)} : tupKey d = some k → Rep K w F d (.ref b) → Rep K w F e v → RepEs K w F ds es → RepEs K w F ((d, e) :: ds) ((k.hash w, b, v) :: es)
inductive RepFs (K : PySem.W.Frag) (w : World) (F : Hp) : List (Str × D) → List (Str × V) → Prop
  | nil : RepFs K w F [] []
  | cons {x : Str} {d : D} {ds : List (Str × D)} {v : V} {vs : List (Str × V)} : Rep K w F d v → RepFs K w F ds vs → RepFs K w F ((x, d) :: ds) ((x, v) :: vs)
end

theorem Same.seqT {K : PySem.W.Frag} {H H' : Hp} {a : Addr} {xs : List V} (e : Same H H') (h : SqT K H a xs) : SqT K H' a xs := by
  rcases h with (h | ⟨o, h⟩) | h
  · exact .inl (.inl (e _ _ h))
  · exact .inl (.inr ⟨o, e _ _ h⟩)
  · exact .inr h

section
variable {K : PySem.W.Frag} {w : World} {F F' : Hp}
mutual
theorem Rep.mono (e : Same F F') : ∀ {d : D} {v : V}, Rep K w F d v → Rep K w F' d v
  | _, _, .non => .non
  | _, _, .bl b => .bl b
  | _, _, .int i => .int i
  | _, _, .str x => .str x
  | _, _, .tup h r => .tup (Same.seqT e h) (RepAll.mono e r)
  | _, _, .lst h r => .lst (e _ _ h) (RepAll.mono e r)
  | _, _, .dic h r => .dic (e _ _ h) (RepKs.mono e r)
  | _, _, .dit h r n z y => .dit (e _ _ h) (RepEs.mono e r) n z y
  | _, _, .obj h r => .obj (e _ _ h) (RepFs.mono e r)
  | _, _, .gl x => .gl x
  | _, _, .scr h => .scr (e.seq h)
  | _, _, .ty n => .ty n
theorem RepAll.mono (e : Same F F') : ∀ {ds : List D} {vs : List V}, RepAll K w F ds vs → RepAll K w F' ds vs
  | _, _, .nil => .nil
  | _, _, .cons h r => .cons (Rep.mono e h) (RepAll.mono e r)
theorem RepKs.mono (e : Same F F') : ∀ {ds : List (D × D)} {vs : List (Key × V)}, RepKs K w F ds vs → RepKs K w F' ds vs
  | _, _, .nil => .nil
  | _, _, .cons k h r => .cons k (Rep.mono e h) (RepKs.mono e r)
theorem RepEs.mono (e : Same F F') : ∀ {ds : List (D × D)} {vs : List (Int × Addr × V)}, RepEs K w F ds vs → RepEs K w F' ds vs
  | _, _, .nil => .nil
  | _, _, .cons k h1 h r => .cons k (Rep.mono e h1) (Rep.mono e h) (RepEs.mono e r)
theorem RepFs.mono (e : Same F F') : ∀ {ds : List (Str × D)} {vs : List (Str × V)}, RepFs K w F ds vs → RepFs K w F' ds vs
  | _, _, .nil => .nil
  | _, _, .cons h r => .cons (Rep.mono e h) (RepFs.mono e r)
end
theorem RepAll.length : ∀ {ds : List D} {vs : List V}, RepAll K w F ds vs → ds.length = vs.length
  | _, _, .nil => rfl
  | _, _, .cons _ r => congrArg Nat.succ (RepAll.length r)
theorem RepAll.get : ∀ {ds : List D} {vs : List V} {i : Nat} {d : D}, RepAll K w F ds vs → ds[i]? = some d → ∃ v, vs[i]? = some v ∧ Rep K w F d v
  | _, _, _, _, .nil, e => by simp at e
  | _, _, 0, _, .cons h _, e => by simp at e; subst e; exact ⟨_, rfl, h⟩
  | _, _, i + 1, d, .cons _ r, e => by
    obtain ⟨v, h1, h2⟩ := RepAll.get (i := i) (d := d) r (by simpa using e)
    exact ⟨v, by simpa using h1, h2⟩
theorem RepAll.get' : ∀ {ds : List D} {vs : List V} {i : Nat} {v : V}, RepAll K w F ds vs → vs[i]? = some v → ∃ d, ds[i]? = some d ∧ Rep K w F d v
  | _, _, _, _, .nil, e => by simp at e
  | _, _, 0, _, .cons h _, e => by simp at e; subst e; exact ⟨_, rfl, h⟩
  | _, _, i + 1, v, .cons _ r, e => by
    obtain ⟨d, h1, h2⟩ := RepAll.get' (i := i) (v := v) r (by simpa using e)
    exact ⟨d, by simpa using h1, h2⟩
theorem RepAll.append : ∀ {ds es : List D} {xs ys : List V}, RepAll K w F ds xs → RepAll K w F es ys → RepAll K w F (ds ++ es) (xs ++ ys)
  | _, _, _, _, .nil, s => s
  | _, _, _, _, .cons h r, s => .cons h (RepAll.append r s)
theorem RepAll.take (n : Nat) : ∀ {ds : List D} {xs : List V}, RepAll K w F ds xs → RepAll K w F (ds.take n) (xs.take n) := by
  induction n with
  | zero => intro ds xs _; exact .nil
  | succ n ih =>
    intro ds xs r
    cases r with
    | nil => exact .nil
    | cons h r => exact .cons h (ih r)
theorem RepAll.drop (n : Nat) : ∀ {ds : List D} {xs : List V}, RepAll K w F ds xs → RepAll K w F (ds.drop n) (xs.drop n) := by
  induction n with
  | zero => intro ds xs r; exact r
  | succ n ih =>
    intro ds xs r
    cases r with
    | nil => exact .nil
    | cons h r => exact ih r
theorem RepAll.set {d : D} {v : V} (h : Rep K w F d v) : ∀ {ds : List D} {xs : List V} (i : Nat), RepAll K w F ds xs → RepAll K w F (ds.set i d) (xs.set i v)
  | _, _, _, .nil => .nil
  | _, _, 0, .cons _ r => .cons h r
  | _, _, i + 1, .cons g r => .cons g (RepAll.set h i r)
theorem RepAll.eraseIdx : ∀ {ds : List D} {xs : List V} (i : Nat), RepAll K w F ds xs → RepAll K w F (ds.eraseIdx i) (xs.eraseIdx i)
  | _, _, _, .nil => .nil
  | _, _, 0, .cons _ r => r
  | _, _, i + 1, .cons g r => .cons g (RepAll.eraseIdx i r)
theorem RepAll.reverse {ds : List D} {xs : List V} (h : RepAll K w F ds xs) : RepAll K w F ds.reverse xs.reverse := by
  induction ds generalizing xs with
  | nil => cases h; exact .nil
  | cons d ds ih =>
    cases h with
    | cons h r =>
      rw [List.reverse_cons, List.reverse_cons]
      exact RepAll.append (ih r) (.cons h .nil)
theorem RepAll.dropLast {ds : List D} {xs : List V} (h : RepAll K w F ds xs) : RepAll K w F ds.dropLast xs.dropLast := by
  rw [List.dropLast_eq_take, List.dropLast_eq_take, h.length]
  exact h.take _
theorem RepFs.get : ∀ {ds : List (Str × D)} {vs : List (Str × V)} {f : Str} {d : D}, RepFs K w F ds vs → ds.lookup f = some d → ∃ v, vs.lookup f = some v ∧ Rep K w F d v
  | _, _, _, _, .nil, e => by simp at e
  | _, _, f, d, .cons (x := x) h r, e => by
    rw [List.lookup_cons] at e ⊢
    cases hb : f == x with
    | true => rw [hb] at e; cases e; exact ⟨_, rfl, h⟩
    | false =>
      rw [hb] at e
      exact RepFs.get r e
theorem RepFs.none : ∀ {ds : List (Str × D)} {vs : List (Str × V)} {f : Str}, RepFs K w F ds vs → ds.lookup f = Option.none → vs.lookup f = Option.none
  | _, _, _, .nil, e => rfl
  | _, _, f, .cons (x := x) h r, e => by
    rw [List.lookup_cons] at e ⊢
    cases hb : f == x with
    | true => rw [hb] at e; cases e
    | false =>
      rw [hb] at e
      exact RepFs.none r e
theorem RepAll.ints : ∀ {ns : List Int} {vs : List V}, RepAll K w F (ns.map D.int) vs → vs = ns.map V.int
  | [], _, .nil => rfl
  | n :: ns, _, .cons h r => by
    cases h
    rw [List.map_cons, RepAll.ints r]
theorem RepAll.bls : ∀ {ns : List Bool} {vs : List V}, RepAll K w F (ns.map D.bl) vs → vs = ns.map V.bl
  | [], _, .nil => rfl
  | n :: ns, _, .cons h r => by
    cases h
    rw [List.map_cons, RepAll.bls r]
theorem RepAll.strs : ∀ {ns : List Str} {vs : List V}, RepAll K w F (ns.map D.str) vs → vs = ns.map V.str
  | [], _, .nil => rfl
  | n :: ns, _, .cons h r => by
    cases h
    rw [List.map_cons, RepAll.strs r]
theorem RepAll.of_ints : ∀ (ns : List Int), RepAll K w F (ns.map D.int) (ns.map V.int)
  | [] => .nil
  | n :: ns => .cons (.int n) (RepAll.of_ints ns)
theorem RepAll.of_strs : ∀ (ns : List Str), RepAll K w F (ns.map D.str) (ns.map V.str)
  | [] => .nil
  | n :: ns => .cons (.str n) (RepAll.of_strs ns)
end

/-! ### the store -/
inductive R where
  | d (x : D) | loc (n : Nat) | slot (i : Nat)
  deriving Inhabited
inductive Cell where
  | lst (ds : List D) | dic (kvs : List (D × D)) | dit (kvs : List (D × D)) | ins (C : Str) (fs : List (Str × R)) | frz (x : D)
  deriving Inhabited
/-- what a name holds: a value, or a list or dict of the frame's own that nothing else names -/
inductive Ent where
  | r (x : R) | own (c : Cell)
  deriving Inhabited
abbrev Fr := List (Option Ent)
abbrev Sto := List Cell

def RepR (K : PySem.W.Frag) (w : World) (F : Hp) (μ : List Addr) (σ : L2.St) : R → V → Prop
  | .d x, v => Rep K w F x v
  | .loc n, v => ∃ a, μ[n]? = some a ∧ v = .ref a
  | .slot i, v => σ[i]? = some (some v)
inductive RepFR (K : PySem.W.Frag) (w : World) (F : Hp) (μ : List Addr) : List (Str × R) → List (Str × V) → Prop
  | nil : RepFR K w F μ [] []
  | cons {x : Str} {r : R} {rs : List (Str × R)} {v : V} {vs : List (Str × V)} : RepR K w F μ [] r v → RepFR K w F μ rs vs → RepFR K w F μ ((x, r) :: rs) ((x, v) :: vs)
inductive RepRs (K : PySem.W.Frag) (w : World) (F : Hp) (μ : List Addr) (σ : L2.St) : List R → List V → Prop
  | nil : RepRs K w F μ σ [] []
  | cons {r : R} {rs : List R} {v : V} {vs : List V} : RepR K w F μ σ r v → RepRs K w F μ σ rs vs → RepRs K w F μ σ (r :: rs) (v :: vs)

def CellOk (K : PySem.W.Frag) (w : World) (F : Hp) (μ : List Addr) (H : Hp) (a : Addr) : Cell → Prop
  | .lst ds => F a = none ∧ ∃ xs, H a = some (.lst xs) ∧ RepAll K w F ds xs
  | .dic kvs => F a = none ∧ ∃ ks, H a = some (.dK ks) ∧ RepKs K w F kvs ks
  | .dit kvs => F a = none ∧ ∃ es, H a = some (dxt a es) ∧ RepEs K w F kvs es ∧ (kvs.map fun p => tupKey p.1).Nodup ∧ es.length ≤ sizeLine ∧ a ≠ sysModules
  | .ins C fs => F a = none ∧ ∃ dx vs, H a = some (.ins (He.ga K C) dx vs) ∧ RepFR K w F μ fs vs
  | .frz x => Rep K w F x (.ref a)

structure Rel (K : PySem.W.Frag) (w : World) (F : Hp) (μ : List Addr) (S : Sto) (H : Hp) : Prop where
  le : Same F H
  nd : μ.Nodup
  len : μ.length = S.length
  there : ∀ a ∈ μ, H a ≠ none
  cell : ∀ (n : Nat) (a : Addr) (c : Cell), μ[n]? = some a → S[n]? = some c → CellOk K w F μ H a c

section
variable {K : PySem.W.Frag} {w : World} {F F' H H' : Hp} {μ μ' : List Addr} {S : Sto}
theorem get_of_prefix {α : Type} {l l' : List α} (p : l <+: l') {n : Nat} {a : α} (e : l[n]? = some a) : l'[n]? = some a := by
  obtain ⟨t, rfl⟩ := p
  rw [List.getElem?_append_left (List.getElem?_eq_some_iff.mp e).1]
  exact e
theorem RepR.mono {σ : L2.St} (e : Same F F') (p : μ <+: μ') : ∀ {r : R} {v : V}, RepR K w F μ σ r v → RepR K w F' μ' σ r v
  | .d _, _, h => Rep.mono e h
  | .loc _, _, ⟨a, h, q⟩ => ⟨a, get_of_prefix p h, q⟩
  | .slot _, _, h => h
theorem RepFR.mono (e : Same F F') (p : μ <+: μ') : ∀ {r : List (Str × R)} {v : List (Str × V)}, RepFR K w F μ r v → RepFR K w F' μ' r v
  | _, _, .nil => .nil
  | _, _, .cons h r => .cons (h.mono e p) (RepFR.mono e p r)
theorem RepRs.mono {σ : L2.St} (e : Same F F') (p : μ <+: μ') : ∀ {r : List R} {v : List V}, RepRs K w F μ σ r v → RepRs K w F' μ' σ r v
  | _, _, .nil => .nil
  | _, _, .cons h r => .cons (h.mono e p) (RepRs.mono e p r)
theorem RepFR.get : ∀ {ds : List (Str × R)} {vs : List (Str × V)} {f : Str} {r : R}, RepFR K w F μ ds vs → ds.lookup f = some r → ∃ v, vs.lookup f = some v ∧ RepR K w F μ [] r v
  | _, _, _, _, .nil, e => by simp at e
  | _, _, f, d, .cons (x := x) h r, e => by
    rw [List.lookup_cons] at e ⊢
    cases hb : f == x with
    | true => rw [hb] at e; cases e; exact ⟨_, rfl, h⟩
    | false =>
      rw [hb] at e
      exact RepFR.get r e
theorem RepFR.none : ∀ {ds : List (Str × R)} {vs : List (Str × V)} {f : Str}, RepFR K w F μ ds vs → ds.lookup f = Option.none → vs.lookup f = Option.none
  | _, _, _, .nil, e => rfl
  | _, _, f, .cons (x := x) h r, e => by
    rw [List.lookup_cons] at e ⊢
    cases hb : f == x with
    | true => rw [hb] at e; cases e
    | false =>
      rw [hb] at e
      exact RepFR.none r e
theorem RepFR.length : ∀ {ds : List (Str × R)} {vs : List (Str × V)}, RepFR K w F μ ds vs → ds.length = vs.length
  | _, _, .nil => rfl
  | _, _, .cons _ r => congrArg Nat.succ (RepFR.length r)
theorem RepRs.length {σ : L2.St} : ∀ {ds : List R} {vs : List V}, RepRs K w F μ σ ds vs → ds.length = vs.length
  | _, _, .nil => rfl
  | _, _, .cons _ r => congrArg Nat.succ (RepRs.length r)
def putR (f : Str) (v : R) : List (Str × R) → List (Str × R)
  | [] => [(f, v)]
  | (g, u) :: r => if g = f then (f, v) :: r else (g, u) :: putR f v r
theorem RepFR.put {f : Str} {r : R} {v : V} (h : RepR K w F μ [] r v) : ∀ {ds : List (Str × R)} {vs : List (Str × V)}, RepFR K w F μ ds vs → RepFR K w F μ (putR f r ds) (putF f v vs)
  | _, _, .nil => .cons h .nil
  | _, _, .cons (x := x) g q => by
    unfold putR putF
    by_cases e : x = f
    · subst e; rw [if_pos rfl, if_pos rfl]; exact .cons h q
    · rw [if_neg e, if_neg e]; exact .cons g (RepFR.put h q)
end

/-! ### steps -/
/-- nothing that was tracked is changed; what is frozen newly was free -/
structure Step (F H F' H' : Hp) : Prop where
  f : Same F F'
  h : Same H H'
  le : Same F' H'
  new : ∀ a, F' a ≠ none → F a = none → H a = none
theorem Step.refl {F H : Hp} (e : Same F H) : Step F H F H := ⟨Same.refl _, Same.refl _, e, fun _ h1 h2 => absurd h2 h1⟩
theorem Step.trans {F H F1 H1 F2 H2 : Hp} (a : Step F H F1 H1) (b : Step F1 H1 F2 H2) : Step F H F2 H2 :=
  ⟨a.f.trans b.f, a.h.trans b.h, b.le, fun c h1 h2 => by
    cases q : F1 c with
    | none =>
      have z := b.new c h1 q
      exact a.h.free z
    | some o => exact a.new c (by rw [q]; exact fun z => nomatch z) h2⟩
theorem upd_le {F H : Hp} (e : Same F H) (p : Addr) (o : HO) : Same (upd F p o) (upd H p o) := fun b u q => by
  by_cases h : b = p
  · subst h; rw [upd_same] at q ⊢; exact q
  · rw [upd_ne h] at q ⊢; exact e b u q
theorem same_upd {H : Hp} {p : Addr} {o : HO} (h : H p = none) : Same H (upd H p o) := fun b u q => by
  rw [upd_ne (ne_of_none q h)]; exact q
theorem Step.new1 {F H : Hp} (e : Same F H) {p : Addr} (h : H p = none) (o : HO) : Step F H (upd F p o) (upd H p o) :=
  ⟨same_upd (e.free h), same_upd h, upd_le e p o, fun a h1 h2 => by
    by_cases q : a = p
    · rw [q]; exact h
    · rw [upd_ne q] at h1; exact absurd h2 h1⟩
/-- a tracked object that is not frozen (a fresh list of a comprehension ..) is frozen now -/
theorem Step.fz {F H : Hp} (e : Same F H) {p : Addr} {o : HO} (h : H p = some o) (hf : F p = none) : Same (upd F p o) H ∧ Same F (upd F p o) :=
  ⟨fun b u q => by
    by_cases z : b = p
    · subst z; rw [upd_same] at q; rw [h]; exact q
    · rw [upd_ne z] at q; exact e b u q, same_upd hf⟩
/-- .. with calls: cells may change, be frozen, come -/
structure Grow (F H F' H' : Hp) (μ μ' : List Addr) : Prop where
  f : Same F F'
  p : μ <+: μ'
  h : ∀ a o, H a = some o → a ∉ μ → H' a = some o
  nf : ∀ a, F' a ≠ none → F a = none → a ∉ μ → H a = none
  nm : ∀ a, a ∈ μ' → a ∉ μ → H a = none
theorem Step.grow {F H F' H' : Hp} {μ : List Addr} (s : Step F H F' H') : Grow F H F' H' μ μ :=
  ⟨s.f, List.prefix_rfl, fun a o e _ => s.h a o e, fun a h1 h2 _ => s.new a h1 h2, fun a h1 h2 => absurd h1 h2⟩
theorem Grow.refl {F H : Hp} {μ : List Addr} : Grow F H F H μ μ := ⟨Same.refl _, List.prefix_rfl, fun _ _ e _ => e, fun _ h1 h2 => absurd h2 h1, fun a h1 h2 => absurd h1 h2⟩
theorem Grow.trans {F H F1 H1 F2 H2 : Hp} {μ μ1 μ2 : List Addr} (a : Grow F H F1 H1 μ μ1) (b : Grow F1 H1 F2 H2 μ1 μ2) : Grow F H F2 H2 μ μ2 := by
  have back : ∀ c, c ∉ μ → H1 c = none → H c = none := fun c hc e => by
    cases q : H c with
    | none => rfl
    | some o => rw [a.h c o q hc] at e; cases e
  have hm : ∀ c, c ∉ μ → ∀ o, H c = some o → c ∉ μ1 := fun c hc o e hm => by rw [a.nm c hm hc] at e; cases e
  refine ⟨a.f.trans b.f, a.p.trans b.p, fun c o e hc => b.h c o (a.h c o e hc) (hm c hc o e), fun c h1 h2 hc => ?_, fun c h1 h2 => ?_⟩
  · cases q : F1 c with
    | some o => exact a.nf c (by rw [q]; exact fun z => nomatch z) h2 hc
    | none =>
      by_cases m : c ∈ μ1
      · exact a.nm c m hc
      · exact back c hc (b.nf c h1 q m)
  · by_cases m : c ∈ μ1
    · exact a.nm c m h2
    · exact back c h2 (b.nm c h1 m)
section
variable {K : PySem.W.Frag} {w : World} {F F' H H' : Hp} {μ μ' : List Addr} {S S' : Sto}
theorem CellOk.step {a : Addr} {c : Cell} (st : Step F H F' H') (th : H a ≠ none) (k : CellOk K w F μ H a c) (p : μ <+: μ') : CellOk K w F' μ' H' a c := by
  have nf : F a = none → F' a = none := fun h => by
    cases q : F' a with
    | none => rfl
    | some o => exact absurd (st.new a (by rw [q]; exact fun z => nomatch z) h) th
  cases c with
  | lst ds => obtain ⟨h1, xs, h2, r⟩ := k; exact ⟨nf h1, xs, st.h _ _ h2, r.mono st.f⟩
  | dic kvs => obtain ⟨h1, xs, h2, r⟩ := k; exact ⟨nf h1, xs, st.h _ _ h2, r.mono st.f⟩
  | dit kvs => obtain ⟨h1, xs, h2, r, z⟩ := k; exact ⟨nf h1, xs, st.h _ _ h2, r.mono st.f, z⟩
  | ins C fs => obtain ⟨h1, dx, vs, h2, r⟩ := k; exact ⟨nf h1, dx, vs, st.h _ _ h2, r.mono st.f p⟩
  | frz x => exact Rep.mono st.f k
theorem Rel.step (r : Rel K w F μ S H) (st : Step F H F' H') : Rel K w F' μ S H' :=
  ⟨st.le, r.nd, r.len, fun a ha q => r.there a ha (st.h.free q), fun n a c h1 h2 => (r.cell n a c h1 h2).step st (r.there a (List.mem_of_getElem? h1)) List.prefix_rfl⟩
theorem Rel.lt (r : Rel K w F μ S H) {n : Nat} {a : Addr} (h : μ[n]? = some a) : n < S.length := by
  rw [← r.len]; exact (List.getElem?_eq_some_iff.mp h).1
/-- a new cell -/
theorem Rel.alloc (r : Rel K w F μ S H) {p : Addr} {o : HO} {c : Cell} (hp : H p = none) (k : CellOk K w F (μ ++ [p]) (upd H p o) p c) : Rel K w F (μ ++ [p]) (S ++ [c]) (upd H p o) := by
  have hF : F p = none := r.le.free hp
  have np : p ∉ μ := fun h => r.there p h hp
  have st : Step F H F (upd H p o) := ⟨Same.refl _, same_upd hp, r.le.trans (same_upd hp), fun _ h1 h2 => absurd h2 h1⟩
  refine ⟨st.le, ?_, by simp [r.len], fun a ha => ?_, fun n a d h1 h2 => ?_⟩
  · refine List.nodup_append.mpr ⟨r.nd, by simp, fun a ha b hb e => np ?_⟩
    have : b = p := by simpa using hb
    rw [← this, ← e]; exact ha
  · rcases List.mem_append.mp ha with h | h
    · exact fun q => r.there a h (st.h.free q)
    · have : a = p := by simpa using h
      rw [this, upd_same]; exact fun z => nomatch z
  · by_cases hn : n < μ.length
    · rw [List.getElem?_append_left hn] at h1
      rw [List.getElem?_append_left (by rw [← r.len]; exact hn)] at h2
      exact (r.cell n a d h1 h2).step st (r.there a (List.mem_of_getElem? h1)) (List.prefix_append _ _)
    · have h3 := (List.getElem?_eq_some_iff.mp h1).1
      have e : n = μ.length := by simp at h3; omega
      subst e
      rw [List.getElem?_append_right (Nat.le_refl _)] at h1
      rw [r.len, List.getElem?_append_right (Nat.le_refl _)] at h2
      simp at h1 h2
      subst h1 h2
      exact k
/-- the cell n is changed -/
theorem Rel.put (r : Rel K w F μ S H) {n : Nat} {a : Addr} {o : HO} {c : Cell} (hn : μ[n]? = some a) (hF : F a = none) (k : CellOk K w F μ (upd H a o) a c) : Rel K w F μ (S.set n c) (upd H a o) := by
  have ne : ∀ b u, F b = some u → b ≠ a := fun b u q z => by rw [z, hF] at q; cases q
  refine ⟨fun b u q => by rw [upd_ne (ne b u q)]; exact r.le b u q, r.nd, by simp [r.len], fun b hb => ?_, fun m b d h1 h2 => ?_⟩
  · by_cases z : b = a
    · rw [z, upd_same]; exact fun z => nomatch z
    · rw [upd_ne z]; exact r.there b hb
  · by_cases e : m = n
    · subst e
      rw [hn] at h1; cases h1
      rw [List.getElem?_set_self (r.lt hn)] at h2; cases h2
      exact k
    · rw [List.getElem?_set_ne (Ne.symm e)] at h2
      have nb : b ≠ a := fun z => by
        subst z
        exact e ((List.getElem?_inj (List.getElem?_eq_some_iff.mp h1).1 r.nd).mp (h1.trans hn.symm))
      have q := r.cell m b d h1 h2
      cases d with
      | lst ds => obtain ⟨g1, xs, g2, g⟩ := q; exact ⟨g1, xs, by rw [upd_ne nb]; exact g2, g⟩
      | dic kvs => obtain ⟨g1, xs, g2, g⟩ := q; exact ⟨g1, xs, by rw [upd_ne nb]; exact g2, g⟩
      | dit kvs => obtain ⟨g1, xs, g2, g⟩ := q; exact ⟨g1, xs, by rw [upd_ne nb]; exact g2, g⟩
      | ins C fs => obtain ⟨g1, dx, xs, g2, g⟩ := q; exact ⟨g1, dx, xs, by rw [upd_ne nb]; exact g2, g⟩
      | frz x => exact q
/-- the cell n is frozen -/
theorem Rel.freeze (r : Rel K w F μ S H) {n : Nat} {a : Addr} {o : HO} {x : D} (hn : μ[n]? = some a) (hF : F a = none) (ho : H a = some o) (k : Rep K w (upd F a o) x (.ref a)) : Rel K w (upd F a o) μ (S.set n (.frz x)) H := by
  obtain ⟨h1, h2⟩ := Step.fz r.le ho hF
  refine ⟨h1, r.nd, by simp [r.len], r.there, fun m b d g1 g2 => ?_⟩
  by_cases e : m = n
  · subst e
    rw [hn] at g1; cases g1
    rw [List.getElem?_set_self (r.lt hn)] at g2; cases g2
    exact k
  · rw [List.getElem?_set_ne (Ne.symm e)] at g2
    have nb : b ≠ a := fun z => by
      subst z
      exact e ((List.getElem?_inj (List.getElem?_eq_some_iff.mp g1).1 r.nd).mp (g1.trans hn.symm))
    have q := r.cell m b d g1 g2
    have nf : ∀ {P : Prop}, F b = none ∧ P → upd F a o b = none := fun z => by rw [upd_ne nb]; exact z.1
    cases d with
    | lst ds => exact ⟨nf q, q.2.imp fun xs g => ⟨g.1, g.2.mono h2⟩⟩
    | dic kvs => exact ⟨nf q, q.2.imp fun xs g => ⟨g.1, g.2.mono h2⟩⟩
    | dit kvs => exact ⟨nf q, q.2.imp fun xs g => ⟨g.1, g.2.1.mono h2, g.2.2⟩⟩
    | ins C fs => exact ⟨nf q, q.2.imp fun dx g => g.imp fun xs g => ⟨g.1, g.2.mono h2 List.prefix_rfl⟩⟩
    | frz x => exact Rep.mono h2 q
/-- the cells behind the n-th are forgotten; no field of an instance ahead may hold one of them -/
def noLoc (n : Nat) : R → Bool
  | .d _ => true
  | .loc m => decide (m < n)
  | .slot _ => false
def cellLoc (n : Nat) : Cell → Bool
  | .ins _ fs => fs.all fun p => noLoc n p.2
  | _ => true
theorem RepFR.take {n : Nat} : ∀ {fs : List (Str × R)} {vs : List (Str × V)}, RepFR K w F μ fs vs → (fs.all fun p => noLoc n p.2) = true → RepFR K w F (μ.take n) fs vs
  | _, _, .nil, _ => .nil
  | _, _, .cons (r := r) h q, e => by
    simp only [List.all_cons, Bool.and_eq_true] at e
    refine .cons ?_ (RepFR.take q e.2)
    cases r with
    | d x => exact h
    | loc m =>
      obtain ⟨a, h1, h2⟩ := h
      refine ⟨a, ?_, h2⟩
      have hm : m < n := of_decide_eq_true e.1
      rw [List.getElem?_take_of_lt hm]; exact h1
    | slot i => cases e.1
theorem Rel.cut (r : Rel K w F μ S H) (n : Nat) (h : ((S.take n).all (cellLoc n)) = true) : Rel K w F (μ.take n) (S.take n) H := by
  refine ⟨r.le, r.nd.sublist (List.take_sublist _ _), by simp [r.len], fun a ha => r.there a (List.mem_of_mem_take ha), fun m a c h1 h2 => ?_⟩
  have hc : c ∈ S.take n := List.mem_of_getElem? h2
  have hl := List.all_eq_true.mp h c hc
  have hm : m < n := by
    have := (List.getElem?_eq_some_iff.mp h2).1
    simp at this; omega
  rw [List.getElem?_take_of_lt hm] at h1 h2
  have q := r.cell m a c h1 h2
  cases c with
  | lst ds => exact q
  | dic kvs => exact q
  | dit kvs => exact q
  | ins C fs => exact ⟨q.1, q.2.imp fun dx g => g.imp fun vs g => ⟨g.1, g.2.take hl⟩⟩
  | frz x => exact q
end

section
variable {K : PySem.W.Frag} {w : World} {F F' H H' : Hp} {μ μ' : List Addr} {S S' : Sto}
theorem Grow.alloc (r : Rel K w F μ S H) {p : Addr} (o : HO) (hp : H p = none) : Grow F H F (upd H p o) μ (μ ++ [p]) :=
  ⟨Same.refl _, List.prefix_append _ _, fun a u e _ => same_upd hp a u e, fun _ h1 h2 => absurd h2 h1, fun a h1 h2 => by
    rcases List.mem_append.mp h1 with h | h
    · exact absurd h h2
    · have : a = p := by simpa using h
      rw [this]; exact hp⟩
theorem Grow.put {n : Nat} {a : Addr} (o : HO) (hn : μ[n]? = some a) : Grow F H F (upd H a o) μ μ :=
  ⟨Same.refl _, List.prefix_rfl, fun b u e hb => by
    rw [upd_ne (fun z => hb (by rw [z]; exact List.mem_of_getElem? hn))]; exact e, fun _ h1 h2 => absurd h2 h1, fun a h1 h2 => absurd h1 h2⟩
theorem Grow.freeze {n : Nat} {a : Addr} (o : HO) (hn : μ[n]? = some a) (hF : F a = none) : Grow F H (upd F a o) H μ μ :=
  ⟨same_upd hF, List.prefix_rfl, fun _ _ e _ => e, fun b h1 h2 hb => by
    have : b ≠ a := fun z => hb (by rw [z]; exact List.mem_of_getElem? hn)
    rw [upd_ne this] at h1; exact absurd h2 h1, fun a h1 h2 => absurd h1 h2⟩
/-- a live cell that the steps did not touch -/
theorem CellOk.grow {a : Addr} {c : Cell} (g : Grow F H F' H' μ μ') (th : H a ≠ none) (hm : a ∉ μ) (hF : F a = none) (k : CellOk K w F μ H a c) : CellOk K w F' μ' H' a c := by
  have nf : F' a = none := by
    cases q : F' a with
    | none => rfl
    | some o => exact absurd (g.nf a (by rw [q]; exact fun z => nomatch z) hF hm) th
  cases c with
  | lst ds => obtain ⟨h1, xs, h2, r⟩ := k; exact ⟨nf, xs, g.h _ _ h2 hm, r.mono g.f⟩
  | dic kvs => obtain ⟨h1, xs, h2, r⟩ := k; exact ⟨nf, xs, g.h _ _ h2 hm, r.mono g.f⟩
  | dit kvs => obtain ⟨h1, xs, h2, r, z⟩ := k; exact ⟨nf, xs, g.h _ _ h2 hm, r.mono g.f, z⟩
  | ins C fs => obtain ⟨h1, dx, vs, h2, r⟩ := k; exact ⟨nf, dx, vs, g.h _ _ h2 hm, r.mono g.f g.p⟩
  | frz x => exact Rep.mono g.f k

/-- the frame: what each name holds -/
structure RelFr (K : PySem.W.Frag) (w : World) (F : Hp) (μ : List Addr) (H : Hp) (ρ : Fr) (σ : L2.St) : Prop where
  len : ρ.length = σ.length
  r : ∀ (i : Nat) (x : R), ρ[i]? = some (some (.r x)) → ∃ v, σ[i]? = some (some v) ∧ RepR K w F μ [] x v
  own : ∀ (i : Nat) (c : Cell), ρ[i]? = some (some (.own c)) → ∃ a, σ[i]? = some (some (.ref a)) ∧ a ∉ μ ∧ F a = none ∧ H a ≠ none ∧ CellOk K w F μ H a c
  dist : ∀ (i j : Nat) (c d : Cell) (a : Addr), ρ[i]? = some (some (.own c)) → ρ[j]? = some (some (.own d)) → σ[i]? = some (some (.ref a)) → σ[j]? = some (some (.ref a)) → i = j
theorem RelFr.grow {ρ : Fr} {σ : L2.St} (g : Grow F H F' H' μ μ') (x : RelFr K w F μ H ρ σ) : RelFr K w F' μ' H' ρ σ := by
  refine ⟨x.len, fun i y e => (x.r i y e).imp fun v z => ⟨z.1, z.2.mono g.f g.p⟩, fun i c e => ?_, x.dist⟩
  obtain ⟨a, h1, h2, h3, h4, h5⟩ := x.own i c e
  refine ⟨a, h1, fun hm => h4 (g.nm a hm h2), ?_, ?_, h5.grow g h4 h2 h3⟩
  · cases q : F' a with
    | none => rfl
    | some o => exact absurd (g.nf a (by rw [q]; exact fun z => nomatch z) h3 h2) h4
  · cases q : H a with
    | none => exact absurd q h4
    | some o => rw [g.h a o q h2]; exact fun z => nomatch z
end
end MM
namespace MM
open PySem PySem.Spec PyProof.Rows L2

inductive Out (α : Type) where
  | ok (a : α) | ex (c : Str) (fs : List (Str × D))
  deriving Inhabited
abbrev GM (α : Type) := Fr → Sto → Option (Out α × Sto)
abbrev EM := GM R
abbrev AM := GM (List R)
abbrev TM := GM Bool
abbrev FM := List R → Sto → Option (Out R × Sto)
inductive Flo where
  | nx | rt (r : R) | bk | ct | ex (c : Str) (fs : List (Str × D))
  deriving Inhabited
abbrev SM := Fr → Sto → Option (Flo × Fr × Sto)

def bindM {α β : Type} (m : GM α) (f : α → GM β) : GM β := fun ρ S => match m ρ S with
  | none => none
  | some (.ex c fs, S') => some (.ex c fs, S')
  | some (.ok a, S') => f a ρ S'
def pureM {α : Type} (a : α) : GM α := fun _ S => some (.ok a, S)
def failM {α : Type} : GM α := fun _ _ => none

/-- an exception's own dict -/
def ExD (K : PySem.W.Frag) (w : World) (F : Hp) (d : Option Addr) (fs : List (Str × D)) : Prop := (d = none ∧ fs = []) ∨ ∃ dx vs, d = some dx ∧ F dx = some (.xd vs) ∧ RepFs K w F fs vs
section
variable {K : PySem.W.Frag} {w : World} {F F' H H' : Hp} {μ μ' : List Addr} {S S' : Sto} {ρ : Fr} {σ : L2.St}
theorem ExD.mono (e : Same F F') {d : Option Addr} {fs : List (Str × D)} (h : ExD K w F d fs) : ExD K w F' d fs := by
  rcases h with h | ⟨dx, vs, h1, h2, h3⟩
  · exact .inl h
  · exact .inr ⟨dx, vs, h1, e _ _ h2, h3.mono e⟩
end

/-- what is wanted of an answer -/
def coreAt {α β : Type} (K : PySem.W.Frag) (w : World) (Rp : L2.St → Hp → List Addr → α → β → Prop) (W : WX) (res : Option (Out α × Sto)) (F : Hp) (μ : List Addr) (σ : L2.St) (H : Hp) (Q : β → Hp → Prop) : Prop :=
  ∃ o S', res = some (o, S') ∧ match o with
    | .ok a => ∀ F' μ' H' v, Grow F H F' H' μ μ' → Rel K w F' μ' S' H' → Rp σ F' μ' a v → Q v H'
    | .ex c fs => ∀ F' μ' H' d, Grow F H F' H' μ μ' → Rel K w F' μ' S' H' → ExD K w F' d fs → W (.ref (He.ga K c)) d σ H'
def core {α β : Type} (K : PySem.W.Frag) (w : World) (Rp : L2.St → Hp → List Addr → α → β → Prop) (W : WX) (m : GM α) : L2.St → Hp → (β → Hp → Prop) → Prop :=
  fun σ H Q => ∃ F μ ρ S, Rel K w F μ S H ∧ RelFr K w F μ H ρ σ ∧ coreAt K w Rp W (m ρ S) F μ σ H Q
def MonoR {γ δ : Type} (Ra : L2.St → Hp → List Addr → γ → δ → Prop) : Prop := ∀ σ F F' μ μ' a x, Same F F' → μ <+: μ' → Ra σ F μ a x → Ra σ F' μ' a x
section
variable {α β γ δ ε ζ : Type} {K : PySem.W.Frag} {w : World} {Rp : L2.St → Hp → List Addr → α → β → Prop} {Ra : L2.St → Hp → List Addr → γ → δ → Prop} {Rb : L2.St → Hp → List Addr → ε → ζ → Prop} {W : WX} {F F' H H' : Hp} {μ μ' : List Addr} {S S' : Sto} {ρ : Fr} {σ : L2.St}
theorem coreAt.mono {res : Option (Out α × Sto)} {Q : β → Hp → Prop} (g : Grow F H F' H' μ μ') (h : coreAt K w Rp W res F μ σ H Q) : coreAt K w Rp W res F' μ' σ H' Q := by
  obtain ⟨o, S', h1, h2⟩ := h
  refine ⟨o, S', h1, ?_⟩
  cases o with
  | ok a => exact fun F2 μ2 H2 v a1 a3 a4 => h2 F2 μ2 H2 v (g.trans a1) a3 a4
  | ex c fs => exact fun F2 μ2 H2 v a1 a3 a4 => h2 F2 μ2 H2 v (g.trans a1) a3 a4
theorem coreAt.imp {res : Option (Out α × Sto)} {Q Q' : β → Hp → Prop} (h : coreAt K w Rp W res F μ σ H Q) (g : ∀ v H, Q v H → Q' v H) : coreAt K w Rp W res F μ σ H Q' := by
  obtain ⟨o, S', h1, h2⟩ := h
  refine ⟨o, S', h1, ?_⟩
  cases o with
  | ok a => exact fun F2 μ2 H2 v a1 a3 a4 => g _ _ (h2 F2 μ2 H2 v a1 a3 a4)
  | ex c fs => exact h2
theorem core.imp {m : GM α} {Q Q' : β → Hp → Prop} (h : core K w Rp W m σ H Q) (g : ∀ v H, Q v H → Q' v H) : core K w Rp W m σ H Q' := by
  obtain ⟨F, μ, ρ, S, h1, h2, h3⟩ := h
  exact ⟨F, μ, ρ, S, h1, h2, h3.imp g⟩
theorem core_bind {m : GM γ} {f : γ → GM α} {Q : β → Hp → Prop} (h : core K w Rp W (bindM m f) σ H Q) :
    core K w Ra W m σ H (fun x H1 => ∃ a F μ ρ S, Rel K w F μ S H1 ∧ RelFr K w F μ H1 ρ σ ∧ Ra σ F μ a x ∧ coreAt K w Rp W (f a ρ S) F μ σ H1 Q) := by
  obtain ⟨F, μ, ρ, S, h1, h2, h3⟩ := h
  refine ⟨F, μ, ρ, S, h1, h2, ?_⟩
  obtain ⟨o, S', h4, h5⟩ := h3
  unfold bindM at h4
  cases q : m ρ S with
  | none => rw [q] at h4; cases h4
  | some r =>
    obtain ⟨o1, S1⟩ := r
    rw [q] at h4
    cases o1 with
    | ok a => exact ⟨.ok a, S1, rfl, fun F' μ' H' v g r z => ⟨a, F', μ', ρ, S1, r, h2.grow g, z, coreAt.mono g ⟨o, S', h4, h5⟩⟩⟩
    | ex c fs =>
      cases h4
      exact ⟨.ex c fs, _, rfl, h5⟩
theorem core_bin {ma : GM γ} {mb : GM ε} {g : γ → ε → GM α} {Q : β → Hp → Prop} (hm : MonoR Ra) (h : core K w Rp W (bindM ma fun a => bindM mb fun b => g a b) σ H Q) :
    core K w Ra W ma σ H (fun x H1 => core K w Rb W mb σ H1 (fun y H2 => ∃ a b F μ ρ S, Rel K w F μ S H2 ∧ RelFr K w F μ H2 ρ σ ∧ Ra σ F μ a x ∧ Rb σ F μ b y ∧ coreAt K w Rp W (g a b ρ S) F μ σ H2 Q)) := by
  refine (core_bind (Ra := Ra) h).imp fun x H1 ⟨a, F, μ, ρ, S, h1, h2, h3, h4⟩ => ?_
  obtain ⟨o, S', h5, h6⟩ := h4
  refine ⟨F, μ, ρ, S, h1, h2, ?_⟩
  unfold bindM at h5
  cases q : mb ρ S with
  | none => rw [q] at h5; cases h5
  | some r =>
    obtain ⟨o1, S1⟩ := r
    rw [q] at h5
    cases o1 with
    | ok b => exact ⟨.ok b, S1, rfl, fun F' μ' H' v e r z => ⟨a, b, F', μ', ρ, S1, r, h2.grow e, hm _ _ _ _ _ _ _ e.f e.p h3, z, coreAt.mono e ⟨o, S', h5, h6⟩⟩⟩
    | ex c fs =>
      cases h5
      exact ⟨.ex c fs, _, rfl, h6⟩
/-- an answer at once -/
theorem coreAt.ok {a : α} {Q : β → Hp → Prop} (h : coreAt K w Rp W (some (.ok a, S)) F μ σ H Q) {F' : Hp} {μ' : List Addr} {H' : Hp} {v : β} (e : Grow F H F' H' μ μ') (r : Rel K w F' μ' S H') (z : Rp σ F' μ' a v) : Q v H' := by
  obtain ⟨o, S', h1, h2⟩ := h
  cases h1
  exact h2 F' μ' H' v e r z
theorem coreAt.none_ {P : Prop} {Q : β → Hp → Prop} (h : coreAt K w Rp W none F μ σ H Q) : P := by
  obtain ⟨o, S', h1, h2⟩ := h
  cases h1
end
theorem monoR {K : PySem.W.Frag} {w : World} : MonoR (fun σ F μ => RepR K w F μ σ) := fun _ _ _ _ _ _ _ e p h => h.mono e p
theorem monoRs {K : PySem.W.Frag} {w : World} : MonoR (fun σ F μ => RepRs K w F μ σ) := fun _ _ _ _ _ _ _ e p h => h.mono e p
abbrev RB : L2.St → Hp → List Addr → Bool → Bool → Prop := fun _ _ _ a b => a = b

abbrev tE (K : PySem.W.Frag) (w : World) (W : WX) (m : EM) : TE := core K w (fun σ F μ => RepR K w F μ σ) W m
abbrev tT (K : PySem.W.Frag) (w : World) (W : WX) (m : TM) : TT := core K w RB W m
abbrev tA (K : PySem.W.Frag) (w : World) (W : WX) (m : AM) : TA := core K w (fun σ F μ => RepRs K w F μ σ) W m
abbrev ME (X : Cx) (W : WX) (e : Expr) (m : EM) : Prop := PE X e (tE X.K X.w W m)
abbrev MT (X : Cx) (W : WX) (e : Expr) (m : TM) : Prop := PT X e (tT X.K X.w W m)
abbrev MW (X : Cx) (W : WX) (e : Expr) (m : TM) : Prop := PW X e (tT X.K X.w W m)
abbrev MA (X : Cx) (W : WX) (es : List Expr) (m : AM) : Prop := PA X es (tA X.K X.w W m)
theorem PE.imp {X : Cx} {e : Expr} {t t' : TE} (h : PE X e t) (g : ∀ σ H Q, t' σ H Q → t σ H Q) : PE X e t' := ⟨fun pins s σ H Q I q => h.run pins s σ H Q I (g σ H Q q)⟩
theorem PT.imp {X : Cx} {e : Expr} {t t' : TT} (h : PT X e t) (g : ∀ σ H Q, t' σ H Q → t σ H Q) : PT X e t' := ⟨fun pins s σ H Q I q => h.run pins s σ H Q I (g σ H Q q)⟩
theorem PW.imp {X : Cx} {e : Expr} {t t' : TT} (h : PW X e t) (g : ∀ σ H Q, t' σ H Q → t σ H Q) : PW X e t' := ⟨fun wh pins s σ H Q I q => h.run wh pins s σ H Q I (g σ H Q q)⟩
theorem PA.imp {X : Cx} {e : List Expr} {t t' : TA} (h : PA X e t) (g : ∀ σ H Q, t' σ H Q → t σ H Q) : PA X e t' := ⟨fun pos pins s σ H Q I q => h.run pos pins s σ H Q I (g σ H Q q)⟩
theorem PS.imp {X : Cx} {e : Stmt} {t t' : TS} (h : PS X e t) (g : ∀ D σ H, t' D σ H → t D σ H) : PS X e t' := ⟨fun pins s σ H D I q => h.run pins s σ H D I (g D σ H q)⟩
theorem PSs.imp {X : Cx} {e : List Stmt} {t t' : TS} (h : PSs X e t) (g : ∀ D σ H, t' D σ H → t D σ H) : PSs X e t' := ⟨fun pins s σ H D I q => h.run pins s σ H D I (g D σ H q)⟩

/-! ### statements -/
/-- the def's entry -/
structure Bs where
  F : Hp
  H : Hp
  μ : List Addr
structure StOk (K : PySem.W.Frag) (w : World) (B : Bs) (F : Hp) (μ : List Addr) (ρ : Fr) (S : Sto) (σ : L2.St) (H : Hp) : Prop where
  rel : Rel K w F μ S H
  fr : RelFr K w F μ H ρ σ
  gr : Grow B.F B.H F H B.μ μ
  ow : ∀ (i : Nat) (c : Cell) (a : Addr), ρ[i]? = some (some (.own c)) → σ[i]? = some (some (.ref a)) → B.H a = none
def flowAt (K : PySem.W.Frag) (w : World) (W : WX) (res : Option (Flo × Fr × Sto)) (B : Bs) (F : Hp) (D : Ends) : Prop :=
  ∃ fl ρ' S', res = some (fl, ρ', S') ∧ ∀ F' μ' σ' H', Same F F' → StOk K w B F' μ' ρ' S' σ' H' → match fl with
    | .nx => D.nx σ' H'
    | .rt r => ∀ v, RepR K w F' μ' σ' r v → D.rt v H'
    | .bk => D.bk σ' H'
    | .ct => D.ct σ' H'
    | .ex c fs => ∀ d, ExD K w F' d fs → W (.ref (He.ga K c)) d σ' H'
def tS (K : PySem.W.Frag) (w : World) (W : WX) (m : SM) : TS := fun D σ H => ∃ B F μ ρ S, StOk K w B F μ ρ S σ H ∧ flowAt K w W (m ρ S) B F D
abbrev MS (X : Cx) (W : WX) (st : Stmt) (m : SM) : Prop := PS X st (tS X.K X.w W m)
abbrev MSs (X : Cx) (W : WX) (st : List Stmt) (m : SM) : Prop := PSs X st (tS X.K X.w W m)
section
variable {K : PySem.W.Frag} {w : World} {W : WX} {F F' H H' : Hp} {μ μ' : List Addr} {S S' : Sto} {ρ : Fr} {σ : L2.St} {D D' : Ends} {B : Bs}
theorem StOk.grow (x : StOk K w B F μ ρ S σ H) (g : Grow F H F' H' μ μ') (r : Rel K w F' μ' S' H') : StOk K w B F' μ' ρ S' σ H' := ⟨r, x.fr.grow g, x.gr.trans g, x.ow⟩
theorem flowAt.mono {res : Option (Flo × Fr × Sto)} (e : Same F F') (h : flowAt K w W res B F D) : flowAt K w W res B F' D := by
  obtain ⟨fl, ρ', S', h1, h2⟩ := h
  exact ⟨fl, ρ', S', h1, fun F2 μ2 σ2 H2 a => h2 F2 μ2 σ2 H2 (e.trans a)⟩
theorem flowAt.none_ {P : Prop} (h : flowAt K w W none B F D) : P := by
  obtain ⟨fl, ρ', S', h1, h2⟩ := h
  cases h1
/-- an expression, then what follows with its value -/
def thenM {α : Type} (m : GM α) (f : α → SM) : SM := fun ρ S => match m ρ S with
  | none => none
  | some (.ex c fs, S') => some (.ex c fs, ρ, S')
  | some (.ok a, S') => f a ρ S'
theorem flow_then {α β : Type} {Ra : L2.St → Hp → List Addr → α → β → Prop} {m : GM α} {f : α → SM} (h : tS K w W (thenM m f) D σ H) :
    core K w Ra W m σ H (fun x H1 => ∃ a B F μ ρ S, StOk K w B F μ ρ S σ H1 ∧ Ra σ F μ a x ∧ flowAt K w W (f a ρ S) B F D) := by
  obtain ⟨B, F, μ, ρ, S, h1, fl, ρ', S', h3, h4⟩ := h
  refine ⟨F, μ, ρ, S, h1.rel, h1.fr, ?_⟩
  unfold thenM at h3
  cases q : m ρ S with
  | none => rw [q] at h3; cases h3
  | some r =>
    obtain ⟨o1, S1⟩ := r
    rw [q] at h3
    cases o1 with
    | ok a => exact ⟨.ok a, S1, rfl, fun F' μ' H' v g r z => ⟨a, B, F', μ', ρ, S1, h1.grow g r, z, flowAt.mono g.f ⟨fl, ρ', S', h3, h4⟩⟩⟩
    | ex c fs =>
      cases h3
      exact ⟨.ex c fs, _, rfl, fun F' μ' H' d g r z => h4 F' μ' σ H' g.f (h1.grow g r) d z⟩
theorem flowAt.nx (h : flowAt K w W (some (.nx, ρ, S)) B F D) (x : StOk K w B F μ ρ S σ H) : D.nx σ H := by
  obtain ⟨fl, ρ', S', h1, h2⟩ := h
  cases h1
  exact h2 F μ σ H (Same.refl _) x
end
end MM
namespace MM
open PySem PySem.Spec PyProof.Rows L2

/-! ### looking at a value -/
def cellD : Cell → Option D
  | .lst ds => some (.lst ds)
  | .dic kvs => some (.dic kvs)
  | .dit kvs => some (.dit kvs)
  | .frz x => some x
  | .ins _ _ => none
def peek (ρ : Fr) (S : Sto) : R → Option D
  | .d x => some x
  | .loc n => match S[n]? with
    | some c => cellD c
    | none => none
  | .slot i => match ρ[i]? with
    | some (some (.own c)) => cellD c
    | _ => none
def peeks (ρ : Fr) (S : Sto) : List R → Option (List D)
  | [] => some []
  | r :: rs => match peek ρ S r, peeks ρ S rs with
    | some d, some ds => some (d :: ds)
    | _, _ => none
/-- the value v shows the data d now -/
def PRep (K : PySem.W.Frag) (w : World) (F : Hp) (H : Hp) (d : D) (v : V) : Prop :=
  Rep K w F d v ∨ ∃ c a μ, cellD c = some d ∧ v = .ref a ∧ CellOk K w F μ H a c
inductive PReps (K : PySem.W.Frag) (w : World) (F : Hp) (H : Hp) : List D → List V → Prop
  | nil : PReps K w F H [] []
  | cons {d : D} {ds : List D} {v : V} {vs : List V} : PRep K w F H d v → PReps K w F H ds vs → PReps K w F H (d :: ds) (v :: vs)
section
variable {K : PySem.W.Frag} {w : World} {F F' H H' : Hp} {μ μ' : List Addr} {S S' : Sto} {ρ : Fr} {σ : L2.St}
theorem peek_rep (rel : Rel K w F μ S H) (fr : RelFr K w F μ H ρ σ) {r : R} {v : V} {d : D} (h : RepR K w F μ σ r v) (e : peek ρ S r = some d) : PRep K w F H d v := by
  cases r with
  | d x => cases e; exact .inl h
  | loc n =>
    obtain ⟨a, h1, rfl⟩ := h
    unfold peek at e
    cases q : S[n]? with
    | none => simp [q] at e
    | some c =>
      simp only [q] at e
      exact .inr ⟨c, a, μ, e, rfl, rel.cell n a c h1 q⟩
  | slot i =>
    unfold peek at e
    cases q : ρ[i]? with
    | none => simp [q] at e
    | some o =>
      cases o with
      | none => simp [q] at e
      | some en =>
        cases en with
        | r x => simp [q] at e
        | own c =>
          simp only [q] at e
          obtain ⟨a, h1, h2, h3, h4, h5⟩ := fr.own i c q
          have hv : σ[i]? = some (some v) := h
          rw [h1] at hv
          cases hv
          exact .inr ⟨c, a, μ, e, rfl, h5⟩
theorem peeks_rep (rel : Rel K w F μ S H) (fr : RelFr K w F μ H ρ σ) : ∀ {rs : List R} {vs : List V} {ds : List D}, RepRs K w F μ σ rs vs → peeks ρ S rs = some ds → PReps K w F H ds vs
  | [], _, _, .nil, e => by cases e; exact .nil
  | r :: rs, _, _, .cons h q, e => by
    unfold peeks at e
    cases q1 : peek ρ S r with
    | none => simp [q1] at e
    | some d =>
      cases q2 : peeks ρ S rs with
      | none => simp [q1, q2] at e
      | some ds =>
        simp only [q1, q2, Option.some.injEq] at e
        subst e
        exact .cons (peek_rep rel fr h q1) (peeks_rep rel fr q q2)
/-! views -/
theorem PRep.norm {d : D} {v : V} (h : PRep K w F H d v) : Rep K w F d v ∨ ∃ c a μ, cellD c = some d ∧ (∀ x, c ≠ .frz x) ∧ v = .ref a ∧ CellOk K w F μ H a c := by
  rcases h with h | ⟨c, a, μ, e, rfl, k⟩
  · exact .inl h
  · cases c with
    | frz x => cases e; exact .inl k
    | lst ds => exact .inr ⟨_, a, μ, e, (fun _ z => nomatch z), rfl, k⟩
    | dic ds => exact .inr ⟨_, a, μ, e, (fun _ z => nomatch z), rfl, k⟩
    | dit ds => exact .inr ⟨_, a, μ, e, (fun _ z => nomatch z), rfl, k⟩
    | ins C ds => exact .inr ⟨_, a, μ, e, (fun _ z => nomatch z), rfl, k⟩
theorem PRep.flat {d : D} {v : V} (h : PRep K w F H d v) (n1 : ∀ ds, d ≠ .lst ds) (n2 : ∀ ds, d ≠ .dic ds) (n3 : ∀ ds, d ≠ .dit ds) : Rep K w F d v := by
  rcases h.norm with h | ⟨c, a, μ, e, nf, rfl, k⟩
  · exact h
  · cases c with
    | frz x => exact absurd rfl (nf x)
    | lst ds => cases e; exact absurd rfl (n1 _)
    | dic ds => cases e; exact absurd rfl (n2 _)
    | dit ds => cases e; exact absurd rfl (n3 _)
    | ins C ds => cases e
theorem PRep.int {i : Int} {v : V} (h : PRep K w F H (.int i) v) : v = .int i := by
  cases h.flat (fun _ z => nomatch z) (fun _ z => nomatch z) (fun _ z => nomatch z); rfl
theorem PRep.bl {i : Bool} {v : V} (h : PRep K w F H (.bl i) v) : v = .bl i := by
  cases h.flat (fun _ z => nomatch z) (fun _ z => nomatch z) (fun _ z => nomatch z); rfl
theorem PRep.non {v : V} (h : PRep K w F H .non v) : v = .non := by
  cases h.flat (fun _ z => nomatch z) (fun _ z => nomatch z) (fun _ z => nomatch z); rfl
theorem PRep.str {i : Str} {v : V} (h : PRep K w F H (.str i) v) : v = .str i := by
  cases h.flat (fun _ z => nomatch z) (fun _ z => nomatch z) (fun _ z => nomatch z); rfl
theorem PRep.ty {i : String} {v : V} (h : PRep K w F H (.ty i) v) : v = .ty i := by
  cases h.flat (fun _ z => nomatch z) (fun _ z => nomatch z) (fun _ z => nomatch z); rfl
theorem PRep.gl {i : Str} {v : V} (h : PRep K w F H (.gl i) v) : v = .ref (He.ga K i) := by
  cases h.flat (fun _ z => nomatch z) (fun _ z => nomatch z) (fun _ z => nomatch z); rfl
theorem PRep.tup (le : Same F H) {ds : List D} {v : V} (h : PRep K w F H (.tup ds) v) : ∃ a xs, v = .ref a ∧ SqT K H a xs ∧ RepAll K w F ds xs := by
  cases h.flat (fun _ z => nomatch z) (fun _ z => nomatch z) (fun _ z => nomatch z) with
  | tup hh r => exact ⟨_, _, rfl, Same.seqT le hh, r⟩
theorem PRep.scr (le : Same F H) {ns : List Int} {v : V} (h : PRep K w F H (.scr ns) v) : ∃ a, v = .ref a ∧ SqL K H a (ns.map V.int) := by
  cases h.flat (fun _ z => nomatch z) (fun _ z => nomatch z) (fun _ z => nomatch z) with
  | scr hh => exact ⟨_, rfl, le.seq hh⟩
theorem PRep.obj (le : Same F H) {C : Str} {fs : List (Str × D)} {v : V} (h : PRep K w F H (.obj C fs) v) : ∃ a dx vs, v = .ref a ∧ H a = some (.ins (He.ga K C) dx vs) ∧ RepFs K w F fs vs := by
  cases h.flat (fun _ z => nomatch z) (fun _ z => nomatch z) (fun _ z => nomatch z) with
  | obj hh r => exact ⟨_, _, _, rfl, le _ _ hh, r⟩
theorem PRep.lst (le : Same F H) {ds : List D} {v : V} (h : PRep K w F H (.lst ds) v) : ∃ a xs, v = .ref a ∧ H a = some (.lst xs) ∧ RepAll K w F ds xs := by
  rcases h.norm with h | ⟨c, a, μ, e, nf, rfl, k⟩
  · cases h with
    | lst hh r => exact ⟨_, _, rfl, le _ _ hh, r⟩
  · cases c with
    | frz x => exact absurd rfl (nf x)
    | lst es => cases e; obtain ⟨_, xs, h1, h2⟩ := k; exact ⟨a, xs, rfl, h1, h2⟩
    | _ => cases e
theorem PRep.dic (le : Same F H) {kvs : List (D × D)} {v : V} (h : PRep K w F H (.dic kvs) v) : ∃ a ks, v = .ref a ∧ H a = some (.dK ks) ∧ RepKs K w F kvs ks := by
  rcases h.norm with h | ⟨c, a, μ, e, nf, rfl, k⟩
  · cases h with
    | dic hh r => exact ⟨_, _, rfl, le _ _ hh, r⟩
  · cases c with
    | frz x => exact absurd rfl (nf x)
    | dic es => cases e; obtain ⟨_, xs, h1, h2⟩ := k; exact ⟨a, xs, rfl, h1, h2⟩
    | _ => cases e
theorem PRep.dit (le : Same F H) {kvs : List (D × D)} {v : V} (h : PRep K w F H (.dit kvs) v) :
    ∃ a es, v = .ref a ∧ H a = some (dxt a es) ∧ RepEs K w F kvs es ∧ (kvs.map fun p => tupKey p.1).Nodup ∧ es.length ≤ sizeLine ∧ a ≠ sysModules := by
  rcases h.norm with h | ⟨c, a, μ, e, nf, rfl, k⟩
  · cases h with
    | dit hh r n z y => exact ⟨_, _, rfl, le _ _ hh, r, n, z, y⟩
  · cases c with
    | frz x => exact absurd rfl (nf x)
    | dit es => cases e; obtain ⟨_, xs, h1, h2⟩ := k; exact ⟨a, xs, rfl, h1, h2⟩
    | _ => cases e
end

/-! ### operations by values -/
def rOp (K : PySem.W.Frag) (w : World) (op : D → D → Option D) : R2 := fun x y H Q => ∃ F d e g, Same F H ∧ PRep K w F H d x ∧ PRep K w F H e y ∧ op d e = some g ∧ ∀ F' H' v, Step F H F' H' → Rep K w F' g v → Q v H'
def rUn (K : PySem.W.Frag) (w : World) (op : D → Option D) : V → Hp → VK → Prop := fun x H Q => ∃ F d g, Same F H ∧ PRep K w F H d x ∧ op d = some g ∧ ∀ F' H' v, Step F H F' H' → Rep K w F' g v → Q v H'
def rCa (K : PySem.W.Frag) (w : World) (op : List D → Option D) : List V → Hp → VK → Prop := fun xs H Q => ∃ F ds g, Same F H ∧ PReps K w F H ds xs ∧ op ds = some g ∧ ∀ F' H' v, Step F H F' H' → Rep K w F' g v → Q v H'
def rMt (K : PySem.W.Frag) (w : World) (op : D → List D → Option D) : V → List V → Hp → VK → Prop := fun x xs H Q => ∃ F d ds g, Same F H ∧ PRep K w F H d x ∧ PReps K w F H ds xs ∧ op d ds = some g ∧ ∀ F' H' v, Step F H F' H' → Rep K w F' g v → Q v H'
theorem opR_imp {X : Cx} {f : Value → Value → Sem Value} {r r' : R2} (h : OpR X f r) (g : ∀ x y H Q, r' x y H Q → r x y H Q) : OpR X f r' := fun pins s σ H x y v u Q I rx ry q => h pins s σ H x y v u Q I rx ry (g x y H Q q)
theorem ixR_imp {X : Cx} {r r' : R2} (h : IxR X r) (g : ∀ x y H Q, r' x y H Q → r x y H Q) : IxR X r' := fun a b pins s σ H x y v u Q I rx ry q => h a b pins s σ H x y v u Q I rx ry (g x y H Q q)
theorem unR_imp {X : Cx} {f : Value → Sem Value} {r r' : V → Hp → VK → Prop} (h : UnR X f r) (g : ∀ x H Q, r' x H Q → r x H Q) : UnR X f r' := fun pins s σ H x v Q I rx q => h pins s σ H x v Q I rx (g x H Q q)
theorem callR_imp {X : Cx} {f : Value} {r r' : List V → Hp → VK → Prop} (h : CallR X f r) (g : ∀ x H Q, r' x H Q → r x H Q) : CallR X f r' := fun pins s σ H x v Q I rx q => h pins s σ H x v Q I rx (g x H Q q)
theorem mtR_imp {X : Cx} {id : String} {r r' : V → List V → Hp → VK → Prop} (h : MtR X id r) (g : ∀ x xs H Q, r' x xs H Q → r x xs H Q) : MtR X id r' := fun pins s σ H x xs v us Q I rx rs q => h pins s σ H x xs v us Q I rx rs (g x xs H Q q)

def addD : D → D → Option D
  | .int i, .int j => some (.int (i + j))
  | .str x, .str y => if x.length + y.length ≤ sizeLine then some (.str (x ++ y)) else none
  | .tup a, .tup b => if a.length + b.length ≤ sizeLine then some (.tup (a ++ b)) else none
  | .lst a, .lst b => if a.length + b.length ≤ sizeLine then some (.lst (a ++ b)) else none
  | _, _ => none
def subD : D → D → Option D
  | .int i, .int j => some (.int (i - j))
  | _, _ => none
instance (i j : Int) : Decidable (CMul i j) := by unfold CMul; infer_instance
instance (i j : Int) : Decidable (CDiv i j) := by unfold CDiv; infer_instance
instance (i j : Int) : Decidable (CPow i j) := by unfold CPow; infer_instance
def mulD : D → D → Option D
  | .int i, .int j => if CMul i j then some (.int (i * j)) else none
  | _, _ => none
def divD : D → D → Option D
  | .int i, .int j => if CDiv i j then some (.int (i / j)) else none
  | _, _ => none
def modD : D → D → Option D
  | .int i, .int j => if 0 < j then some (.int (i % j)) else none
  | _, _ => none
def powD : D → D → Option D
  | .int i, .int j => if CPow i j then some (.int (i ^ j.toNat)) else none
  | _, _ => none
section
variable {X : Cx}
/-- ints to a flat answer -/
theorem opInt {f : Value → Value → Sem Value} {r : R2} {op : D → D → Option D} (h : OpR X f r)
    (g : ∀ d e z, op d e = some z → ∃ i j v, d = .int i ∧ e = .int j ∧ (∀ F, Rep X.K X.w F z v) ∧ ∀ H Q, Q v H → r (.int i) (.int j) H Q) : OpR X f (rOp X.K X.w op) :=
  opR_imp h fun x y H Q ⟨F, d, e, z, le, h1, h2, h3, k⟩ => by
    obtain ⟨i, j, v, rfl, rfl, h4, h5⟩ := g d e z h3
    rw [h1.int, h2.int]
    exact h5 H Q (k F H v (Step.refl le) (h4 F))
theorem om_sub : OpR X (binaryOp .Sub) (rOp X.K X.w subD) := opInt op_sub fun d e z h => by
  unfold subD at h
  split at h
  · rename_i i j; cases h; exact ⟨i, j, _, rfl, rfl, fun F => .int _, fun H Q q => ⟨_, _, rfl, rfl, q⟩⟩
  · cases h
theorem om_mul : OpR X (binaryOp .Mult) (rOp X.K X.w mulD) := opInt op_mul fun d e z h => by
  unfold mulD at h
  split at h
  · rename_i i j
    by_cases c : CMul i j
    · rw [if_pos c] at h; cases h; exact ⟨i, j, _, rfl, rfl, fun F => .int _, fun H Q q => ⟨_, _, rfl, rfl, c, q⟩⟩
    · rw [if_neg c] at h; cases h
  · cases h
theorem om_div : OpR X (binaryOp .FloorDiv) (rOp X.K X.w divD) := opInt op_fdiv fun d e z h => by
  unfold divD at h
  split at h
  · rename_i i j
    by_cases c : CDiv i j
    · rw [if_pos c] at h; cases h; exact ⟨i, j, _, rfl, rfl, fun F => .int _, fun H Q q => ⟨_, _, rfl, rfl, c, q⟩⟩
    · rw [if_neg c] at h; cases h
  · cases h
theorem om_mod : OpR X (binaryOp .Mod) (rOp X.K X.w modD) := opInt op_mod fun d e z h => by
  unfold modD at h
  split at h
  · rename_i i j
    by_cases c : 0 < j
    · rw [if_pos c] at h; cases h; exact ⟨i, j, _, rfl, rfl, fun F => .int _, fun H Q q => ⟨_, _, rfl, rfl, c, q⟩⟩
    · rw [if_neg c] at h; cases h
  · cases h
theorem om_pow : OpR X (binaryOp .Pow) (rOp X.K X.w powD) := opInt op_pow fun d e z h => by
  unfold powD at h
  split at h
  · rename_i i j
    by_cases c : CPow i j
    · rw [if_pos c] at h; cases h; exact ⟨i, j, _, rfl, rfl, fun F => .int _, fun H Q q => ⟨_, _, rfl, rfl, c, q⟩⟩
    · rw [if_neg c] at h; cases h
  · cases h
theorem om_add : OpR X (binaryOp .Add) (rOp X.K X.w addD) := by
  refine opR_imp (op_add.or (op_add_str.or (op_catA.or op_cat))) fun x y H Q ⟨F, d, e, z, le, h1, h2, h3, k⟩ => ?_
  unfold addD at h3
  split at h3
  · cases h3
    rw [h1.int, h2.int]
    exact .inl ⟨_, _, rfl, rfl, k F H _ (Step.refl le) (.int _)⟩
  · rename_i a b
    by_cases c : a.length + b.length ≤ sizeLine
    · rw [if_pos c] at h3; cases h3
      rw [h1.str, h2.str]
      exact .inr (.inl ⟨_, _, rfl, rfl, c, k F H _ (Step.refl le) (.str _)⟩)
    · rw [if_neg c] at h3; cases h3
  · rename_i a b
    by_cases c : a.length + b.length ≤ sizeLine
    · rw [if_pos c] at h3; cases h3
      obtain ⟨p, xs, rfl, s1, r1⟩ := h1.tup le
      obtain ⟨q, ys, rfl, s2, r2⟩ := h2.tup le
      refine .inr (.inr (.inl ⟨p, q, xs, ys, rfl, rfl, s1, s2, by rw [← r1.length, ← r2.length]; exact c, fun e => ?_, fun _ e => ?_, fun _ _ b hb => ?_⟩))
      · subst e
        cases r1
        exact k F H _ (Step.refl le) (by rw [List.nil_append]; exact h2.flat (fun _ z => nomatch z) (fun _ z => nomatch z) (fun _ z => nomatch z))
      · subst e
        cases r2
        exact k F H _ (Step.refl le) (by rw [List.append_nil]; exact h1.flat (fun _ z => nomatch z) (fun _ z => nomatch z) (fun _ z => nomatch z))
      · have st := Step.new1 le hb (.tup (xs ++ ys))
        exact k _ _ _ st (.tup (.inl (.inl upd_same)) ((r1.append r2).mono st.f))
    · rw [if_neg c] at h3; cases h3
  · rename_i a b
    by_cases c : a.length + b.length ≤ sizeLine
    · rw [if_pos c] at h3; cases h3
      obtain ⟨p, xs, rfl, s1, r1⟩ := h1.lst le
      obtain ⟨q, ys, rfl, s2, r2⟩ := h2.lst le
      refine .inr (.inr (.inr ⟨p, q, xs, ys, rfl, rfl, s1, s2, by rw [← r1.length, ← r2.length]; exact c, fun b hb => ?_⟩))
      have st := Step.new1 le hb (.lst (xs ++ ys))
      exact k _ _ _ st (.lst upd_same ((r1.append r2).mono st.f))
    · rw [if_neg c] at h3; cases h3
  · cases h3
end
end MM
namespace MM
open PySem PySem.Spec PyProof.Rows L2

mutual
def toPy : D → Option PyData
  | .non => some .none
  | .bl b => some (.bool b)
  | .int i => some (.int i)
  | .str x => some (.str x)
  | .tup ds => (toPys ds).map .tuple
  | .lst ds => (toPys ds).map .list
  | _ => none
def toPys : List D → Option (List PyData)
  | [] => some []
  | d :: ds => match toPy d, toPys ds with
    | some k, some ks => some (k :: ks)
    | _, _ => none
end
section
variable {K : PySem.W.Frag} {w : World} {F F' H H' : Hp}
mutual
theorem Rep.dp : ∀ {d : D} {v : V} {p : PyData}, Rep K w F d v → toPy d = some p → Dp K F v p
  | _, _, _, .non, e => by cases e; exact .non
  | _, _, _, .bl b, e => by cases e; exact .bl b
  | _, _, _, .int b, e => by cases e; exact .int b
  | _, _, _, .str b, e => by cases e; exact .str b
  | _, _, _, .tup (ds := ds) h r, e => by
    unfold toPy at e
    cases q : toPys ds with
    | none => rw [q] at e; cases e
    | some ps => rw [q] at e; cases e; exact .tup h (RepAll.dp r q)
  | _, _, _, .lst (ds := ds) h r, e => by
    unfold toPy at e
    cases q : toPys ds with
    | none => rw [q] at e; cases e
    | some ps => rw [q] at e; cases e; exact .lst (SqL.of h) (RepAll.dp r q)
  | _, _, _, .dic _ _, e => by cases e
  | _, _, _, .dit _ _ _ _ _, e => by cases e
  | _, _, _, .obj _ _, e => by cases e
  | _, _, _, .gl _, e => by cases e
  | _, _, _, .scr _, e => by cases e
  | _, _, _, .ty _, e => by cases e
theorem RepAll.dp : ∀ {d : List D} {v : List V} {p : List PyData}, RepAll K w F d v → toPys d = some p → DpAll K F v p
  | _, _, _, .nil, e => by cases e; exact .nil
  | _, _, _, .cons (d := d) (ds := ds) h r, e => by
    unfold toPys at e
    cases q1 : toPy d with
    | none => simp [q1] at e
    | some a =>
      cases q2 : toPys ds with
      | none => simp [q1, q2] at e
      | some as =>
        simp only [q1, q2, Option.some.injEq] at e
        subst e
        exact .cons (Rep.dp h q1) (RepAll.dp r q2)
end
mutual
theorem dp_mono (e : Same F H) : ∀ {v : V} {p : PyData}, Dp K F v p → Dp K H v p
  | _, _, .non => .non
  | _, _, .bl b => .bl b
  | _, _, .int i => .int i
  | _, _, .str x => .str x
  | _, _, .lst h r => .lst (e.seq h) (dpAll_mono e r)
  | _, _, .tup h r => .tup (Same.seqT e h) (dpAll_mono e r)
theorem dpAll_mono (e : Same F H) : ∀ {v : List V} {p : List PyData}, DpAll K F v p → DpAll K H v p
  | _, _, .nil => .nil
  | _, _, .cons h r => .cons (dp_mono e h) (dpAll_mono e r)
end
theorem PRep.dp (le : Same F H) {d : D} {v : V} {p : PyData} (h : PRep K w F H d v) (e : toPy d = some p) : Dp K H v p := by
  rcases h.norm with hh | ⟨c, a, μ, q, nf, rfl, k⟩
  · exact dp_mono le (hh.dp e)
  · cases c with
    | frz x => exact absurd rfl (nf x)
    | lst ds =>
      cases q
      obtain ⟨_, xs, h1, h2⟩ := k
      unfold toPy at e
      cases q : toPys ds with
      | none => rw [q] at e; cases e
      | some ps => rw [q] at e; cases e; exact .lst (SqL.of h1) (dpAll_mono le (h2.dp q))
    | dic ds => cases q; cases e
    | dit ds => cases q; cases e
    | ins C ds => cases q
end

def eqB (d e : D) : Option Bool := match toPy d, toPy e with
  | some a, some b => if SeqAt.shaped a = true ∧ SeqAt.shaped b = true then some (PyData.eqv a b) else none
  | _, _ => none
def eqD (d e : D) : Option D := (eqB d e).map .bl
def neD (d e : D) : Option D := (eqB d e).map fun b => .bl (!b)
theorem eqB_some {d e : D} {b : Bool} (h : eqB d e = some b) : ∃ p q, toPy d = some p ∧ toPy e = some q ∧ SeqAt.shaped p = true ∧ SeqAt.shaped q = true ∧ b = PyData.eqv p q := by
  unfold eqB at h
  cases q1 : toPy d with
  | none => simp [q1] at h
  | some p =>
    cases q2 : toPy e with
    | none => simp [q1, q2] at h
    | some q =>
      simp only [q1, q2] at h
      by_cases c : SeqAt.shaped p = true ∧ SeqAt.shaped q = true
      · rw [if_pos c] at h; cases h; exact ⟨p, q, rfl, rfl, c.1, c.2, rfl⟩
      · rw [if_neg c] at h; cases h
def ltD : D → D → Option D
  | .int i, .int j => some (.bl (decide (i < j)))
  | _, _ => none
def leD : D → D → Option D
  | .int i, .int j => some (.bl (decide (i ≤ j)))
  | _, _ => none
def gtD : D → D → Option D
  | .int i, .int j => some (.bl (decide (j < i)))
  | _, _ => none
def geD : D → D → Option D
  | .int i, .int j => some (.bl (decide (j ≤ i)))
  | _, _ => none
/-- is None, is not None -/
def isN (d : D) : Bool := match d with
  | .non => true
  | _ => false
def isD (d e : D) : Option D := match e with
  | .non => some (.bl (isN d))
  | _ => none
def isnD (d e : D) : Option D := match e with
  | .non => some (.bl (!isN d))
  | _ => none
/-- == of flat data -/
def eqF : D → D → Bool
  | .non, .non => true
  | .bl a, .bl b => a == b
  | .bl a, .int b => (if a then 1 else 0) == b
  | .int a, .bl b => a == (if b then 1 else 0)
  | .int a, .int b => a == b
  | .str a, .str b => a == b
  | _, _ => false
def flatD : D → Bool
  | .non => true
  | .bl _ => true
  | .int _ => true
  | .str _ => true
  | _ => false
/-- x in y: a list of data of any depth; a tuple of flat data; one sign in a text -/
def inB (d : D) : D → Option Bool
  | .lst ds => match toPy d, toPys ds with
    | some p, some ps => if SeqAt.shaped p = true ∧ SeqAt.shaped (.list ps) = true then some (ps.any fun z => PyData.eqv z p) else none
    | _, _ => none
  | .tup ds => if flatD d = true ∧ ds.all flatD = true then some (ds.any fun z => eqF z d) else none
  | .str z => match d with
    | .str c => match c.cps.toList with
      | [n] => some (decide (n ∈ z.cps.toList))
      | _ => none
    | _ => none
  | _ => none
def inD (d e : D) : Option D := (inB d e).map .bl
def ninD (d e : D) : Option D := (inB d e).map fun b => .bl (!b)
section
variable {K : PySem.W.Frag} {w : World} {F F' H H' : Hp}
theorem flat_v {d : D} {v : V} (h : Rep K w F d v) (f : flatD d = true) : flatV v = true := by
  cases h <;> first | rfl | cases f
theorem flat_vs : ∀ {ds : List D} {vs : List V}, RepAll K w F ds vs → ds.all flatD = true → vs.all flatV = true
  | _, _, .nil, _ => rfl
  | _, _, .cons h r, f => by
    rw [List.all_cons, Bool.and_eq_true] at f
    rw [List.all_cons, flat_v h f.1, flat_vs r f.2]; rfl
theorem eq_flat {d e : D} {x y : V} (h : Rep K w F d x) (g : Rep K w F e y) (f1 : flatD d = true) (f2 : flatD e = true) : eqV x y = eqF d e := by
  cases h <;> first | (cases f1; done) | (cases g <;> first | rfl | (cases f2; done))
theorem in_flat {d : D} {x : V} (h : Rep K w F d x) (f1 : flatD d = true) : ∀ {ds : List D} {vs : List V}, RepAll K w F ds vs → ds.all flatD = true → inV x vs = ds.any fun z => eqF z d
  | _, _, .nil, _ => rfl
  | _, _, .cons g r, f => by
    rw [List.all_cons, Bool.and_eq_true] at f
    unfold inV
    rw [List.any_cons, List.any_cons, eq_flat g h f.1 f1]
    have := in_flat h f1 r f.2
    unfold inV at this
    rw [this]
theorem PRep.of_flat {d : D} {v : V} (h : PRep K w F H d v) (f : flatD d = true) : Rep K w F d v :=
  h.flat (fun _ z => by subst z; cases f) (fun _ z => by subst z; cases f) (fun _ z => by subst z; cases f)
theorem isN_v {d : D} {v : V} (h : PRep K w F H d v) : decide (v = .non) = isN d := by
  rcases h.norm with hh | ⟨c, a, μ, q, nf, rfl, k⟩
  · cases hh <;> rfl
  · cases c with
    | frz x => exact absurd rfl (nf x)
    | ins C ds => cases q
    | _ => cases q; rfl
end
section
variable {X : Cx}
theorem om_lt : OpR X (compareOp .Lt) (rOp X.K X.w ltD) := opInt op_lt fun d e z h => by
  unfold ltD at h
  split at h
  · cases h; exact ⟨_, _, _, rfl, rfl, fun F => .bl _, fun H Q q => ⟨_, _, rfl, rfl, q⟩⟩
  · cases h
theorem om_le : OpR X (compareOp .LtE) (rOp X.K X.w leD) := opInt op_le fun d e z h => by
  unfold leD at h
  split at h
  · cases h; exact ⟨_, _, _, rfl, rfl, fun F => .bl _, fun H Q q => ⟨_, _, rfl, rfl, q⟩⟩
  · cases h
theorem om_gt : OpR X (compareOp .Gt) (rOp X.K X.w gtD) := opInt op_gt fun d e z h => by
  unfold gtD at h
  split at h
  · cases h; exact ⟨_, _, _, rfl, rfl, fun F => .bl _, fun H Q q => ⟨_, _, rfl, rfl, q⟩⟩
  · cases h
theorem om_ge : OpR X (compareOp .GtE) (rOp X.K X.w geD) := opInt op_ge fun d e z h => by
  unfold geD at h
  split at h
  · cases h; exact ⟨_, _, _, rfl, rfl, fun F => .bl _, fun H Q q => ⟨_, _, rfl, rfl, q⟩⟩
  · cases h
theorem om_eq (hu : X.A.units + 64 < cLine) : OpR X (compareOp .Eq) (rOp X.K X.w eqD) := opR_imp (op_eqD hu) fun x y H Q ⟨F, d, e, z, le, h1, h2, h3, k⟩ => by
  unfold eqD at h3
  obtain ⟨b, hb, rfl⟩ := Option.map_eq_some_iff.mp h3
  obtain ⟨p, q, e1, e2, s1, s2, rfl⟩ := eqB_some hb
  exact ⟨p, q, h1.dp le e1, h2.dp le e2, s1, s2, k F H _ (Step.refl le) (.bl _)⟩
theorem om_ne (hu : X.A.units + 64 < cLine) : OpR X (compareOp .NotEq) (rOp X.K X.w neD) := opR_imp (op_neD hu) fun x y H Q ⟨F, d, e, z, le, h1, h2, h3, k⟩ => by
  unfold neD at h3
  obtain ⟨b, hb, rfl⟩ := Option.map_eq_some_iff.mp h3
  obtain ⟨p, q, e1, e2, s1, s2, rfl⟩ := eqB_some hb
  exact ⟨p, q, h1.dp le e1, h2.dp le e2, s1, s2, k F H _ (Step.refl le) (.bl _)⟩
theorem om_is : OpR X (compareOp .Is) (rOp X.K X.w isD) := opR_imp op_isN fun x y H Q ⟨F, d, e, z, le, h1, h2, h3, k⟩ => by
  unfold isD at h3
  split at h3
  · cases h3
    refine ⟨h2.non, ?_⟩
    rw [isN_v h1]
    exact k F H _ (Step.refl le) (.bl _)
  · cases h3
theorem om_isn : OpR X (compareOp .IsNot) (rOp X.K X.w isnD) := opR_imp op_notN fun x y H Q ⟨F, d, e, z, le, h1, h2, h3, k⟩ => by
  unfold isnD at h3
  split at h3
  · cases h3
    refine ⟨h2.non, ?_⟩
    rw [isN_v h1]
    exact k F H _ (Step.refl le) (.bl _)
  · cases h3
theorem inB_ok {K : PySem.W.Frag} {w : World} {F H : Hp} {x y : V} {d e : D} {b : Bool} (le : Same F H) (h1 : PRep K w F H d x) (h2 : PRep K w F H e y) (h : inB d e = some b) :
    (∃ d ds, Dp K H x d ∧ Dp K H y (.list ds) ∧ SeqAt.shaped d = true ∧ SeqAt.shaped (.list ds) = true ∧ b = ds.any fun z => PyData.eqv z d) ∨
    (∃ p xs, y = .ref p ∧ SqT K H p xs ∧ flatV x = true ∧ xs.all flatV = true ∧ b = inV x xs) ∨ ∃ (c : Nat) (z : Str), x = .str ⟨#[c]⟩ ∧ y = .str z ∧ b = decide (c ∈ z.cps.toList) := by
  unfold inB at h
  split at h
  · rename_i ds
    cases q1 : toPy d with
    | none => simp [q1] at h
    | some p =>
      cases q2 : toPys ds with
      | none => simp [q1, q2] at h
      | some ps =>
        simp only [q1, q2] at h
        by_cases c : SeqAt.shaped p = true ∧ SeqAt.shaped (.list ps) = true
        · rw [if_pos c] at h; cases h
          exact .inl ⟨p, ps, h1.dp le q1, h2.dp le (by unfold toPy; rw [q2]; rfl), c.1, c.2, rfl⟩
        · rw [if_neg c] at h; cases h
  · rename_i ds
    by_cases c : flatD d = true ∧ ds.all flatD = true
    · rw [if_pos c] at h; cases h
      obtain ⟨a, xs, rfl, s, r⟩ := h2.tup le
      have hx := h1.of_flat c.1
      exact .inr (.inl ⟨a, xs, rfl, s, flat_v hx c.1, flat_vs r c.2, (in_flat hx c.1 r c.2).symm⟩)
    · rw [if_neg c] at h; cases h
  · rename_i z
    split at h
    · rename_i c
      split at h
      · rename_i n q
        cases h
        refine .inr (.inr ⟨n, z, ?_, h2.str, rfl⟩)
        rw [h1.str]
        obtain ⟨cps⟩ := c
        have : cps = #[n] := Array.toList_inj.mp q
        rw [this]
      · cases h
    · cases h
  · cases h
theorem om_in (hu : X.A.units + 65 < cLine) : OpR X (compareOp .In) (rOp X.K X.w inD) := opR_imp ((op_inD hu).or (op_in_seq.or op_in_sign)) fun x y H Q ⟨F, d, e, z, le, h1, h2, h3, k⟩ => by
  unfold inD at h3
  obtain ⟨b, hb, rfl⟩ := Option.map_eq_some_iff.mp h3
  have q := k F H _ (Step.refl le) (.bl b)
  rcases inB_ok le h1 h2 hb with ⟨p, ps, a1, a2, a3, a4, rfl⟩ | ⟨p, xs, rfl, a1, a2, a3, rfl⟩ | ⟨c, z, rfl, rfl, rfl⟩
  · exact .inl ⟨p, ps, a1, a2, a3, a4, q⟩
  · exact .inr (.inl ⟨p, xs, rfl, .inr a1, a2, a3, q⟩)
  · exact .inr (.inr ⟨c, z, rfl, rfl, q⟩)
theorem om_nin (hu : X.A.units + 65 < cLine) : OpR X (compareOp .NotIn) (rOp X.K X.w ninD) := opR_imp ((op_notInD hu).or (op_notIn_seq.or op_notIn_sign)) fun x y H Q ⟨F, d, e, z, le, h1, h2, h3, k⟩ => by
  unfold ninD at h3
  obtain ⟨b, hb, rfl⟩ := Option.map_eq_some_iff.mp h3
  have q := k F H _ (Step.refl le) (.bl (!b))
  rcases inB_ok le h1 h2 hb with ⟨p, ps, a1, a2, a3, a4, rfl⟩ | ⟨p, xs, rfl, a1, a2, a3, rfl⟩ | ⟨c, z, rfl, rfl, rfl⟩
  · exact .inl ⟨p, ps, a1, a2, a3, a4, q⟩
  · exact .inr (.inl ⟨p, xs, rfl, .inr a1, a2, a3, q⟩)
  · exact .inr (.inr ⟨c, z, rfl, rfl, q⟩)

/-! ### items, slices -/
def ixD : D → D → Option D
  | .lst ds, .int i => atI ds i
  | .tup ds, .int i => atI ds i
  | .str z, .int i => if z.length ≤ sizeLine then (atI z.cps.toList i).map fun c => .str ⟨#[c]⟩ else none
  | _, _ => none
theorem atI_rep {K : PySem.W.Frag} {w : World} {F : Hp} {ds : List D} {xs : List V} {i : Int} {d : D} (r : RepAll K w F ds xs) (h : atI ds i = some d) : ∃ v, atI xs i = some v ∧ Rep K w F d v := by
  unfold atI at h ⊢
  rw [← r.length]
  cases q : ixN ds.length i with
  | none => rw [q] at h; cases h
  | some j =>
    rw [q] at h
    exact r.get h
theorem om_ix : IxR X (rOp X.K X.w ixD) := ixR_imp ix_seq fun x y H Q ⟨F, d, e, z, le, h1, h2, h3, k⟩ => by
  unfold ixD at h3
  split at h3
  · obtain ⟨a, xs, rfl, s, r⟩ := h1.lst le
    obtain ⟨v, q1, q2⟩ := atI_rep r h3
    exact .inl ⟨a, xs, _, v, rfl, h2.int, SqL.of s, q1, k F H v (Step.refl le) q2⟩
  · obtain ⟨a, xs, rfl, s, r⟩ := h1.tup le
    obtain ⟨v, q1, q2⟩ := atI_rep r h3
    exact .inr (.inl ⟨a, xs, _, v, rfl, h2.int, s, q1, k F H v (Step.refl le) q2⟩)
  · rename_i z i
    by_cases c : z.length ≤ sizeLine
    · rw [if_pos c] at h3
      obtain ⟨n, q, rfl⟩ := Option.map_eq_some_iff.mp h3
      exact .inr (.inr ⟨z, i, n, h1.str, h2.int, c, q, k F H _ (Step.refl le) (.str _)⟩)
    · rw [if_neg c] at h3; cases h3
  · cases h3
def cutD (ds : List D) (lo hi : Option Int) : List D := (ds.drop (HT.sIx ds.length 0 lo)).take (HT.sIx ds.length ds.length hi - HT.sIx ds.length 0 lo)
theorem cut_rep {K : PySem.W.Frag} {w : World} {F : Hp} {ds : List D} {xs : List V} {lo hi : Option Int} (r : RepAll K w F ds xs) : RepAll K w F (cutD ds lo hi) (cutV xs lo hi) := by
  unfold cutD cutV
  rw [r.length]
  exact (r.drop _).take _
def slD (d : D) (lo hi : Option Int) : Option D := match d with
  | .lst ds => some (.lst (cutD ds lo hi))
  | .tup ds => some (.tup (cutD ds lo hi))
  | .str z => if z.length ≤ sizeLine then some (.str (cutS z lo hi)) else none
  | _ => none
def rSl (K : PySem.W.Frag) (w : World) : V → Option Int → Option Int → Hp → VK → Prop := fun x lo hi H Q => ∃ F d g, Same F H ∧ PRep K w F H d x ∧ slD d lo hi = some g ∧ ∀ F' H' v, Step F H F' H' → Rep K w F' g v → Q v H'
theorem slR_imp {r r' : V → Option Int → Option Int → Hp → VK → Prop} (h : SlR X r) (g : ∀ x lo hi H Q, r' x lo hi H Q → r x lo hi H Q) : SlR X r' := fun pins s σ H x v vl vu lo hi sl Q I rx hs pl pu q => h pins s σ H x v vl vu lo hi sl Q I rx hs pl pu (g _ _ _ _ _ q)
theorem cut_whole {α : Type} {ds : List α} {a b : Nat} (h1 : a = 0) (h2 : b = ds.length) : (ds.drop a).take (b - a) = ds := by
  subst h1 h2
  simp
theorem om_sl : SlR X (rSl X.K X.w) := slR_imp (sl_list.or (sl_tupA.or sl_str)) fun x lo hi H Q ⟨F, d, z, le, h1, h3, k⟩ => by
  unfold slD at h3
  split at h3
  · cases h3
    obtain ⟨a, xs, rfl, s, r⟩ := h1.lst le
    refine .inl ⟨a, xs, rfl, SqL.of s, fun p hp => ?_⟩
    have st := Step.new1 le hp (.lst (cutV xs lo hi))
    exact k _ _ _ st (.lst upd_same ((cut_rep r).mono st.f))
  · rename_i ds
    cases h3
    obtain ⟨a, xs, rfl, s, r⟩ := h1.tup le
    refine .inr (.inl ⟨a, xs, rfl, s, fun e => ?_, fun _ p hp => ?_⟩)
    · refine k F H _ (Step.refl le) ?_
      have : cutD ds lo hi = ds := by unfold cutD; rw [r.length]; exact cut_whole e.1 (by rw [r.length]; exact e.2)
      rw [this]
      exact h1.flat (fun _ z => nomatch z) (fun _ z => nomatch z) (fun _ z => nomatch z)
    · have st := Step.new1 le hp (.tup (cutV xs lo hi))
      exact k _ _ _ st (.tup (.inl (.inl upd_same)) ((cut_rep r).mono st.f))
  · rename_i z
    by_cases c : z.length ≤ sizeLine
    · rw [if_pos c] at h3; cases h3
      exact .inr (.inr ⟨z, h1.str, c, k F H _ (Step.refl le) (.str _)⟩)
    · rw [if_neg c] at h3; cases h3
  · cases h3
end
end MM
namespace MM
open PySem PySem.Spec PyProof.Rows L2

def intsOf : List D → Option (List Int)
  | [] => some []
  | .int i :: r => (intsOf r).map (i :: ·)
  | _ => none
def blsOf : List D → Option (List Bool)
  | [] => some []
  | .bl i :: r => (blsOf r).map (i :: ·)
  | _ => none
def strsOf : List D → Option (List Str)
  | [] => some []
  | .str i :: r => (strsOf r).map (i :: ·)
  | _ => none
theorem intsOf_eq : ∀ {ds : List D} {ns : List Int}, intsOf ds = some ns → ds = ns.map D.int
  | [], ns, h => by cases h; rfl
  | d :: r, ns, h => by
    unfold intsOf at h
    split at h
    · rename_i e; cases e
    · rename_i i r' e
      cases e
      obtain ⟨ms, h1, rfl⟩ := Option.map_eq_some_iff.mp h
      rw [List.map_cons, ← intsOf_eq h1]
    · cases h
theorem blsOf_eq : ∀ {ds : List D} {ns : List Bool}, blsOf ds = some ns → ds = ns.map D.bl
  | [], ns, h => by cases h; rfl
  | d :: r, ns, h => by
    unfold blsOf at h
    split at h
    · rename_i e; cases e
    · rename_i i r' e
      cases e
      obtain ⟨ms, h1, rfl⟩ := Option.map_eq_some_iff.mp h
      rw [List.map_cons, ← blsOf_eq h1]
    · cases h
theorem strsOf_eq : ∀ {ds : List D} {ns : List Str}, strsOf ds = some ns → ds = ns.map D.str
  | [], ns, h => by cases h; rfl
  | d :: r, ns, h => by
    unfold strsOf at h
    split at h
    · rename_i e; cases e
    · rename_i i r' e
      cases e
      obtain ⟨ms, h1, rfl⟩ := Option.map_eq_some_iff.mp h
      rw [List.map_cons, ← strsOf_eq h1]
    · cases h
def maxL : List Int → Option Int
  | [] => none
  | n :: ns => some (ns.foldl max n)
theorem foldl_max_mem : ∀ (ns : List Int) (n : Int), (ns.foldl max n = n ∨ ns.foldl max n ∈ ns) ∧ n ≤ ns.foldl max n ∧ ∀ m ∈ ns, m ≤ ns.foldl max n
  | [], n => ⟨.inl rfl, Int.le_refl _, fun m hm => nomatch hm⟩
  | a :: ns, n => by
    obtain ⟨h1, h2, h3⟩ := foldl_max_mem ns (max n a)
    rw [List.foldl_cons]
    refine ⟨?_, by omega, fun m hm => ?_⟩
    · rcases h1 with h | h
      · rw [h]
        by_cases c : n ≤ a
        · exact .inr (by rw [Int.max_eq_right c]; exact List.mem_cons_self)
        · exact .inl (Int.max_eq_left (by omega))
      · exact .inr (List.mem_cons_of_mem _ h)
    · rcases List.mem_cons.mp hm with rfl | hm
      · omega
      · exact h3 m hm
theorem maxL_ok {ns : List Int} {z m : Int} (h : maxL ns = some z) (hm : m ∈ ns) (hl : ∀ y, y ∈ ns → y ≤ m) : m = z := by
  cases ns with
  | nil => cases h
  | cons n ns =>
    cases h
    obtain ⟨h1, h2, h3⟩ := foldl_max_mem ns n
    have a : ns.foldl max n ≤ m := by
      rcases h1 with h | h
      · rw [h]; exact hl n List.mem_cons_self
      · exact hl _ (List.mem_cons_of_mem _ h)
    have b : m ≤ ns.foldl max n := by
      rcases List.mem_cons.mp hm with rfl | hm
      · exact h2
      · exact h3 m hm
    omega

def lenF : List D → Option D
  | [.lst ds] => some (.int ds.length)
  | [.tup ds] => some (.int ds.length)
  | [.scr ds] => some (.int ds.length)
  | [.str z] => if z.length ≤ sizeLine then some (.int z.length) else none
  | [.dic kvs] => some (.int kvs.length)
  | _ => none
def intF : List D → Option D
  | [.int i] => some (.int i)
  | [.bl b] => some (.int (if b then 1 else 0))
  | [.str z] => if z.length ≤ 640 then (PySem.intText? z).map .int else none
  | _ => none
def strF : List D → Option D
  | [.int i] => if i.natAbs.log2 < 1920 then some (.str (toString i)) else none
  | _ => none
def listF : List D → Option D
  | [.lst ds] => some (.lst ds)
  | [.tup ds] => some (.lst ds)
  | [.scr ns] => some (.lst (ns.map .int))
  | _ => none
def tupleF : List D → Option D
  | [.lst ds] => some (.tup ds)
  | [.tup ds] => some (.tup ds)
  | _ => none
def maxF : List D → Option D
  | [.lst ds] => ((intsOf ds).bind maxL).map .int
  | [.int i, .int j] => some (.int (if j > i then j else i))
  | _ => none
def minF : List D → Option D
  | [.int i, .int j] => some (.int (if j < i then j else i))
  | _ => none
def sumF : List D → Option D
  | [.lst ds] => (intsOf ds).map fun ns => .int ns.sum
  | _ => none
def anyF : List D → Option D
  | [.lst ds] => (blsOf ds).map fun bs => .bl (bs.any id)
  | _ => none
def allF : List D → Option D
  | [.lst ds] => (blsOf ds).map fun bs => .bl (bs.all id)
  | _ => none
def tyN : D → Option String
  | .non => some "NoneType"
  | .bl _ => some "bool"
  | .int _ => some "int"
  | .str _ => some "str"
  | .tup _ => some "tuple"
  | .lst _ => some "list"
  | .dic _ => some "dict"
  | _ => none
def isiF : List D → Option D
  | [x, .ty T] => (tyN x).bind fun t => (kitB t T).map .bl
  | _ => none
section
variable {K : PySem.W.Frag} {w : World} {F F' H H' : Hp}
theorem PReps.one {d : D} {vs : List V} (h : PReps K w F H [d] vs) : ∃ v, vs = [v] ∧ PRep K w F H d v := by
  cases h with
  | cons h r => cases r; exact ⟨_, rfl, h⟩
theorem PReps.two {d e : D} {vs : List V} (h : PReps K w F H [d, e] vs) : ∃ v u, vs = [v, u] ∧ PRep K w F H d v ∧ PRep K w F H e u := by
  cases h with
  | cons h r => cases r with
    | cons g r => cases r; exact ⟨_, _, rfl, h, g⟩
theorem RepKs.length : ∀ {ds : List (D × D)} {vs : List (Key × V)}, RepKs K w F ds vs → ds.length = vs.length
  | _, _, .nil => rfl
  | _, _, .cons _ _ r => congrArg Nat.succ (RepKs.length r)
theorem tyX_of (le : Same F H) {d : D} {v : V} {t : String} (h : PRep K w F H d v) (e : tyN d = some t) : TyX K H v (.type t) := by
  cases d with
  | non => cases e; rw [h.non]; exact .base .non
  | bl b => cases e; rw [h.bl]; exact .base (.bl _)
  | int b => cases e; rw [h.int]; exact .base (.int _)
  | str b => cases e; rw [h.str]; exact .base (.str _)
  | lst ds => cases e; obtain ⟨a, xs, rfl, s, r⟩ := h.lst le; exact .base (.lst s)
  | dic ds => cases e; obtain ⟨a, xs, rfl, s, r⟩ := h.dic le; exact .base (.dK s)
  | tup ds =>
    cases e
    obtain ⟨a, xs, rfl, s, r⟩ := h.tup le
    rcases s with (s | ⟨o, s⟩) | ⟨o, its, n, k1, k2, _⟩
    · exact .base (.tup s)
    · exact .fTuple s
    · exact .kTuple k1 k2
  | _ => cases e
end
section
variable {X : Cx}
theorem cm_len : CallR X (.builtin "len") (rCa X.K X.w lenF) := callR_imp (call_len.or call_lenD) fun xs H Q ⟨F, ds, g, le, h1, h2, k⟩ => by
  unfold lenF at h2
  split at h2
  · cases h2
    obtain ⟨v, rfl, h⟩ := h1.one
    obtain ⟨a, xs, rfl, s, r⟩ := h.lst le
    exact .inl ⟨_, _, rfl, .inl ⟨xs, SqL.of s, r.length⟩, k F H _ (Step.refl le) (.int _)⟩
  · cases h2
    obtain ⟨v, rfl, h⟩ := h1.one
    obtain ⟨a, xs, rfl, s, r⟩ := h.tup le
    exact .inl ⟨_, _, rfl, .inr ⟨xs, s, r.length⟩, k F H _ (Step.refl le) (.int _)⟩
  · cases h2
    obtain ⟨v, rfl, h⟩ := h1.one
    obtain ⟨a, rfl, s⟩ := h.scr le
    exact .inl ⟨_, _, rfl, .inl ⟨_, s, by rw [List.length_map]⟩, k F H _ (Step.refl le) (.int _)⟩
  · rename_i z
    obtain ⟨v, rfl, h⟩ := h1.one
    by_cases c : z.length ≤ sizeLine
    · rw [if_pos c] at h2; cases h2
      rw [h.str]
      exact .inl ⟨_, _, rfl, ⟨c, rfl⟩, k F H _ (Step.refl le) (.int _)⟩
    · rw [if_neg c] at h2; cases h2
  · cases h2
    obtain ⟨v, rfl, h⟩ := h1.one
    obtain ⟨a, ks, rfl, s, r⟩ := h.dic le
    refine .inr ⟨a, ks, rfl, s, ?_⟩
    have := k F H (.int ks.length) (Step.refl le)
    rw [r.length] at this
    exact this (.int _)
  · cases h2
theorem cm_int : CallR X (.type "int") (rCa X.K X.w intF) := callR_imp (call_int1.or call_int_str) fun xs H Q ⟨F, ds, g, le, h1, h2, k⟩ => by
  unfold intF at h2
  split at h2
  · cases h2
    obtain ⟨v, rfl, h⟩ := h1.one
    rw [h.int]
    exact .inl (.inl ⟨_, rfl, k F H _ (Step.refl le) (.int _)⟩)
  · cases h2
    obtain ⟨v, rfl, h⟩ := h1.one
    rw [h.bl]
    exact .inl (.inr ⟨_, rfl, k F H _ (Step.refl le) (.int _)⟩)
  · rename_i z
    obtain ⟨v, rfl, h⟩ := h1.one
    by_cases c : z.length ≤ 640
    · rw [if_pos c] at h2
      obtain ⟨n, q, rfl⟩ := Option.map_eq_some_iff.mp h2
      rw [h.str]
      exact .inr ⟨z, n, rfl, q, c, k F H _ (Step.refl le) (.int _)⟩
    · rw [if_neg c] at h2; cases h2
  · cases h2
theorem cm_str : CallR X (.type "str") (rCa X.K X.w strF) := callR_imp call_str_int fun xs H Q ⟨F, ds, g, le, h1, h2, k⟩ => by
  unfold strF at h2
  split at h2
  · rename_i i
    obtain ⟨v, rfl, h⟩ := h1.one
    by_cases c : i.natAbs.log2 < 1920
    · rw [if_pos c] at h2; cases h2
      rw [h.int]
      exact ⟨i, rfl, c, k F H _ (Step.refl le) (.str _)⟩
    · rw [if_neg c] at h2; cases h2
  · cases h2
theorem cm_list : CallR X (.type "list") (rCa X.K X.w listF) := callR_imp call_list_of fun xs H Q ⟨F, ds, g, le, h1, h2, k⟩ => by
  unfold listF at h2
  split at h2
  · cases h2
    obtain ⟨v, rfl, h⟩ := h1.one
    obtain ⟨a, ys, rfl, s, r⟩ := h.lst le
    refine ⟨a, ys, rfl, .inl (SqL.of s), fun l hl => ?_⟩
    have st := Step.new1 le hl (.lst ys)
    exact k _ _ _ st (.lst upd_same (r.mono st.f))
  · cases h2
    obtain ⟨v, rfl, h⟩ := h1.one
    obtain ⟨a, ys, rfl, s, r⟩ := h.tup le
    refine ⟨a, ys, rfl, .inr s, fun l hl => ?_⟩
    have st := Step.new1 le hl (.lst ys)
    exact k _ _ _ st (.lst upd_same (r.mono st.f))
  · rename_i ns
    cases h2
    obtain ⟨v, rfl, h⟩ := h1.one
    obtain ⟨a, rfl, s⟩ := h.scr le
    refine ⟨a, _, rfl, .inl s, fun l hl => ?_⟩
    have st := Step.new1 le hl (.lst (ns.map V.int))
    exact k _ _ _ st (.lst upd_same (RepAll.of_ints _))
  · cases h2
theorem cm_tuple : CallR X (.type "tuple") (rCa X.K X.w tupleF) := callR_imp call_tuple_of fun xs H Q ⟨F, ds, g, le, h1, h2, k⟩ => by
  unfold tupleF at h2
  split at h2
  · cases h2
    obtain ⟨v, rfl, h⟩ := h1.one
    obtain ⟨a, ys, rfl, s, r⟩ := h.lst le
    refine ⟨a, ys, rfl, .inl ⟨SqL.of s, fun l hl => ?_⟩⟩
    have st := Step.new1 le hl (.tup ys)
    exact k _ _ _ st (.tup (.inl (.inl upd_same)) (r.mono st.f))
  · cases h2
    obtain ⟨v, rfl, h⟩ := h1.one
    have hh := h.flat (fun _ z => nomatch z) (fun _ z => nomatch z) (fun _ z => nomatch z)
    obtain ⟨a, ys, rfl, s, r⟩ := h.tup le
    exact ⟨a, ys, rfl, .inr ⟨s, k F H _ (Step.refl le) hh⟩⟩
  · cases h2
theorem cm_max (hc : X.calm = true) : CallR X (.builtin "max") (rCa X.K X.w maxF) := callR_imp ((cr_max hc).or (call_max2 hc)) fun xs H Q ⟨F, ds, g, le, h1, h2, k⟩ => by
  unfold maxF at h2
  split at h2
  · rename_i ds
    obtain ⟨z, h3, rfl⟩ := Option.map_eq_some_iff.mp h2
    obtain ⟨ns, h4, h5⟩ := Option.bind_eq_some_iff.mp h3
    have e := intsOf_eq h4
    subst e
    obtain ⟨v, rfl, h⟩ := h1.one
    obtain ⟨a, ys, rfl, s, r⟩ := h.lst le
    have ey := r.ints
    subst ey
    refine .inl ⟨a, ns, rfl, SqL.of s, ?_, fun m hm hl => ?_⟩
    · cases ns with
      | nil => cases h5
      | cons n ns => exact Nat.succ_pos _
    · have := k F H (.int z) (Step.refl le) (.int z)
      rw [maxL_ok h5 hm hl]
      exact this
  · cases h2
    obtain ⟨v, u, rfl, h, g⟩ := h1.two
    rw [h.int, g.int]
    exact .inr ⟨_, _, rfl, k F H _ (Step.refl le) (.int _)⟩
  · cases h2
theorem cm_min (hc : X.calm = true) : CallR X (.builtin "min") (rCa X.K X.w minF) := callR_imp (call_min2 hc) fun xs H Q ⟨F, ds, g, le, h1, h2, k⟩ => by
  unfold minF at h2
  split at h2
  · cases h2
    obtain ⟨v, u, rfl, h, g⟩ := h1.two
    rw [h.int, g.int]
    exact ⟨_, _, rfl, k F H _ (Step.refl le) (.int _)⟩
  · cases h2
theorem cm_sum (hc : X.calm = true) : CallR X (.builtin "sum") (rCa X.K X.w sumF) := callR_imp (cr_sum hc) fun xs H Q ⟨F, ds, g, le, h1, h2, k⟩ => by
  unfold sumF at h2
  split at h2
  · obtain ⟨ns, h4, rfl⟩ := Option.map_eq_some_iff.mp h2
    have e := intsOf_eq h4
    subst e
    obtain ⟨v, rfl, h⟩ := h1.one
    obtain ⟨a, ys, rfl, s, r⟩ := h.lst le
    have ey := r.ints
    subst ey
    exact ⟨a, ns, rfl, SqL.of s, k F H _ (Step.refl le) (.int _)⟩
  · cases h2
theorem cm_any (hc : X.calm = true) : CallR X (.builtin "any") (rCa X.K X.w anyF) := callR_imp (cr_any hc) fun xs H Q ⟨F, ds, g, le, h1, h2, k⟩ => by
  unfold anyF at h2
  split at h2
  · obtain ⟨ns, h4, rfl⟩ := Option.map_eq_some_iff.mp h2
    have e := blsOf_eq h4
    subst e
    obtain ⟨v, rfl, h⟩ := h1.one
    obtain ⟨a, ys, rfl, s, r⟩ := h.lst le
    have ey := r.bls
    subst ey
    exact ⟨a, ns, rfl, SqL.of s, k F H _ (Step.refl le) (.bl _)⟩
  · cases h2
theorem cm_all (hc : X.calm = true) : CallR X (.builtin "all") (rCa X.K X.w allF) := callR_imp (cr_all hc) fun xs H Q ⟨F, ds, g, le, h1, h2, k⟩ => by
  unfold allF at h2
  split at h2
  · obtain ⟨ns, h4, rfl⟩ := Option.map_eq_some_iff.mp h2
    have e := blsOf_eq h4
    subst e
    obtain ⟨v, rfl, h⟩ := h1.one
    obtain ⟨a, ys, rfl, s, r⟩ := h.lst le
    have ey := r.bls
    subst ey
    exact ⟨a, ns, rfl, SqL.of s, k F H _ (Step.refl le) (.bl _)⟩
  · cases h2
theorem cm_isi : CallR X (.builtin "isinstance") (rCa X.K X.w isiF) := callR_imp call_isi fun xs H Q ⟨F, ds, g, le, h1, h2, k⟩ => by
  unfold isiF at h2
  split at h2
  · rename_i x T
    obtain ⟨t, h3, h4⟩ := Option.bind_eq_some_iff.mp h2
    obtain ⟨b, h5, rfl⟩ := Option.map_eq_some_iff.mp h4
    obtain ⟨v, u, rfl, h, g⟩ := h1.two
    rw [g.ty]
    exact ⟨v, .ty T, .type t, .type T, b, rfl, .ty T, tyX_of le h h3, kit_ty h5, k F H _ (Step.refl le) (.bl _)⟩
  · cases h2

/-! ### truth -/
def truB : D → Option Bool
  | .non => some false
  | .bl b => some b
  | .int i => some (i != 0)
  | .str z => if z.length ≤ sizeLine then some ((z.length : Int) != 0) else none
  | .tup ds => some (!ds.isEmpty)
  | .lst ds => some (!ds.isEmpty)
  | .dic kvs => some (!kvs.isEmpty)
  | _ => none
theorem tru_rep {K : PySem.W.Frag} {w : World} {F H : Hp} (le : Same F H) {d : D} {v : V} {b : Bool} (h : PRep K w F H d v) (e : truB d = some b) : TruV K v H b := by
  cases d with
  | non => cases e; rw [h.non]; rfl
  | bl b => cases e; rw [h.bl]; rfl
  | int b => cases e; rw [h.int]; rfl
  | str z =>
    unfold truB at e
    by_cases c : z.length ≤ sizeLine
    · simp only [c, if_true] at e
      cases e; rw [h.str]; exact ⟨c, rfl⟩
    · simp only [c, if_false] at e; cases e
  | lst ds =>
    cases e; obtain ⟨a, xs, rfl, s, r⟩ := h.lst le
    refine .inl ⟨xs, SqL.of s, ?_⟩
    cases r <;> rfl
  | dic ds =>
    cases e; obtain ⟨a, xs, rfl, s, r⟩ := h.dic le
    refine .inr (.inr ⟨xs, s, ?_⟩)
    cases r <;> rfl
  | tup ds =>
    cases e
    obtain ⟨a, xs, rfl, s, r⟩ := h.tup le
    refine .inr (.inl ⟨xs, s, ?_⟩)
    cases r <;> rfl
  | _ => cases e

/-! ### methods of texts -/
def splitF (d : D) : List D → Option D
  | [.str b] => match d with
    | .str a => if (b.length == 0) = false ∧ a.length + 2 ≤ sizeLine then some (.lst ((Txt.split a b).map .str)) else none
    | _ => none
  | _ => none
def joinF (d : D) : List D → Option D
  | [.lst ds] => match d with
    | .str a => (strsOf ds).bind fun ys => if (ys.map (·.length)).sum + ys.length * a.length ≤ 16777216 then some (.str (Txt.join a ys)) else none
    | _ => none
  | _ => none
theorem mm_split : MtR X "str.split" (rMt X.K X.w splitF) := mtR_imp mt_split fun x xs H Q ⟨F, d, ds, g, le, h1, h2, h3, k⟩ => by
  unfold splitF at h3
  split at h3
  · rename_i b
    split at h3
    · rename_i a
      by_cases c : (b.length == 0) = false ∧ a.length + 2 ≤ sizeLine
      · rw [if_pos c] at h3; cases h3
        obtain ⟨v, rfl, h⟩ := h2.one
        refine ⟨a, b, h1.str, by rw [h.str], c.1, c.2, fun p hp => ?_⟩
        have st := Step.new1 le hp (.lst ((Txt.split a b).map V.str))
        exact k _ _ _ st (.lst upd_same (RepAll.of_strs _))
      · rw [if_neg c] at h3; cases h3
    · cases h3
  · cases h3
theorem mm_join : MtR X "str.join" (rMt X.K X.w joinF) := mtR_imp mt_join fun x xs H Q ⟨F, d, ds, g, le, h1, h2, h3, k⟩ => by
  unfold joinF at h3
  split at h3
  · split at h3
    · rename_i a
      obtain ⟨ys, h4, h5⟩ := Option.bind_eq_some_iff.mp h3
      by_cases c : (ys.map (·.length)).sum + ys.length * a.length ≤ 16777216
      · rw [if_pos c] at h5; cases h5
        have e := strsOf_eq h4
        subst e
        obtain ⟨v, rfl, h⟩ := h2.one
        obtain ⟨p, zs, rfl, s, r⟩ := h.lst le
        have ez := r.strs
        subst ez
        exact ⟨a, p, ys, h1.str, rfl, .inl (SqL.of s), c, k F H _ (Step.refl le) (.str _)⟩
      · rw [if_neg c] at h5; cases h5
    · cases h3
  · cases h3
end
end MM
namespace MM
open PySem PySem.Spec PyProof.Rows L2

/-! ### the functions -/
def varM (i : Nat) : EM := fun ρ S => match ρ[i]? with
  | some (some (.r x)) => some (.ok x, S)
  | some (some (.own _)) => some (.ok (.slot i), S)
  | _ => none
def litM (d : D) : EM := fun _ S => some (.ok (.d d), S)
def ret1 (f : D → Option D) (a : R) : EM := fun ρ S => match peek ρ S a with
  | some d => match f d with
    | some g => some (.ok (.d g), S)
    | none => none
  | none => none
def ret2 (f : D → D → Option D) (a b : R) : EM := fun ρ S => match peek ρ S a, peek ρ S b with
  | some d, some e => match f d e with
    | some g => some (.ok (.d g), S)
    | none => none
  | _, _ => none
def retN (f : List D → Option D) (as : List R) : EM := fun ρ S => match peeks ρ S as with
  | some ds => match f ds with
    | some g => some (.ok (.d g), S)
    | none => none
  | none => none
def retO (f : D → List D → Option D) (a : R) (as : List R) : EM := fun ρ S => match peek ρ S a, peeks ρ S as with
  | some d, some ds => match f d ds with
    | some g => some (.ok (.d g), S)
    | none => none
  | _, _ => none
def op1M (f : D → Option D) (ma : EM) : EM := bindM ma (ret1 f)
def op2M (f : D → D → Option D) (ma mb : EM) : EM := bindM ma fun a => bindM mb fun b => ret2 f a b
def callM (f : List D → Option D) (ms : AM) : EM := bindM ms (retN f)
def methM (f : D → List D → Option D) (mo : EM) (ms : AM) : EM := bindM mo fun o => bindM ms fun as => retO f o as
def nilA : AM := fun _ S => some (.ok [], S)
def consA (m : EM) (ms : AM) : AM := bindM m fun a => bindM ms fun as => fun _ S => some (.ok (a :: as), S)
/-- the data of closed values -/
def dsOf : List R → Option (List D)
  | [] => some []
  | .d x :: r => (dsOf r).map (x :: ·)
  | _ => none
def mkTup (as : List R) : EM := fun _ S => match dsOf as with
  | some ds => if ds.length ≤ sizeLine then some (.ok (.d (.tup ds)), S) else none
  | none => none
def mkLst (as : List R) : EM := fun _ S => match dsOf as with
  | some ds => if ds.length ≤ sizeLine then some (.ok (.d (.lst ds)), S) else none
  | none => none
def tupM (ms : AM) : EM := bindM ms mkTup
def lstM (ms : AM) : EM := bindM ms mkLst
/-- tests -/
def tstB (a : R) : TM := fun _ S => match a with
  | .d (.bl b) => some (.ok b, S)
  | _ => none
def tstT (a : R) : TM := fun ρ S => match peek ρ S a with
  | some d => match truB d with
    | some b => some (.ok b, S)
    | none => none
  | none => none
def bT (m : EM) : TM := bindM m tstB
def truM (m : EM) : TM := bindM m tstT
def notT (m : TM) : TM := bindM m fun b _ S => some (.ok (!b), S)
def andT (m n : TM) : TM := bindM m fun b => if b = true then n else fun _ S => some (.ok false, S)
def orT (m n : TM) : TM := bindM m fun b => if b = true then fun _ S => some (.ok true, S) else n
/-- .. as values -/
def boolR (a : R) : TM := tstB a
def notV (m : EM) : EM := bindM (bT m) fun b => litM (.bl (!b))
def andV (m n : EM) : EM := bindM (bT m) fun b => if b = true then n else litM (.bl false)
def orV (m n : EM) : EM := bindM (bT m) fun b => if b = true then litM (.bl true) else n
def ifV (t : TM) (m n : EM) : EM := bindM t fun b => if b = true then m else n

section
variable {X : Cx} {W : WX} {e a b c : Expr} {pos : Pos} {ma mb mc : EM} {es : List Expr} {ms : AM} {mt nt : TM}
abbrev CS (X : Cx) (σ : L2.St) (H : Hp) (F : Hp) (μ : List Addr) (ρ : Fr) (S : Sto) : Prop := Rel X.K X.w F μ S H ∧ RelFr X.K X.w F μ H ρ σ

theorem me_var (i : Nat) {x : Str} (hN : X.N[i]? = some x := by rfl) (hv : Vis X.env.scope x := by first | exact Or.inl rfl | exact Or.inr (Or.inl rfl) | exact Or.inr (Or.inr rfl)) (hd : (x == ("__debug__" : Str)) = false := by decide)
    (hcd : (x == ("__classdict__" : Str)) = false := by decide) : ME X W (.Name x pos) (varM i) := by
  refine PE.imp (pe_var hN hv hd hcd) fun σ H Q ⟨F, μ, ρ, S, h1, h2, h3⟩ => ?_
  unfold varM at h3
  cases q : ρ[i]? with
  | none => rw [q] at h3; exact h3.none_
  | some o =>
    cases o with
    | none => rw [q] at h3; exact h3.none_
    | some en =>
      cases en with
      | r x =>
        rw [q] at h3
        obtain ⟨v, h4, h5⟩ := h2.r i x q
        refine ⟨v, h4, h3.ok .refl h1 ?_⟩
        cases x with
        | d y => exact h5
        | loc n => exact h5
        | slot j => have : ([] : L2.St)[j]? = some (some v) := h5; simp at this
      | own cc =>
        rw [q] at h3
        obtain ⟨p, h4, h5⟩ := h2.own i cc q
        exact ⟨_, h4, h3.ok .refl h1 h4⟩
theorem me_int {i j} : ME X W (.Constant (.int i) j pos) (litM (.int i)) := PE.imp pe_int fun σ H Q ⟨F, μ, ρ, S, h1, h2, h3⟩ => h3.ok .refl h1 (.int i)
theorem me_bl {i j} : ME X W (.Constant (.bool i) j pos) (litM (.bl i)) := PE.imp pe_bl fun σ H Q ⟨F, μ, ρ, S, h1, h2, h3⟩ => h3.ok .refl h1 (.bl i)
theorem me_non {j} : ME X W (.Constant .none j pos) (litM .non) := PE.imp pe_non fun σ H Q ⟨F, μ, ρ, S, h1, h2, h3⟩ => h3.ok .refl h1 .non
theorem me_str {x j} : ME X W (.Constant (.str x) j pos) (litM (.str x)) := PE.imp pe_str fun σ H Q ⟨F, μ, ρ, S, h1, h2, h3⟩ => h3.ok .refl h1 (.str x)
/-- a name of the module: a constant, a def, a class -/
structure Glb (X : Cx) (x : Str) (d : D) : Prop where
  ex : ∃ v u, X.mg x = some u ∧ RelV v u ∧ ∀ F, Rep X.K X.w F d v
theorem me_glob {x : Str} {d : D} (g : Glb X x d) (hg : Gl X x) (hd : (x == ("__debug__" : Str)) = false := by decide) : ME X W (.Name x pos) (litM d) := by
  obtain ⟨v, u, h1, h2, h3⟩ := g.ex
  exact PE.imp (pe_glob hg h1 h2 hd) fun σ H Q ⟨F, μ, ρ, S, k1, k2, k3⟩ => k3.ok .refl k1 (h3 F)
/-- a built-in type as a value -/
theorem me_ty {x : Str} {T : String} (hm : X.mg x = none) (hg : Gl X x) (hv : bootBuiltins x = some (.type T)) (hn : x ≠ "__name__" := by decide) (hd : (x == ("__debug__" : Str)) = false := by decide) : ME X W (.Name x pos) (litM (.ty T)) :=
  PE.imp (pe_bltn (v := .ty T) hg hm hv rfl hn hd) fun σ H Q ⟨F, μ, ρ, S, k1, k2, k3⟩ => k3.ok .refl k1 (.ty T)
theorem me_op {op : Operator} {f : D → D → Option D} (ho : OpR X (binaryOp op) (rOp X.K X.w f)) (ha : ME X W a ma) (hb : ME X W b mb) : ME X W (.BinOp a op b pos) (op2M f ma mb) :=
  PE.imp (pe_op ho ha hb) fun σ H Q h => (core_bin (Ra := fun σ F μ => RepR X.K X.w F μ σ) (Rb := fun σ F μ => RepR X.K X.w F μ σ) monoR h).imp fun x H1 h => core.imp h fun y H2 ⟨a, b, F, μ, ρ, S, h1, h2, h3, h4, h5⟩ => by
    unfold ret2 at h5
    cases q1 : peek ρ S a with
    | none => simp only [q1] at h5; exact h5.none_
    | some d =>
      cases q2 : peek ρ S b with
      | none => simp only [q1, q2] at h5; exact h5.none_
      | some e =>
        simp only [q1, q2] at h5
        cases q3 : f d e with
        | none => simp only [q3] at h5; exact h5.none_
        | some g =>
          simp only [q3] at h5
          exact ⟨F, d, e, g, h1.le, peek_rep h1 h2 h3 q1, peek_rep h1 h2 h4 q2, q3, fun F' H' v st r => h5.ok st.grow (h1.step st) r⟩
theorem me_cmp {op : CmpOp} {f : D → D → Option D} (ho : OpR X (compareOp op) (rOp X.K X.w f)) (ha : ME X W a ma) (hb : ME X W b mb) (hm : behindInMarks op b = false) : ME X W (.Compare a [op] [b] pos) (op2M f ma mb) :=
  PE.imp (pe_cmpR ho ha hb hm) fun σ H Q h => (core_bin (Ra := fun σ F μ => RepR X.K X.w F μ σ) (Rb := fun σ F μ => RepR X.K X.w F μ σ) monoR h).imp fun x H1 h => core.imp h fun y H2 ⟨a, b, F, μ, ρ, S, h1, h2, h3, h4, h5⟩ => by
    unfold ret2 at h5
    cases q1 : peek ρ S a with
    | none => simp only [q1] at h5; exact h5.none_
    | some d =>
      cases q2 : peek ρ S b with
      | none => simp only [q1, q2] at h5; exact h5.none_
      | some e =>
        simp only [q1, q2] at h5
        cases q3 : f d e with
        | none => simp only [q3] at h5; exact h5.none_
        | some g =>
          simp only [q3] at h5
          exact ⟨F, d, e, g, h1.le, peek_rep h1 h2 h3 q1, peek_rep h1 h2 h4 q2, q3, fun F' H' v st r => h5.ok st.grow (h1.step st) r⟩
theorem me_ix {f : D → D → Option D} (ho : IxR X (rOp X.K X.w f)) (ha : ME X W a ma) (hb : ME X W b mb) (hs : PlainIx b) : ME X W (.Subscript a b pos) (op2M f ma mb) :=
  PE.imp (pe_ix ho ha hb hs) fun σ H Q h => (core_bin (Ra := fun σ F μ => RepR X.K X.w F μ σ) (Rb := fun σ F μ => RepR X.K X.w F μ σ) monoR h).imp fun x H1 h => core.imp h fun y H2 ⟨a, b, F, μ, ρ, S, h1, h2, h3, h4, h5⟩ => by
    unfold ret2 at h5
    cases q1 : peek ρ S a with
    | none => simp only [q1] at h5; exact h5.none_
    | some d =>
      cases q2 : peek ρ S b with
      | none => simp only [q1, q2] at h5; exact h5.none_
      | some e =>
        simp only [q1, q2] at h5
        cases q3 : f d e with
        | none => simp only [q3] at h5; exact h5.none_
        | some g =>
          simp only [q3] at h5
          exact ⟨F, d, e, g, h1.le, peek_rep h1 h2 h3 q1, peek_rep h1 h2 h4 q2, q3, fun F' H' v st r => h5.ok st.grow (h1.step st) r⟩
/-! arguments -/
theorem ma_nil : MA X W [] nilA := PA.imp pa_nil fun σ H Q ⟨F, μ, ρ, S, h1, h2, h3⟩ => h3.ok .refl h1 .nil
theorem ma_cons (ha : ME X W e ma) (hr : MA X W es ms) (hs : starEach (e :: es) X.env = (false, eval e X.env) :: starEach es X.env := by rfl) : MA X W (e :: es) (consA ma ms) :=
  PA.imp (pa_cons ha hr hs) fun σ H Q h => (core_bin (Ra := fun σ F μ => RepR X.K X.w F μ σ) (Rb := fun σ F μ => RepRs X.K X.w F μ σ) monoR h).imp fun x H1 h => core.imp h fun y H2 ⟨a, b, F, μ, ρ, S, h1, h2, h3, h4, h5⟩ =>
    h5.ok .refl h1 (.cons h3 h4)
theorem dsOf_rep {K : PySem.W.Frag} {w : World} {F : Hp} {μ : List Addr} {σ : L2.St} : ∀ {rs : List R} {vs : List V} {ds : List D}, RepRs K w F μ σ rs vs → dsOf rs = some ds → RepAll K w F ds vs
  | [], _, _, .nil, e => by cases e; exact .nil
  | .d x :: r, _, _, .cons h q, e => by
    unfold dsOf at e
    obtain ⟨ds, h1, rfl⟩ := Option.map_eq_some_iff.mp e
    exact .cons h (dsOf_rep q h1)
  | .loc n :: r, _, _, _, e => by cases e
  | .slot n :: r, _, _, _, e => by cases e
theorem me_tup {x1} (ha : MA X W es ms) : ME X W (.Tuple es x1 pos) (tupM ms) :=
  PE.imp (pe_tup ha) fun σ H Q h => (core_bind (Ra := fun σ F μ => RepRs X.K X.w F μ σ) h).imp fun x H1 ⟨as, F, μ, ρ, S, h1, h2, h3, h4⟩ => by
    unfold mkTup at h4
    cases q : dsOf as with
    | none => simp only [q] at h4; exact h4.none_
    | some ds =>
      simp only [q] at h4
      have r := dsOf_rep h3 q
      by_cases c : ds.length ≤ sizeLine
      · rw [if_pos c] at h4
        refine ⟨by rw [← r.length]; exact c, fun p hp => ?_⟩
        have st := Step.new1 h1.le hp (.tup x)
        exact h4.ok st.grow (h1.step st) (.tup (.inl (.inl upd_same)) (r.mono st.f))
      · rw [if_neg c] at h4; exact h4.none_
theorem me_lst (ha : MA X W es ms) : ME X W (.List es pos) (lstM ms) :=
  PE.imp (pe_lst ha) fun σ H Q h => (core_bind (Ra := fun σ F μ => RepRs X.K X.w F μ σ) h).imp fun x H1 ⟨as, F, μ, ρ, S, h1, h2, h3, h4⟩ => by
    unfold mkLst at h4
    cases q : dsOf as with
    | none => simp only [q] at h4; exact h4.none_
    | some ds =>
      simp only [q] at h4
      have r := dsOf_rep h3 q
      by_cases c : ds.length ≤ sizeLine
      · rw [if_pos c] at h4
        refine ⟨by rw [← r.length]; exact c, fun p hp => ?_⟩
        have st := Step.new1 h1.le hp (.lst x)
        exact h4.ok st.grow (h1.step st) (.lst upd_same (r.mono st.f))
      · rw [if_neg c] at h4; exact h4.none_
theorem ret_call {f : List D → Option D} {σ : L2.St} {H : Hp} {Q : VK} {xs : List V} {as : List R} {F : Hp} {μ : List Addr} {ρ : Fr} {S : Sto} (h1 : Rel X.K X.w F μ S H) (h2 : RelFr X.K X.w F μ H ρ σ) (h3 : RepRs X.K X.w F μ σ as xs)
    (h4 : coreAt X.K X.w (fun σ F μ => RepR X.K X.w F μ σ) W (retN f as ρ S) F μ σ H Q) : rCa X.K X.w f xs H Q := by
  unfold retN at h4
  cases q : peeks ρ S as with
  | none => simp only [q] at h4; exact h4.none_
  | some ds =>
    simp only [q] at h4
    cases q3 : f ds with
    | none => simp only [q3] at h4; exact h4.none_
    | some g =>
      simp only [q3] at h4
      exact ⟨F, ds, g, h1.le, peeks_rep h1 h2 h3 q, q3, fun F' H' v st r => h4.ok st.grow (h1.step st) r⟩
/-- a call of a built-in by its name -/
theorem me_callB {id : String} {x : Str} {f : List D → Option D} {p : Pos} (hc : CallR X (.builtin id) (rCa X.K X.w f)) (hm : X.mg x = none) (hg : Gl X x) (hv : bootBuiltins x = some (.builtin id)) (ha : MA X W (e :: es) ms) (hn : x ≠ "__name__" := by decide) (hdb : (x == ("__debug__" : Str)) = false := by decide)
    (hs : starEach (e :: es) X.env = (false, eval e X.env) :: starEach es X.env := by rfl) (hpl : (backTo pos (starEach es X.env)).any (·.1) = false := by rfl) : ME X W (.Call (.Name x p) (e :: es) [] pos) (callM f ms) :=
  PE.imp (pe_callB hc hg hm hv ha hn hdb hs hpl) fun σ H Q h => (core_bind (Ra := fun σ F μ => RepRs X.K X.w F μ σ) h).imp fun x H1 ⟨as, F, μ, ρ, S, h1, h2, h3, h4⟩ => ret_call h1 h2 h3 h4
theorem me_callT {T : String} {x : Str} {f : List D → Option D} {p : Pos} (hc : CallR X (.type T) (rCa X.K X.w f)) (hm : X.mg x = none) (hg : Gl X x) (hv : bootBuiltins x = some (.type T)) (ha : MA X W (e :: es) ms) (hn : x ≠ "__name__" := by decide) (hdb : (x == ("__debug__" : Str)) = false := by decide)
    (hs : starEach (e :: es) X.env = (false, eval e X.env) :: starEach es X.env := by rfl) (hpl : (backTo pos (starEach es X.env)).any (·.1) = false := by rfl) : ME X W (.Call (.Name x p) (e :: es) [] pos) (callM f ms) :=
  PE.imp (pe_callTy hc hg hm hv ha hn hdb hs hpl) fun σ H Q h => (core_bind (Ra := fun σ F μ => RepRs X.K X.w F μ σ) h).imp fun x H1 ⟨as, F, μ, ρ, S, h1, h2, h3, h4⟩ => ret_call h1 h2 h3 h4
/-! tests -/
theorem test_bl {σ : L2.St} {H : Hp} {Q : Bool → Hp → Prop} {x : V} {a : R} {F : Hp} {μ : List Addr} {ρ : Fr} {S : Sto} (h1 : Rel X.K X.w F μ S H) (h3 : RepR X.K X.w F μ σ a x) (h4 : coreAt X.K X.w RB W (tstB a ρ S) F μ σ H Q) : ∃ k, x = .bl k ∧ Q k H := by
  unfold tstB at h4
  split at h4
  · cases h3
    exact ⟨_, rfl, h4.ok .refl h1 rfl⟩
  · exact h4.none_
theorem mt_cmp {op : CmpOp} {f : D → D → Option D} (ho : OpR X (compareOp op) (rOp X.K X.w f)) (ha : ME X W a ma) (hb : ME X W b mb) (hm : behindInMarks op b = false) : MT X W (.Compare a [op] [b] pos) (bT (op2M f ma mb)) :=
  PT.imp (pt_cmpR ho ha hb hm) fun σ H Q h => by
    have h' := (core_bind (Ra := fun σ F μ => RepR X.K X.w F μ σ) h).imp (Q' := fun x H' => ∃ k, x = V.bl k ∧ Q k H') fun x H1 ⟨a, F, μ, ρ, S, h1, h2, h3, h4⟩ => test_bl h1 h3 h4
    refine (core_bin (Ra := fun σ F μ => RepR X.K X.w F μ σ) (Rb := fun σ F μ => RepR X.K X.w F μ σ) monoR h').imp fun x H1 h => core.imp h fun y H2 ⟨a, b, F, μ, ρ, S, h1, h2, h3, h4, h5⟩ => ?_
    unfold ret2 at h5
    cases q1 : peek ρ S a with
    | none => simp only [q1] at h5; exact h5.none_
    | some d =>
      cases q2 : peek ρ S b with
      | none => simp only [q1, q2] at h5; exact h5.none_
      | some e =>
        simp only [q1, q2] at h5
        cases q3 : f d e with
        | none => simp only [q3] at h5; exact h5.none_
        | some g =>
          simp only [q3] at h5
          exact ⟨F, d, e, g, h1.le, peek_rep h1 h2 h3 q1, peek_rep h1 h2 h4 q2, q3, fun F' H' v st r => h5.ok st.grow (h1.step st) r⟩
theorem mt_tru (ha : ME X W a ma) (he : ∀ whole, isTrue a X.env whole = (do let v ← whole; standAt a.pos; holding [v] (truthy v)) := by intro _; rfl) : MT X W a (truM ma) :=
  PT.imp (pt_truth ha he) fun σ H Q h => (core_bind (Ra := fun σ F μ => RepR X.K X.w F μ σ) h).imp fun x H1 ⟨a, F, μ, ρ, S, h1, h2, h3, h4⟩ => by
    unfold tstT at h4
    cases q1 : peek ρ S a with
    | none => simp only [q1] at h4; exact h4.none_
    | some d =>
      simp only [q1] at h4
      cases q2 : truB d with
      | none => simp only [q2] at h4; exact h4.none_
      | some b =>
        simp only [q2] at h4
        exact ⟨b, tru_rep h1.le (peek_rep h1 h2 h3 q1) q2, h4.ok .refl h1 rfl⟩
theorem mt_not (ha : MT X W a mt) : MT X W (.UnaryOp .Not a pos) (notT mt) :=
  PT.imp (pt_not ha) fun σ H Q h => (core_bind (Ra := RB) h).imp fun x H1 ⟨a, F, μ, ρ, S, h1, h2, h3, h4⟩ => by
    cases h3
    exact h4.ok .refl h1 rfl
theorem mw_and1 (ha : MT X W a mt) : MW X W (.BoolOp .And [a] pos) mt := pw_and1 ha
theorem mw_or1 (ha : MT X W a mt) : MW X W (.BoolOp .Or [a] pos) mt := pw_or1 ha
theorem mw_and {rest : List Expr} (ha : MT X W a mt) (hb : MW X W (.BoolOp .And (b :: rest) pos) nt) : MW X W (.BoolOp .And (a :: b :: rest) pos) (andT mt nt) :=
  PW.imp (pw_and ha hb) fun σ H Q h => (core_bind (Ra := RB) h).imp fun x H1 ⟨a2, F, μ, ρ, S, h1, h2, h3, h4⟩ => by
    obtain rfl := h3
    cases a2 with
    | true => exact ⟨F, μ, ρ, S, h1, h2, h4⟩
    | false => exact h4.ok .refl h1 rfl
theorem mw_or {rest : List Expr} (ha : MT X W a mt) (hb : MW X W (.BoolOp .Or (b :: rest) pos) nt) : MW X W (.BoolOp .Or (a :: b :: rest) pos) (orT mt nt) :=
  PW.imp (pw_or ha hb) fun σ H Q h => (core_bind (Ra := RB) h).imp fun x H1 ⟨a2, F, μ, ρ, S, h1, h2, h3, h4⟩ => by
    obtain rfl := h3
    cases a2 with
    | true => exact h4.ok .refl h1 rfl
    | false => exact ⟨F, μ, ρ, S, h1, h2, h4⟩
/-! .. as values -/
theorem asB {ma : EM} {σ : L2.St} {H : Hp} {Q : V → Hp → Prop} {β : Type} {g : Bool → GM R} (h : tE X.K X.w W (bindM (bT ma) g) σ H Q) :
    tE X.K X.w W ma σ H (fun x H1 => ∃ c, x = .bl c ∧ tE X.K X.w W (g c) σ H1 Q) := by
  have h' := (core_bind (Ra := RB) h)
  refine (core_bind (Ra := fun σ F μ => RepR X.K X.w F μ σ) h').imp fun x H1 ⟨a, F, μ, ρ, S, h1, h2, h3, h4⟩ => ?_
  obtain ⟨k, e, a2, F2, μ2, ρ2, S2, k1, k2, k3, k4⟩ := test_bl h1 h3 h4
  cases k3
  exact ⟨_, e, F2, μ2, ρ2, S2, k1, k2, k4⟩
theorem me_not (ha : ME X W a ma) : ME X W (.UnaryOp .Not a pos) (notV ma) :=
  PE.imp (pe_not ha) fun σ H Q h => (asB (β := Unit) h).imp fun x H1 ⟨c, e, F, μ, ρ, S, h1, h2, h3⟩ => ⟨c, e, h3.ok .refl h1 (.bl _)⟩
theorem me_one {op} (h : ME X W a ma) : ME X W (.BoolOp op [a] pos) ma := pe_one h
theorem me_and {rest : List Expr} (ha : ME X W a ma) (hb : ME X W (.BoolOp .And (b :: rest) pos) mb) : ME X W (.BoolOp .And (a :: b :: rest) pos) (andV ma mb) :=
  PE.imp (pe_and ha hb) fun σ H Q h => (asB (β := Unit) h).imp fun x H1 ⟨c, e, h⟩ => by
    refine ⟨c, e, ?_⟩
    cases c with
    | true => exact h
    | false =>
      obtain ⟨F, μ, ρ, S, h1, h2, h3⟩ := h
      exact h3.ok .refl h1 (.bl _)
theorem me_or {rest : List Expr} (ha : ME X W a ma) (hb : ME X W (.BoolOp .Or (b :: rest) pos) mb) : ME X W (.BoolOp .Or (a :: b :: rest) pos) (orV ma mb) :=
  PE.imp (pe_or ha hb) fun σ H Q h => (asB (β := Unit) h).imp fun x H1 ⟨c, e, h⟩ => by
    refine ⟨c, e, ?_⟩
    cases c with
    | false => exact h
    | true =>
      obtain ⟨F, μ, ρ, S, h1, h2, h3⟩ := h
      exact h3.ok .refl h1 (.bl _)
theorem me_if (hc : MT X W c mt) (ha : ME X W a ma) (hb : ME X W b mb) : ME X W (.IfExp c a b pos) (ifV mt ma mb) :=
  PE.imp (pe_ifExp hc ha hb) fun σ H Q h => (core_bind (Ra := RB) h).imp fun x H1 ⟨a2, F, μ, ρ, S, h1, h2, h3, h4⟩ => by
    obtain rfl := h3
    cases a2 with
    | true => exact ⟨F, μ, ρ, S, h1, h2, h4⟩
    | false => exact ⟨F, μ, ρ, S, h1, h2, h4⟩
/-! slices -/
abbrev OM := GM (Option Int)
abbrev RO : L2.St → Hp → List Addr → Option Int → Option Int → Prop := fun _ _ _ a b => a = b
def noP : OM := fun _ S => some (.ok none, S)
def partR (a : R) : OM := fun ρ S => match a with
  | .d (.int i) => some (.ok (some i), S)
  | _ => none
def partM (m : EM) : OM := bindM m partR
abbrev MO (X : Cx) (W : WX) (e : Option Expr) (m : OM) : Prop := PO X e (core X.K X.w RO W m)
theorem mo_none : MO X W none noP := ⟨fun pins s σ H Q I ⟨F, μ, ρ, S, h1, h2, h3⟩ => po_none.run pins s σ H Q I (h3.ok .refl h1 rfl)⟩
theorem mo_some (h : ME X W e ma) : MO X W (some e) (partM ma) := ⟨fun pins s σ H Q I q => (po_some h).run pins s σ H Q I ((core_bind (Ra := fun σ F μ => RepR X.K X.w F μ σ) q).imp fun x H1 ⟨a, F, μ, ρ, S, h1, h2, h3, h4⟩ => by
    unfold partR at h4
    split at h4
    · cases h3
      exact ⟨_, rfl, h4.ok .refl h1 rfl⟩
    · exact h4.none_)⟩
def retS (a : R) (lo hi : Option Int) : EM := fun ρ S => match peek ρ S a with
  | some d => match slD d lo hi with
    | some g => some (.ok (.d g), S)
    | none => none
  | none => none
def slM (ma : EM) (ml mh : OM) : EM := bindM ma fun a => bindM ml fun l => bindM mh fun h => retS a l h
theorem core_tri {α β γ δ ε ζ η θ : Type} {K : PySem.W.Frag} {w : World} {Rp : L2.St → Hp → List Addr → α → β → Prop} {Ra : L2.St → Hp → List Addr → γ → δ → Prop} {Rb : L2.St → Hp → List Addr → ε → ζ → Prop} {Rc : L2.St → Hp → List Addr → η → θ → Prop}
    {σ : L2.St} {H : Hp} {ma : GM γ} {mb : GM ε} {mc : GM η} {g : γ → ε → η → GM α} {Q : β → Hp → Prop} (hm : MonoR Ra) (hn : MonoR Rb) (h : core K w Rp W (bindM ma fun a => bindM mb fun b => bindM mc fun c => g a b c) σ H Q) :
    core K w Ra W ma σ H (fun x H1 => core K w Rb W mb σ H1 (fun y H2 => core K w Rc W mc σ H2 fun z H3 => ∃ a b c F μ ρ S, Rel K w F μ S H3 ∧ RelFr K w F μ H3 ρ σ ∧ Ra σ F μ a x ∧ Rb σ F μ b y ∧ Rc σ F μ c z ∧ coreAt K w Rp W (g a b c ρ S) F μ σ H3 Q)) := by
  refine (core_bin (Ra := Ra) (Rb := Rb) hm h).imp fun x H1 h => core.imp h fun y H2 ⟨a, b, F, μ, ρ, S, h1, h2, h3, h3', h4⟩ => ?_
  obtain ⟨o, S', h5, h6⟩ := h4
  refine ⟨F, μ, ρ, S, h1, h2, ?_⟩
  unfold bindM at h5
  cases q : mc ρ S with
  | none => rw [q] at h5; cases h5
  | some r =>
    obtain ⟨o1, S1⟩ := r
    rw [q] at h5
    cases o1 with
    | ok c => exact ⟨.ok c, S1, rfl, fun F' μ' H' v e r z => ⟨a, b, c, F', μ', ρ, S1, r, h2.grow e, hm _ _ _ _ _ _ _ e.f e.p h3, hn _ _ _ _ _ _ _ e.f e.p h3', z, coreAt.mono e ⟨o, S', h5, h6⟩⟩⟩
    | ex c fs =>
      cases h5
      exact ⟨.ex c fs, _, rfl, h6⟩
theorem me_sl {lo hi : Option Expr} {ml mh : OM} {p2 : Pos} (ha : ME X W e ma) (hl : MO X W lo ml) (hh : MO X W hi mh) : ME X W (.Subscript e (.Slice lo hi none p2) pos) (slM ma ml mh) :=
  PE.imp (pe_slice om_sl ha hl hh) fun σ H Q h => (core_tri (Ra := fun σ F μ => RepR X.K X.w F μ σ) (Rb := RO) (Rc := RO) monoR (fun _ _ _ _ _ _ _ _ _ h => h) h).imp fun x H1 h => core.imp h fun l H2 h => core.imp h fun u H3 ⟨a, b, c, F, μ, ρ, S, h1, h2, h3, h4, h4', h5⟩ => by
    obtain rfl := h4
    obtain rfl := h4'
    unfold retS at h5
    cases q1 : peek ρ S a with
    | none => simp only [q1] at h5; exact h5.none_
    | some d =>
      simp only [q1] at h5
      cases q3 : slD d b c with
      | none => simp only [q3] at h5; exact h5.none_
      | some g =>
        simp only [q3] at h5
        exact ⟨F, d, g, h1.le, peek_rep h1 h2 h3 q1, q3, fun F' H' v st r => h5.ok st.grow (h1.step st) r⟩
/-! a < b < c -/
def chainM (f g : D → D → Option D) (ma mb mc : EM) : EM := bindM ma fun a => bindM mb fun b => bindM (bT (ret2 f a b)) fun k => if k = true then bindM mc fun c => ret2 g b c else litM (.bl false)
theorem me_chain {op op' : CmpOp} {f g : D → D → Option D} (ho : OpR X (compareOp op) (rOp X.K X.w f)) (ho' : OpR X (compareOp op') (rOp X.K X.w g)) (ha : ME X W a ma) (hb : ME X W b mb) (hc : ME X W c mc)
    (hm : lastMarks [op, op'] [b, c] = false := by with_unfolding_all rfl) : ME X W (.Compare a [op, op'] [b, c] pos) (chainM f g ma mb mc) :=
  PE.imp (pe_chain ho ho' ha hb hc hm) fun σ H Q h => (core_bin (Ra := fun σ F μ => RepR X.K X.w F μ σ) (Rb := fun σ F μ => RepR X.K X.w F μ σ) monoR h).imp fun x H1 h => core.imp h fun y H2 ⟨a, b, F, μ, ρ, S, h1, h2, h3, h4, o, S', h5, h6⟩ => by
    unfold bindM bT bindM ret2 at h5
    cases q1 : peek ρ S a with
    | none => simp [q1] at h5
    | some d =>
      cases q2 : peek ρ S b with
      | none => simp [q1, q2] at h5
      | some e =>
        cases q3 : f d e with
        | none => simp [q1, q2, q3] at h5
        | some z =>
          cases z with
          | bl k =>
              simp only [q1, q2, q3, tstB] at h5
              refine ⟨F, d, e, _, h1.le, peek_rep h1 h2 h3 q1, peek_rep h1 h2 h4 q2, q3, fun F' H' v st r => ?_⟩
              cases r
              refine ⟨_, rfl, ?_⟩
              cases k with
              | false =>
                have : coreAt X.K X.w (fun σ F μ => RepR X.K X.w F μ σ) W (litM (.bl false) ρ S) F μ σ H2 Q := ⟨o, S', h5, h6⟩
                exact this.ok st.grow (h1.step st) (.bl _)
              | true =>
                have h7 : tE X.K X.w W (bindM mc fun c => ret2 g b c) σ H' Q := ⟨F', μ, ρ, S, h1.step st, h2.grow st.grow, coreAt.mono st.grow ⟨o, S', h5, h6⟩⟩
                have hb' : RepR X.K X.w F' μ σ b y := h4.mono st.f List.prefix_rfl
                refine ⟨F', μ, ρ, S, h1.step st, h2.grow st.grow, ?_⟩
                have h8 : coreAt X.K X.w (fun σ F μ => RepR X.K X.w F μ σ) W ((bindM mc fun c => ret2 g b c) ρ S) F' μ σ H' Q := coreAt.mono st.grow ⟨o, S', h5, h6⟩
                obtain ⟨o2, S2, k1, k2⟩ := h8
                unfold bindM at k1
                cases qm : mc ρ S with
                | none => rw [qm] at k1; cases k1
                | some r1 =>
                  obtain ⟨o3, S3⟩ := r1
                  rw [qm] at k1
                  cases o3 with
                  | ex cc fs => cases k1; exact ⟨_, _, rfl, k2⟩
                  | ok c =>
                    refine ⟨.ok c, S3, rfl, fun F4 μ4 H4 w' gr r4 rc => ?_⟩
                    have h2' := (h2.grow st.grow).grow gr
                    have k3 : coreAt X.K X.w (fun σ F μ => RepR X.K X.w F μ σ) W (ret2 g b c ρ S3) F4 μ4 σ H4 Q := coreAt.mono gr ⟨o2, S2, k1, k2⟩
                    unfold ret2 at k3
                    cases p1 : peek ρ S3 b with
                    | none => simp only [p1] at k3; exact k3.none_
                    | some dd =>
                      cases p2 : peek ρ S3 c with
                      | none => simp only [p1, p2] at k3; exact k3.none_
                      | some ee =>
                        simp only [p1, p2] at k3
                        cases p3 : g dd ee with
                        | none => simp only [p3] at k3; exact k3.none_
                        | some zz =>
                          simp only [p3] at k3
                          exact ⟨F4, dd, ee, zz, r4.le, peek_rep r4 h2' (hb'.mono gr.f gr.p) p1, peek_rep r4 h2' rc p2, p3, fun F5 H5 v st r => k3.ok st.grow (r4.step st) r⟩
          | _ => simp [q1, q2, q3, tstB] at h5
end
end MM
namespace MM
open PySem PySem.Spec PyProof.Rows L2

/-! ### statements as functions -/
def nxM : SM := fun ρ S => some (.nx, ρ, S)
def seqM (m n : SM) : SM := fun ρ S => match m ρ S with
  | some (.nx, ρ', S') => n ρ' S'
  | r => r
def closedR : R → Bool
  | .slot _ => false
  | _ => true
def setR (i : Nat) (r : R) : SM := fun ρ S => if closedR r = true ∧ i < ρ.length then some (.nx, ρ.set i (some (.r r)), S) else none
def setM (i : Nat) (m : EM) : SM := thenM m (setR i)
def dropM (m : EM) : SM := thenM m fun _ => nxM
def retM (m : EM) : SM := thenM m fun r ρ S => some (.rt r, ρ, S)
def retNM : SM := fun ρ S => some (.rt (.d .non), ρ, S)
def ifM (t : TM) (m n : SM) : SM := thenM t fun b => if b = true then m else n
def brkM : SM := fun ρ S => some (.bk, ρ, S)
def cntM : SM := fun ρ S => some (.ct, ρ, S)
/-- an expression whose value is a new list -/
abbrev NM := GM (List D)
def newR (ms : AM) : NM := bindM ms fun as _ S => match dsOf as with
  | some ds => if ds.length ≤ sizeLine then some (.ok ds, S) else none
  | none => none
def ownM (i : Nat) (m : NM) : SM := thenM m fun ds ρ S => if i < ρ.length then some (.nx, ρ.set i (some (.own (.lst ds))), S) else none
def ofNew (m : NM) : EM := bindM m fun ds => litM (.lst ds)

section
variable {K : PySem.W.Frag} {w : World} {W : WX} {F F' H H' : Hp} {μ μ' : List Addr} {S S' : Sto} {ρ : Fr} {σ : L2.St} {B : Bs}
theorem RepR.closed {r : R} {v : V} (h : RepR K w F μ σ r v) (c : closedR r = true) (τ : L2.St) : RepR K w F μ τ r v := by
  cases r with
  | d x => exact h
  | loc n => exact h
  | slot i => cases c
/-- a value is stored at a name -/
theorem StOk.set (x : StOk K w B F μ ρ S σ H) {i : Nat} {r : R} {v : V} (h : RepR K w F μ σ r v) (c : closedR r = true) (hi : i < ρ.length) : StOk K w B F μ (ρ.set i (some (.r r))) S (σ.set i (some v)) H := by
  have hs : i < σ.length := by rw [← x.fr.len]; exact hi
  refine ⟨x.rel, ⟨by simp [x.fr.len], fun j y e => ?_, fun j cc e => ?_, fun j k cc dd a e1 e2 e3 e4 => ?_⟩, x.gr, fun j cc a e1 e2 => ?_⟩
  · by_cases q : j = i
    · subst q
      rw [List.getElem?_set_self hi] at e; cases e
      exact ⟨v, List.getElem?_set_self hs, h.closed c []⟩
    · rw [List.getElem?_set_ne (Ne.symm q)] at e ⊢
      exact x.fr.r j y e
  · by_cases q : j = i
    · subst q
      rw [List.getElem?_set_self hi] at e; cases e
    · rw [List.getElem?_set_ne (Ne.symm q)] at e ⊢
      exact x.fr.own j cc e
  · have n1 : j ≠ i := fun q => by subst q; rw [List.getElem?_set_self hi] at e1; cases e1
    have n2 : k ≠ i := fun q => by subst q; rw [List.getElem?_set_self hi] at e2; cases e2
    rw [List.getElem?_set_ne (Ne.symm n1)] at e1 e3
    rw [List.getElem?_set_ne (Ne.symm n2)] at e2 e4
    exact x.fr.dist j k cc dd a e1 e2 e3 e4
  · have n1 : j ≠ i := fun q => by subst q; rw [List.getElem?_set_self hi] at e1; cases e1
    rw [List.getElem?_set_ne (Ne.symm n1)] at e1 e2
    exact x.ow j cc a e1 e2
/-- what stood nowhere at a later moment stood nowhere at the entry -/
theorem StOk.fresh (x : StOk K w B F μ ρ S σ H) {p : Addr} (h : H p = none) : B.H p = none := by
  cases q : B.H p with
  | none => rfl
  | some o =>
    by_cases hm : p ∈ B.μ
    · exact absurd h (x.rel.there p (x.gr.p.subset hm))
    · rw [x.gr.h p o q hm] at h; cases h
/-- a new list of the frame's own -/
theorem StOk.own (x : StOk K w B F μ ρ S σ H) {i : Nat} {p : Addr} {c : Cell} (h0 : B.H p = none) (hm : p ∉ μ) (hF : F p = none) (ht : H p ≠ none) (k : CellOk K w F μ H p c) (nw : ∀ (j : Nat) (d : Cell), ρ[j]? = some (some (.own d)) → σ[j]? ≠ some (some (.ref p))) (hi : i < ρ.length) :
    StOk K w B F μ (ρ.set i (some (.own c))) S (σ.set i (some (.ref p))) H := by
  have hs : i < σ.length := by rw [← x.fr.len]; exact hi
  refine ⟨x.rel, ⟨by simp [x.fr.len], fun j y e => ?_, fun j cc e => ?_, fun j k cc dd a e1 e2 e3 e4 => ?_⟩, x.gr, fun j cc a e1 e2 => ?_⟩
  · by_cases q : j = i
    · subst q
      rw [List.getElem?_set_self hi] at e; cases e
    · rw [List.getElem?_set_ne (Ne.symm q)] at e ⊢
      exact x.fr.r j y e
  · by_cases q : j = i
    · subst q
      rw [List.getElem?_set_self hi] at e; cases e
      exact ⟨p, List.getElem?_set_self hs, hm, hF, ht, k⟩
    · rw [List.getElem?_set_ne (Ne.symm q)] at e ⊢
      exact x.fr.own j cc e
  · by_cases q1 : j = i
    · by_cases q2 : k = i
      · rw [q1, q2]
      · subst q1
        rw [List.getElem?_set_self hs] at e3; cases e3
        rw [List.getElem?_set_ne (Ne.symm q2)] at e2 e4
        exact absurd e4 (nw k dd e2)
    · by_cases q2 : k = i
      · subst q2
        rw [List.getElem?_set_self hs] at e4; cases e4
        rw [List.getElem?_set_ne (Ne.symm q1)] at e1 e3
        exact absurd e3 (nw j cc e1)
      · rw [List.getElem?_set_ne (Ne.symm q1)] at e1 e3
        rw [List.getElem?_set_ne (Ne.symm q2)] at e2 e4
        exact x.fr.dist j k cc dd a e1 e2 e3 e4
  · by_cases q : j = i
    · subst q
      rw [List.getElem?_set_self hs] at e2; cases e2
      exact h0
    · rw [List.getElem?_set_ne (Ne.symm q)] at e1 e2
      exact x.ow j cc a e1 e2
/-- the frame's own list or dict is changed in its place -/
theorem StOk.owned (x : StOk K w B F μ ρ S σ H) {i : Nat} {p : Addr} {c c' : Cell} {o : HO} (e : ρ[i]? = some (some (.own c))) (ev : σ[i]? = some (some (.ref p))) (k : CellOk K w F μ (upd H p o) p c') :
    StOk K w B F μ (ρ.set i (some (.own c'))) S σ (upd H p o) := by
  obtain ⟨p', h1, h2, h3, h4, h5⟩ := x.fr.own i c e
  rw [ev] at h1
  cases h1
  have hi : i < ρ.length := (List.getElem?_eq_some_iff.mp e).1
  have h0 : B.H p = none := x.ow i c p e ev
  have ne : ∀ b u, F b = some u → b ≠ p := fun b u q z => by rw [z, h3] at q; cases q
  have cne : ∀ {q : Addr} {d : Cell}, q ≠ p → CellOk K w F μ H q d → CellOk K w F μ (upd H p o) q d := fun {q d} nq k => by
    cases d with
    | lst ds => obtain ⟨g1, xs, g2, g⟩ := k; exact ⟨g1, xs, by rw [upd_ne nq]; exact g2, g⟩
    | dic kvs => obtain ⟨g1, xs, g2, g⟩ := k; exact ⟨g1, xs, by rw [upd_ne nq]; exact g2, g⟩
    | dit kvs => obtain ⟨g1, xs, g2, g⟩ := k; exact ⟨g1, xs, by rw [upd_ne nq]; exact g2, g⟩
    | ins C fs => obtain ⟨g1, dx, xs, g2, g⟩ := k; exact ⟨g1, dx, xs, by rw [upd_ne nq]; exact g2, g⟩
    | frz x => exact k
  refine ⟨⟨fun b u q => by rw [upd_ne (ne b u q)]; exact x.rel.le b u q, x.rel.nd, x.rel.len, fun a ha => ?_, fun n a d e1 e2 => ?_⟩, ⟨by simp [x.fr.len], fun j y e1 => ?_, fun j cc e1 => ?_, fun j k cc dd a e1 e2 e3 e4 => ?_⟩, ?_, fun j cc a e1 e2 => ?_⟩
  · rw [upd_ne (fun z => h2 (by rw [← z]; exact ha))]; exact x.rel.there a ha
  · exact cne (fun z => h2 (by rw [← z]; exact List.mem_of_getElem? e1)) (x.rel.cell n a d e1 e2)
  · by_cases q : j = i
    · subst q
      rw [List.getElem?_set_self hi] at e1; cases e1
    · rw [List.getElem?_set_ne (Ne.symm q)] at e1
      exact x.fr.r j y e1
  · by_cases q : j = i
    · subst q
      rw [List.getElem?_set_self hi] at e1; cases e1
      exact ⟨p, ev, h2, h3, (by rw [upd_same]; exact fun z => nomatch z), k⟩
    · rw [List.getElem?_set_ne (Ne.symm q)] at e1
      obtain ⟨a, g1, g2, g3, g4, g5⟩ := x.fr.own j cc e1
      have na : a ≠ p := fun z => q (x.fr.dist j i cc c a e1 e g1 (by rw [z]; exact ev))
      exact ⟨a, g1, g2, g3, by rw [upd_ne na]; exact g4, cne na g5⟩
  · have get : ∀ {j : Nat} {d : Cell}, (ρ.set i (some (.own c')))[j]? = some (some (.own d)) → ∃ d', ρ[j]? = some (some (.own d')) := fun {j d} e1 => by
      by_cases q : j = i
      · subst q; exact ⟨c, e⟩
      · rw [List.getElem?_set_ne (Ne.symm q)] at e1; exact ⟨d, e1⟩
    obtain ⟨d1, g1⟩ := get e1
    obtain ⟨d2, g2⟩ := get e2
    exact x.fr.dist j k d1 d2 a g1 g2 e3 e4
  · refine ⟨x.gr.f, x.gr.p, fun a u q hm => ?_, x.gr.nf, x.gr.nm⟩
    rw [upd_ne (fun z => by rw [z, h0] at q; cases q)]
    exact x.gr.h a u q hm
  · have : ∃ d', ρ[j]? = some (some (.own d')) := by
      by_cases q : j = i
      · subst q; exact ⟨c, e⟩
      · rw [List.getElem?_set_ne (Ne.symm q)] at e1; exact ⟨cc, e1⟩
    obtain ⟨d', g⟩ := this
    exact x.ow j d' a g e2
end

section
variable {X : Cx} {W : WX} {st : Stmt} {rest : List Stmt} {m n : SM} {e : Expr} {me : EM} {pos : Pos} {mt : TM}
theorem mss_nil : MSs X W [] nxM := PSs.imp pss_nil fun D σ H ⟨B, F, μ, ρ, S, h1, h2⟩ => h2.nx h1
theorem tS_seq {K : PySem.W.Frag} {w : World} {D : Ends} {σ : L2.St} {H : Hp} (h : tS K w W (seqM m n) D σ H) : tS K w W m { D with nx := tS K w W n D } σ H := by
  obtain ⟨B, F, μ, ρ, S, h1, fl, ρ', S', h2, h3⟩ := h
  refine ⟨B, F, μ, ρ, S, h1, ?_⟩
  unfold seqM at h2
  split at h2
  · rename_i ρ1 S1 q
    exact ⟨.nx, ρ1, S1, q, fun F' μ' σ' H' e x => ⟨B, F', μ', ρ1, S1, x, flowAt.mono e ⟨fl, ρ', S', h2, h3⟩⟩⟩
  · rename_i r nn
    refine ⟨fl, ρ', S', h2, fun F' μ' σ' H' e x => ?_⟩
    have := h3 F' μ' σ' H' e x
    cases fl with
    | nx => exact absurd h2 (nn _ _)
    | rt r => exact this
    | bk => exact this
    | ct => exact this
    | ex c fs => exact this
theorem mss_cons (h1 : MS X W st m) (h2 : MSs X W rest n) : MSs X W (st :: rest) (seqM m n) := PSs.imp (pss_cons h1 h2) fun D σ H h => tS_seq h
theorem mss_one (h1 : MS X W st m) : MSs X W [st] m := pss_one h1
/-- what follows is never reached -/
def deadM : SM := fun _ _ => none
theorem mss_dead {sts : List Stmt} : MSs X W sts deadM := PSs.imp pss_never fun D σ H ⟨B, F, μ, ρ, S, h1, h2⟩ => h2.none_
theorem ms_dead : MS X W st deadM := PS.imp ps_never fun D σ H ⟨B, F, μ, ρ, S, h1, h2⟩ => h2.none_
theorem ms_pass : MS X W (.Pass pos) nxM := PS.imp ps_pass fun D σ H ⟨B, F, μ, ρ, S, h1, h2⟩ => h2.nx h1
theorem flowAt.bk {K : PySem.W.Frag} {w : World} {F H : Hp} {μ : List Addr} {S : Sto} {ρ : Fr} {σ : L2.St} {D : Ends} {B : Bs} (h : flowAt K w W (some (.bk, ρ, S)) B F D) (x : StOk K w B F μ ρ S σ H) : D.bk σ H := by
  obtain ⟨fl, ρ', S', h1, h2⟩ := h
  cases h1
  exact h2 F μ σ H (Same.refl _) x
theorem flowAt.ct {K : PySem.W.Frag} {w : World} {F H : Hp} {μ : List Addr} {S : Sto} {ρ : Fr} {σ : L2.St} {D : Ends} {B : Bs} (h : flowAt K w W (some (.ct, ρ, S)) B F D) (x : StOk K w B F μ ρ S σ H) : D.ct σ H := by
  obtain ⟨fl, ρ', S', h1, h2⟩ := h
  cases h1
  exact h2 F μ σ H (Same.refl _) x
theorem flowAt.rt {K : PySem.W.Frag} {w : World} {F H : Hp} {μ : List Addr} {S : Sto} {ρ : Fr} {σ : L2.St} {D : Ends} {B : Bs} {r : R} {v : V} (h : flowAt K w W (some (.rt r, ρ, S)) B F D) (x : StOk K w B F μ ρ S σ H) (q : RepR K w F μ σ r v) : D.rt v H := by
  obtain ⟨fl, ρ', S', h1, h2⟩ := h
  cases h1
  exact h2 F μ σ H (Same.refl _) x v q
theorem ms_break : MS X W (.Break pos) brkM := PS.imp ps_break fun D σ H ⟨B, F, μ, ρ, S, h1, h2⟩ => h2.bk h1
theorem ms_continue : MS X W (.Continue pos) cntM := PS.imp ps_continue fun D σ H ⟨B, F, μ, ρ, S, h1, h2⟩ => h2.ct h1
theorem ms_set (i : Nat) {x : Str} {pos' : Pos} (hN : X.N.Nodup) (he : ME X W e me) (hi : X.N[i]? = some x := by rfl) (hx : Loc X.env.scope x := by first | exact Or.inl rfl | exact Or.inr rfl)
    (hs : swapsWith e (some (.Name x pos')) pos.line X.env = pure false := by rfl) (hf : X.fn x = true ∨ X.env.scope.names.lookup x = some .local := by first | exact .inl rfl | exact .inr rfl | assumption) : MS X W (.Assign [.Name x pos'] e pos) (setM i me) :=
  PS.imp (ps_set hN hi hx he hs hf) fun D σ H h => (flow_then (Ra := fun σ F μ => RepR X.K X.w F μ σ) h).imp fun v H1 ⟨r, B, F, μ, ρ, S, h1, h2, h3⟩ => by
    unfold setR at h3
    by_cases c : closedR r = true ∧ i < ρ.length
    · rw [if_pos c] at h3
      exact h3.nx (h1.set h2 c.1 c.2)
    · rw [if_neg c] at h3; exact h3.none_
theorem ms_expr (he : ME X W e me) (hs : swapsWith e none pos.line X.env = pure false := by rfl) : MS X W (.Expr e pos) (dropM me) :=
  PS.imp (ps_expr he hs) fun D σ H h => (flow_then (Ra := fun σ F μ => RepR X.K X.w F μ σ) h).imp fun v H1 ⟨r, B, F, μ, ρ, S, h1, h2, h3⟩ => h3.nx h1
theorem ms_ret (he : ME X W e me) : MS X W (.Return (some e) pos) (retM me) :=
  PS.imp (ps_ret he) fun D σ H h => (flow_then (Ra := fun σ F μ => RepR X.K X.w F μ σ) h).imp fun v H1 ⟨r, B, F, μ, ρ, S, h1, h2, h3⟩ => h3.rt h1 h2
theorem ms_retN : MS X W (.Return none pos) retNM := PS.imp ps_retN fun D σ H ⟨B, F, μ, ρ, S, h1, h2⟩ => h2.rt h1 (show RepR X.K X.w F μ σ (.d .non) .non from .non)
theorem ms_if {c : Expr} {a b : List Stmt} (hc : MT X W c mt) (ha : MSs X W a m) (hb : MSs X W b n) : MS X W (.If c a b pos) (ifM mt m n) :=
  PS.imp (ps_if hc ha hb) fun D σ H h => (flow_then (Ra := RB) h).imp fun v H1 ⟨r, B, F, μ, ρ, S, h1, h2, h3⟩ => by
    obtain rfl := h2
    cases r with
    | true => exact ⟨B, F, μ, ρ, S, h1, h3⟩
    | false => exact ⟨B, F, μ, ρ, S, h1, h3⟩
/-! new lists -/
def tN (K : PySem.W.Frag) (w : World) (W : WX) (m : NM) : TE := fun σ H Q => ∃ F μ ρ S, Rel K w F μ S H ∧ RelFr K w F μ H ρ σ ∧ ∃ o S', m ρ S = some (o, S') ∧ match o with
  | .ok ds => ∀ F' μ' H' p xs, Grow F H F' H' μ μ' → Rel K w F' μ' S' H' → H' p = some (.lst xs) → F' p = none → p ∉ μ' → H p = none → RepAll K w F' ds xs → Q (.ref p) H'
  | .ex c fs => ∀ F' μ' H' d, Grow F H F' H' μ μ' → Rel K w F' μ' S' H' → ExD K w F' d fs → W (.ref (He.ga K c)) d σ H'
abbrev MN (X : Cx) (W : WX) (e : Expr) (m : NM) : Prop := PE X e (tN X.K X.w W m)
/-- .. and is frozen at once -/
theorem me_new {m : NM} (h : MN X W e m) : ME X W e (ofNew m) := PE.imp h fun σ H Q ⟨F, μ, ρ, S, h1, h2, o, S', h3, h4⟩ => by
  refine ⟨F, μ, ρ, S, h1, h2, ?_⟩
  unfold ofNew bindM at h3
  cases q : m ρ S with
  | none => rw [q] at h3; cases h3
  | some r =>
    obtain ⟨o1, S1⟩ := r
    rw [q] at h3
    cases o1 with
    | ex c fs => cases h3; exact ⟨_, _, rfl, h4⟩
    | ok ds =>
      cases h3
      refine ⟨.ok ds, _, rfl, fun F' μ' H' p xs g r hp hF hm h0 ra => ?_⟩
      obtain ⟨z1, z2⟩ := Step.fz r.le hp hF
      have st : Step F' H' (upd F' p (.lst xs)) H' ∨ True := .inr trivial
      have gr : Grow F H (upd F' p (.lst xs)) H' μ μ' := ⟨g.f.trans z2, g.p, g.h, fun a q1 q2 q3 => by
        by_cases e : a = p
        · rw [e]; exact h0
        · rw [upd_ne e] at q1; exact g.nf a q1 q2 q3, g.nm⟩
      refine h4 _ μ' H' _ gr ⟨z1, r.nd, r.len, r.there, fun n a c q1 q2 => ?_⟩ (Rep.lst upd_same (ra.mono z2))
      have na : a ≠ p := fun z => hm (by rw [← z]; exact List.mem_of_getElem? q1)
      have k := r.cell n a c q1 q2
      have nf : ∀ {P : Prop}, F' a = none ∧ P → upd F' p (.lst xs) a = none := fun z => by rw [upd_ne na]; exact z.1
      cases c with
      | lst ds => exact ⟨nf k, k.2.imp fun xs g => ⟨g.1, g.2.mono z2⟩⟩
      | dic kvs => exact ⟨nf k, k.2.imp fun xs g => ⟨g.1, g.2.mono z2⟩⟩
      | dit kvs => exact ⟨nf k, k.2.imp fun xs g => ⟨g.1, g.2.1.mono z2, g.2.2⟩⟩
      | ins C fs => exact ⟨nf k, k.2.imp fun dx g => g.imp fun xs g => ⟨g.1, g.2.mono z2 List.prefix_rfl⟩⟩
      | frz x => exact Rep.mono z2 k
theorem Rel.fresh {K : PySem.W.Frag} {w : World} {F H : Hp} {μ : List Addr} {S : Sto} (r : Rel K w F μ S H) {p : Addr} (h : H p = none) : F p = none ∧ p ∉ μ := ⟨r.le.free h, fun hm => r.there p hm h⟩
/-- from a rule that lays a new list -/
theorem tN_laid {K : PySem.W.Frag} {w : World} {H : Hp} {Q : VK} {F : Hp} {μ : List Addr} {S S' : Sto} {ds : List D} {xs : List V} {p : Addr} {H1 F1 : Hp} {μ1 : List Addr} (g : Grow F H F1 H1 μ μ1) (r1 : Rel K w F1 μ1 S' H1) (hp : H1 p = none) (ra : RepAll K w F1 ds xs)
    (k : ∀ F' μ' H' p xs, Grow F H F' H' μ μ' → Rel K w F' μ' S' H' → H' p = some (.lst xs) → F' p = none → p ∉ μ' → H p = none → RepAll K w F' ds xs → Q (.ref p) H') (r : Rel K w F μ S H) : Q (.ref p) (upd H1 p (.lst xs)) := by
  obtain ⟨f1, f2⟩ := r1.fresh hp
  have st : Step F1 H1 F1 (upd H1 p (.lst xs)) := ⟨Same.refl _, same_upd hp, r1.le.trans (same_upd hp), fun _ h1 h2 => absurd h2 h1⟩
  refine k F1 μ1 _ p xs (g.trans st.grow) (r1.step st) upd_same f1 f2 ?_ ra
  cases q : H p with
  | none => rfl
  | some o =>
    by_cases hm : p ∈ μ
    · exact absurd (g.p.subset hm) f2
    · rw [g.h p o q hm] at hp; cases hp
theorem mn_lst {es : List Expr} {ms : AM} (ha : MA X W es ms) : MN X W (.List es pos) (newR ms) :=
  PE.imp (pe_lst ha) fun σ H Q ⟨F, μ, ρ, S, h1, h2, o, S', h3, h4⟩ => by
    refine ⟨F, μ, ρ, S, h1, h2, ?_⟩
    unfold newR bindM at h3
    cases q : ms ρ S with
    | none => rw [q] at h3; cases h3
    | some r =>
      obtain ⟨o1, S1⟩ := r
      rw [q] at h3
      cases o1 with
      | ex c fs => cases h3; exact ⟨_, _, rfl, h4⟩
      | ok as =>
        refine ⟨.ok as, S1, rfl, fun F' μ' H' vs g r z => ?_⟩
        cases q2 : dsOf as with
        | none => simp [q2] at h3
        | some ds =>
          simp only [q2] at h3
          have ra := dsOf_rep z q2
          by_cases c : ds.length ≤ sizeLine
          · rw [if_pos c] at h3
            cases h3
            exact ⟨by rw [← ra.length]; exact c, fun p hp => tN_laid g r hp ra h4 h1⟩
          · rw [if_neg c] at h3; cases h3
theorem ms_own (i : Nat) {x : Str} {pos' : Pos} {m : NM} (hN : X.N.Nodup) (he : MN X W e m) (hi : X.N[i]? = some x := by rfl) (hx : Loc X.env.scope x := by first | exact Or.inl rfl | exact Or.inr rfl)
    (hs : swapsWith e (some (.Name x pos')) pos.line X.env = pure false := by rfl) (hf : X.fn x = true ∨ X.env.scope.names.lookup x = some .local := by first | exact .inl rfl | exact .inr rfl | assumption) : MS X W (.Assign [.Name x pos'] e pos) (ownM i m) :=
  PS.imp (ps_set hN hi hx he hs hf) fun D σ H ⟨B, F, μ, ρ, S, h1, fl, ρ', S', h2, h3⟩ => by
    refine ⟨F, μ, ρ, S, h1.rel, h1.fr, ?_⟩
    unfold ownM thenM at h2
    cases q : m ρ S with
    | none => rw [q] at h2; cases h2
    | some r =>
      obtain ⟨o1, S1⟩ := r
      rw [q] at h2
      cases o1 with
      | ex c fs => cases h2; exact ⟨_, _, rfl, fun F' μ' H' d g r z => h3 F' μ' σ H' g.f (h1.grow g r) d z⟩
      | ok ds =>
        refine ⟨.ok ds, S1, rfl, fun F' μ' H' p xs g r hp hF hm h0 ra => ?_⟩
        by_cases c : i < ρ.length
        · simp only [c, if_true] at h2
          cases h2
          have y := h1.grow g r
          refine h3 F' μ' _ H' g.f (y.own (h1.fresh h0) hm hF (by rw [hp]; exact fun z => nomatch z) ⟨hF, xs, hp, ra⟩ (fun j d e1 e2 => ?_) c)
          obtain ⟨a, g1, g2, g3, g4, g5⟩ := h1.fr.own j d e1
          rw [g1] at e2
          cases e2
          exact g4 h0
        · simp only [c, if_false] at h2; cases h2
end
end MM
namespace MM
open PySem PySem.Spec PyProof.Rows L2

/-! ### lists and dicts that are changed -/
def cellAt (ρ : Fr) (S : Sto) : R → Option Cell
  | .slot i => match ρ[i]? with
    | some (some (.own c)) => some c
    | _ => none
  | .loc n => S[n]?
  | .d _ => none
def putFr (ρ : Fr) (r : R) (c : Cell) : Fr := match r with
  | .slot i => ρ.set i (some (.own c))
  | _ => ρ
def putSto (S : Sto) (r : R) (c : Cell) : Sto := match r with
  | .loc n => S.set n c
  | _ => S
def liveC : Cell → Bool
  | .frz _ => false
  | _ => true
section
variable {K : PySem.W.Frag} {w : World} {W : WX} {F F' H H' : Hp} {μ μ' : List Addr} {S S' : Sto} {ρ : Fr} {σ : L2.St} {B : Bs}
theorem live_free {a : Addr} {c : Cell} (k : CellOk K w F μ H a c) (l : liveC c = true) : F a = none := by
  cases c with
  | frz x => cases l
  | lst ds => exact k.1
  | dic ds => exact k.1
  | dit ds => exact k.1
  | ins C ds => exact k.1
theorem RelFr.loc_put (fr : RelFr K w F μ H ρ σ) {n : Nat} {a : Addr} {o : HO} (hn : μ[n]? = some a) : RelFr K w F μ (upd H a o) ρ σ := by
  exact fr.grow (Grow.put o hn)
theorem StOk.mut (x : StOk K w B F μ ρ S σ H) {r : R} {v : V} {c : Cell} (h : RepR K w F μ σ r v) (e : cellAt ρ S r = some c) (l : liveC c = true) :
    ∃ a, v = .ref a ∧ CellOk K w F μ H a c ∧ ∀ c' o, CellOk K w F μ (upd H a o) a c' → StOk K w B F μ (putFr ρ r c') (putSto S r c') σ (upd H a o) := by
  cases r with
  | d y => cases e
  | loc n =>
    obtain ⟨a, h1, rfl⟩ := h
    have k := x.rel.cell n a c h1 e
    have hF := live_free k l
    exact ⟨a, rfl, k, fun c' o k' => ⟨x.rel.put h1 hF k', x.fr.loc_put h1, x.gr.trans (Grow.put o h1), x.ow⟩⟩
  | slot i =>
    unfold cellAt at e
    cases q : ρ[i]? with
    | none => simp [q] at e
    | some en =>
      cases en with
      | none => simp [q] at e
      | some en =>
        cases en with
        | r y => simp [q] at e
        | own c2 =>
          simp only [q, Option.some.injEq] at e
          subst e
          obtain ⟨a, h1, h2, h3, h4, h5⟩ := x.fr.own i c2 q
          have hv : σ[i]? = some (some v) := h
          rw [h1] at hv
          cases hv
          exact ⟨a, rfl, h5, fun c' o k' => x.owned q h1 k'⟩
end
/-- a list is changed in place -/
def mutL (r : R) (f : List D → Option (List D)) : SM := fun ρ S => match cellAt ρ S r with
  | some (.lst ds) => match f ds with
    | some es => some (.nx, putFr ρ r (.lst es), putSto S r (.lst es))
    | none => none
  | _ => none
/-- a receiver that is a list of our own to be changed -/
def isLst (r : R) : EM := fun ρ S => match cellAt ρ S r with
  | some (.lst _) => some (.ok r, S)
  | _ => none
def lstR (mo : EM) : EM := bindM mo isLst
def appD (a : R) (ds : List D) : Option (List D) := match a with
  | .d x => if ds.length < sizeLine then some (ds ++ [x]) else none
  | _ => none
def appM (mo me : EM) : SM := thenM (lstR mo) fun o => thenM me fun a => mutL o (appD a)
def setD (i a : R) (ds : List D) : Option (List D) := match i, a with
  | .d (.int k), .d x => (ixN ds.length k).map fun j => ds.set j x
  | _, _ => none
/-- o[i] = e for a list: e first -/
def setIxM (me mo mi : EM) : SM := thenM me fun a => thenM mo fun o => thenM mi fun i => mutL o (setD i a)
def popD (ds : List D) : Option (List D) := match ds[ds.length - 1]? with
  | some _ => some ds.dropLast
  | none => none
/-- o.pop() as a statement -/
def popM (mo : EM) : SM := thenM (lstR mo) fun o => mutL o popD
def insD (i a : R) (ds : List D) : Option (List D) := match i, a with
  | .d (.int k), .d x => if ds.length < sizeLine ∧ 0 ≤ k ∧ k < 2 ^ 63 then some (ds.take k.toNat ++ x :: ds.drop k.toNat) else none
  | _, _ => none
def insM (mo mi me : EM) : SM := thenM (lstR mo) fun o => thenM mi fun i => thenM me fun a => mutL o (insD i a)
section
variable {X : Cx} {W : WX} {e o i : Expr} {me mo mi : EM} {pos : Pos}
theorem flow_then2 {α β : Type} {K : PySem.W.Frag} {w : World} {En : Ends} {σ : L2.St} {H : Hp} {m : EM} {n : GM α} {Rb : L2.St → Hp → List Addr → α → β → Prop} {f : R → α → SM} (h : tS K w W (thenM m fun a => thenM n fun b => f a b) En σ H) :
    core K w (fun σ F μ => RepR K w F μ σ) W m σ H (fun x H1 => core K w Rb W n σ H1 fun y H2 => ∃ a b B F μ ρ S, StOk K w B F μ ρ S σ H2 ∧ RepR K w F μ σ a x ∧ Rb σ F μ b y ∧ flowAt K w W (f a b ρ S) B F En) := by
  refine (flow_then (Ra := fun σ F μ => RepR K w F μ σ) h).imp fun x H1 ⟨a, B, F, μ, ρ, S, h1, h2, fl, ρ', S', h3, h4⟩ => ?_
  refine ⟨F, μ, ρ, S, h1.rel, h1.fr, ?_⟩
  unfold thenM at h3
  cases q : n ρ S with
  | none => rw [q] at h3; cases h3
  | some r =>
    obtain ⟨o1, S1⟩ := r
    rw [q] at h3
    cases o1 with
    | ok b => exact ⟨.ok b, S1, rfl, fun F' μ' H' v g r z => ⟨a, b, B, F', μ', ρ, S1, h1.grow g r, h2.mono g.f g.p, z, flowAt.mono g.f ⟨fl, ρ', S', h3, h4⟩⟩⟩
    | ex c fs =>
      cases h3
      exact ⟨.ex c fs, _, rfl, fun F' μ' H' d g r z => h4 F' μ' σ H' g.f (h1.grow g r) d z⟩
theorem flow_then3 {K : PySem.W.Frag} {w : World} {En : Ends} {σ : L2.St} {H : Hp} {m n l : EM} {f : R → R → R → SM} (h : tS K w W (thenM m fun a => thenM n fun b => thenM l fun c => f a b c) En σ H) :
    tE K w W m σ H (fun x H1 => tE K w W n σ H1 fun y H2 => tE K w W l σ H2 fun z H3 => ∃ a b c B F μ ρ S, StOk K w B F μ ρ S σ H3 ∧ RepR K w F μ σ a x ∧ RepR K w F μ σ b y ∧ RepR K w F μ σ c z ∧ flowAt K w W (f a b c ρ S) B F En) := by
  refine (flow_then2 (Rb := fun σ F μ => RepR K w F μ σ) h).imp fun x H1 h => core.imp h fun y H2 ⟨a, b, B, F, μ, ρ, S, h1, h2, h2', fl, ρ', S', h3, h4⟩ => ?_
  refine ⟨F, μ, ρ, S, h1.rel, h1.fr, ?_⟩
  unfold thenM at h3
  cases q : l ρ S with
  | none => rw [q] at h3; cases h3
  | some r =>
    obtain ⟨o1, S1⟩ := r
    rw [q] at h3
    cases o1 with
    | ok c => exact ⟨.ok c, S1, rfl, fun F' μ' H' v g r z => ⟨a, b, c, B, F', μ', ρ, S1, h1.grow g r, h2.mono g.f g.p, h2'.mono g.f g.p, z, flowAt.mono g.f ⟨fl, ρ', S', h3, h4⟩⟩⟩
    | ex c fs =>
      cases h3
      exact ⟨.ex c fs, _, rfl, fun F' μ' H' d g r z => h4 F' μ' σ H' g.f (h1.grow g r) d z⟩
theorem flow_mutL {K : PySem.W.Frag} {w : World} {En : Ends} {σ : L2.St} {H F : Hp} {μ : List Addr} {ρ : Fr} {S : Sto} {B : Bs} {r : R} {v : V} {f : List D → Option (List D)} (x : StOk K w B F μ ρ S σ H) (h : RepR K w F μ σ r v) (k : flowAt K w W (mutL r f ρ S) B F En) :
    ∃ a xs ds es, v = .ref a ∧ H a = some (.lst xs) ∧ RepAll K w F ds xs ∧ f ds = some es ∧ ∀ ys, RepAll K w F es ys → En.nx σ (upd H a (.lst ys)) := by
  unfold mutL at k
  cases q : cellAt ρ S r with
  | none => simp only [q] at k; exact k.none_
  | some c =>
    cases c with
    | lst ds =>
      simp only [q] at k
      cases q2 : f ds with
      | none => simp only [q2] at k; exact k.none_
      | some es =>
        simp only [q2] at k
        obtain ⟨a, rfl, ⟨hF, xs, hx, ra⟩, put⟩ := x.mut h q rfl
        exact ⟨a, xs, ds, es, rfl, hx, ra, q2, fun ys ry => k.nx (put (.lst es) (.lst ys) ⟨hF, ys, upd_same, ry⟩)⟩
    | dic ds => simp only [q] at k; exact k.none_
    | dit ds => simp only [q] at k; exact k.none_
    | ins C ds => simp only [q] at k; exact k.none_
    | frz ds => simp only [q] at k; exact k.none_
theorem tyL {K : PySem.W.Frag} {H : Hp} {a : Addr} {xs : List V} (h : H a = some (.lst xs)) : tyV K "list" (.ref a) H := .inl ⟨rfl, _, SqL.of h⟩
theorem isLst_ok {K : PySem.W.Frag} {w : World} {σ : L2.St} {H : Hp} {Q : VK} (h : tE K w W (lstR mo) σ H Q) : tE K w W mo σ H (fun x H1 => tyV K "list" x H1 ∧ Q x H1) := by
  refine (core_bind (Ra := fun σ F μ => RepR K w F μ σ) h).imp fun x H1 ⟨r, F, μ, ρ, S, h1, h2, h3, h4⟩ => ?_
  unfold isLst at h4
  cases q : cellAt ρ S r with
  | none => simp only [q] at h4; exact h4.none_
  | some c =>
    cases c with
    | lst ds =>
      simp only [q] at h4
      have hx : ∃ a xs, x = .ref a ∧ H1 a = some (.lst xs) := by
        cases r with
        | d y => cases q
        | loc n =>
          obtain ⟨a, k1, rfl⟩ := h3
          obtain ⟨_, xs, k2, _⟩ := h1.cell n a _ k1 q
          exact ⟨a, xs, rfl, k2⟩
        | slot i =>
          unfold cellAt at q
          cases q1 : ρ[i]? with
          | none => simp [q1] at q
          | some en =>
            cases en with
            | none => simp [q1] at q
            | some en =>
              cases en with
              | r y => simp [q1] at q
              | own c2 =>
                simp only [q1, Option.some.injEq] at q
                subst q
                obtain ⟨a, k1, _, _, _, _, xs, k2, _⟩ := h2.own i _ q1
                have hv : σ[i]? = some (some x) := h3
                rw [k1] at hv
                cases hv
                exact ⟨a, xs, rfl, k2⟩
      obtain ⟨a, xs, rfl, hx⟩ := hx
      exact ⟨tyL hx, h4.ok .refl h1 h3⟩
    | dic ds => simp only [q] at h4; exact h4.none_
    | dit ds => simp only [q] at h4; exact h4.none_
    | ins C ds => simp only [q] at h4; exact h4.none_
    | frz ds => simp only [q] at h4; exact h4.none_
theorem tE_lst {K : PySem.W.Frag} {w : World} {σ : L2.St} {H : Hp} {Q : VK} (h : tE K w W (lstR mo) σ H Q) : tE K w W mo σ H (fun x H1 => tyV K "list" x H1 ∧ Q x H1) := isLst_ok h
/-- o.append(e) -/
theorem ms_app {apos cpos : Pos} (ho : ME X W o mo) (he : ME X W e me) (hbase : attributeBase o "append" X.env (eval o X.env) = eval o X.env := by rfl)
    (hfew : ((backTo cpos (starEach [e] X.env)).all (fun x => !x.1) && (backToKw cpos (keywordEach [] X.env)).all (fun x => x.1.isSome) && decide ([e].length + ([] : List Keyword).length + (if ([] : List Keyword).isEmpty then 0 else 1) < 30)) = true := by rfl)
    (hline : (apos.endLine == cpos.line) = true := by rfl) (hs : starEach [e] X.env = (false, eval e X.env) :: starEach [] X.env := by rfl) (hplain : (backTo cpos (starEach [] X.env)).any (·.1) = false := by rfl)
    (hsw : swapsWith (.Call (.Attribute o "append" apos) [e] [] cpos) none pos.line X.env = pure false := by rfl) : MS X W (.Expr (.Call (.Attribute o "append" apos) [e] [] cpos) pos) (appM mo me) :=
  PS.imp (ps_expr (pe_bm PySem.F.plainAttrs_list PySem.F.slot_list_append PySem.F.type_list_append mt_append ho (pa_cons he pa_nil hs) hbase hfew hline hs hplain) hsw) fun En σ H h => by
    refine isLst_ok (flow_then2 (Rb := fun σ F μ => RepR X.K X.w F μ σ) h |>.imp fun x H1 h => ?_)
    exact core.imp h fun y H2 ⟨a, b, B, F, μ, ρ, S, h1, h2, h3, h4⟩ => by
      obtain ⟨p, xs, ds, es, rfl, hx, ra, hf, k⟩ := flow_mutL h1 h2 h4
      unfold appD at hf
      split at hf
      · rename_i z
        by_cases c : ds.length < sizeLine
        · rw [if_pos c] at hf
          cases hf
          exact ⟨p, xs, y, rfl, rfl, hx, by rw [← ra.length]; exact c, k _ (ra.append (.cons h3 .nil))⟩
        · rw [if_neg c] at hf; cases hf
      · cases hf
/-- o.pop() -/
theorem ms_pop {apos cpos : Pos} (ho : ME X W o mo) (hbase : attributeBase o "pop" X.env (eval o X.env) = eval o X.env := by rfl)
    (hline : (apos.endLine == cpos.line) = true := by rfl) (hsw : swapsWith (.Call (.Attribute o "pop" apos) [] [] cpos) none pos.line X.env = pure false := by rfl) : MS X W (.Expr (.Call (.Attribute o "pop" apos) [] [] cpos) pos) (popM mo) :=
  PS.imp (ps_expr (pe_bm0 PySem.F.plainAttrs_list PySem.F.slot_list_pop PySem.F.type_list_pop mt_pop ho hbase hline) hsw) fun En σ H h => by
    refine isLst_ok ((flow_then (Ra := fun σ F μ => RepR X.K X.w F μ σ) h).imp fun x H1 ⟨a, B, F, μ, ρ, S, h1, h2, h3⟩ => ?_)
    obtain ⟨p, xs, ds, es, rfl, hx, ra, hf, k⟩ := flow_mutL h1 h2 h3
    unfold popD at hf
    split at hf
    · rename_i d q
      cases hf
      obtain ⟨v, q2, _⟩ := ra.get q
      exact ⟨p, xs, v, rfl, rfl, hx, by rw [← ra.length]; exact q2, k _ ra.dropLast⟩
    · cases hf
/-- o[i] = e -/
theorem ms_setIx {p2 : Pos} (he : ME X W e me) (ho : ME X W o mo) (hi : ME X W i mi)
    (ha : ∀ v, assign (.Subscript o i p2) X.env v = (do
      let ov ← holding [v] (eval o X.env)
      let iv ← holding [v, ov] (eval i X.env)
      standAt p2
      holding [v, ov, iv] (setItem ov iv v)
      release [v, ov, iv] []) := by intro _; rfl) (hs : swapsWithSole [.Subscript o i p2] e pos.line X.env = pure false := by rfl) (hw : swappedStores [.Subscript o i p2] e X.env = pure none := by rfl)
    (h1 : (assignEach [.Subscript o i p2] X.env).map (·.2) = [assign (.Subscript o i p2) X.env] := by rfl) : MS X W (.Assign [.Subscript o i p2] e pos) (setIxM me mo mi) :=
  PS.imp (ps_asg he (pg_sub ho hi set_list ha) hs hw h1) fun En σ H h => (flow_then3 h).imp fun x H1 h => core.imp h fun y H2 h => core.imp h fun z H3 ⟨a, b, c, B, F, μ, ρ, S, h1, h2, h3, h4, h5⟩ => by
    obtain ⟨p, xs, ds, es, rfl, hx, ra, hf, k⟩ := flow_mutL h1 h3 h5
    unfold setD at hf
    split at hf
    · rename_i kk xx
      obtain ⟨j, q, rfl⟩ := Option.map_eq_some_iff.mp hf
      cases h4
      exact ⟨p, xs, kk, j, rfl, rfl, hx, by rw [← ra.length]; exact q, k _ (RepAll.set h2 j ra)⟩
    · cases hf
end
end MM
namespace MM
open PySem PySem.Spec PyProof.Rows L2

/-! ### what is walked -/
def YG (K : PySem.W.Frag) (w : World) (F : Hp) (ds : List D) : Nat → Hp → V → Hp → Prop := fun i H x H' =>
  ∃ d, ds[i]? = some d ∧ ∀ F2, Same F F2 → Same F2 H → ∃ F3, Step F2 H F3 H' ∧ Rep K w F3 d x
def GoodJ (K : PySem.W.Frag) (w : World) (F : Hp) (ds : List D) (J : It) : Prop := Walk J ds.length (fun H => Same F H) (YG K w F ds)
def iM (K : PySem.W.Frag) (w : World) (W : WX) (m : NM) : TI := fun σ H R => ∃ F μ ρ S, Rel K w F μ S H ∧ RelFr K w F μ H ρ σ ∧ ∃ o S', m ρ S = some (o, S') ∧ match o with
  | .ok ds => ∀ F' μ' H' J, Grow F H F' H' μ μ' → Rel K w F' μ' S' H' → GoodJ K w F' ds J → R J H'
  | .ex c fs => ∀ F' μ' H' d, Grow F H F' H' μ μ' → Rel K w F' μ' S' H' → ExD K w F' d fs → W (.ref (He.ga K c)) d σ H'
abbrev MI (X : Cx) (W : WX) (tg iter : Expr) (m : NM) : Prop := PI X tg iter (iM X.K X.w W m)
theorem PI_imp {X : Cx} {tg e : Expr} {t t' : TI} (h : PI X tg e t) (g : ∀ σ H R, t' σ H R → t σ H R) : PI X tg e t' := ⟨fun pins s σ H R I q => h.run pins s σ H R I (g σ H R q)⟩
section
variable {K : PySem.W.Frag} {w : World} {F F' H H' : Hp} {ds : List D} {xs : List V} {a : Addr}
theorem good_list (h : F a = some (.lst xs)) (r : RepAll K w F ds xs) : GoodJ K w F ds (Itl K a) := by
  unfold GoodJ
  rw [r.length]
  refine walk_list.mono (fun H e => SqL.of (e _ _ h)) fun i H x H' hi e ⟨h1, h2⟩ => ?_
  obtain ⟨d, q1, q2⟩ := r.get' h2
  subst h1
  exact ⟨d, q1, fun F2 e1 e2 => ⟨F2, Step.refl e2, q2.mono e1⟩⟩
theorem good_tup (h : SqT K F a xs) (r : RepAll K w F ds xs) : GoodJ K w F ds (Itt K a) := by
  unfold GoodJ
  rw [r.length]
  refine walk_tup.mono (fun H e => Same.seqT e h) fun i H x H' hi e ⟨h1, h2⟩ => ?_
  obtain ⟨d, q1, q2⟩ := r.get' h2
  subst h1
  exact ⟨d, q1, fun F2 e1 e2 => ⟨F2, Step.refl e2, q2.mono e1⟩⟩
def rngL (lo : Int) (n : Nat) : List D := (List.range n).map fun (i : Nat) => D.int (lo + (i : Int))
theorem good_range {lo : Int} {n : Nat} : GoodJ K w F (rngL lo n) (Itr lo n) := by
  unfold GoodJ
  have hl : (rngL lo n).length = n := by simp [rngL]
  rw [hl]
  refine walk_range.mono (fun _ _ => trivial) fun i H x H' hi e ⟨h1, h2⟩ => ?_
  subst h1 h2
  exact ⟨.int (lo + (i : Int)), by simp [rngL, hi], fun F2 e1 e2 => ⟨F2, Step.refl e2, .int _⟩⟩
def rngC (lo c : Int) (n : Nat) : List D := (List.range n).map fun (i : Nat) => D.int (lo + (i : Int) * c)
theorem good_rangeC {lo c : Int} {n : Nat} : GoodJ K w F (rngC lo c n) (Itc lo c n) := by
  unfold GoodJ
  have hl : (rngC lo c n).length = n := by simp [rngC]
  rw [hl]
  refine walk_rangeC.mono (fun _ _ => trivial) fun i H x H' hi e ⟨h1, h2⟩ => ?_
  subst h1 h2
  exact ⟨.int (lo + (i : Int) * c), by simp [rngC, hi], fun F2 e1 e2 => ⟨F2, Step.refl e2, .int _⟩⟩
/-- a new pair -/
theorem pair_step {F2 : Hp} {T : Addr} {x y : V} {d e : D} (le : Same F2 H) (hT : H T = none) (h1 : Rep K w F2 d x) (h2 : Rep K w F2 e y) : ∃ F3, Step F2 H F3 (upd H T (.tup [x, y])) ∧ Rep K w F3 (.tup [d, e]) (.ref T) := by
  have st := Step.new1 le hT (.tup [x, y])
  exact ⟨_, st, .tup (.inl (.inl upd_same)) (.cons (h1.mono st.f) (.cons (h2.mono st.f) .nil))⟩
def enumL (ds : List D) : List D := ds.mapIdx fun i d => D.tup [.int (i : Int), d]
theorem good_enum (h : F a = some (.lst xs)) (r : RepAll K w F ds xs) : GoodJ K w F (enumL ds) (Ite K a) := by
  unfold GoodJ
  have hl : (enumL ds).length = xs.length := by simp [enumL, r.length]
  rw [hl]
  refine walk_enum.mono (fun H e => SqL.of (e _ _ h)) fun i H x H' hi e ⟨T, u, v, h1, h2, h3, h4, h5⟩ => ?_
  obtain ⟨d, q1, q2⟩ := r.get' h5
  cases h4
  rw [h1, h3]
  exact ⟨.tup [.int (i : Int), d], by simp [enumL, q1], fun F2 e1 e2 => pair_step e2 h2 (.int _) (q2.mono e1)⟩
def zipL (ds es : List D) : List D := List.zipWith (fun d e => D.tup [d, e]) ds es
theorem good_zip {b : Addr} {ys : List V} {es : List D} (h : F a = some (.lst xs)) (r : RepAll K w F ds xs) (h' : F b = some (.lst ys)) (r' : RepAll K w F es ys) : GoodJ K w F (zipL ds es) (Itz K a b) := by
  unfold GoodJ
  have hl : (zipL ds es).length = min xs.length ys.length := by simp [zipL, r.length, r'.length]
  rw [hl]
  refine (walk_zip (K := K) (a := a) (b := b) (xs := xs) (ys := ys) rfl).mono (fun H e => ⟨SqL.of (e _ _ h), SqL.of (e _ _ h')⟩) fun i H x H' hi e ⟨T, u, v, h1, h2, h3, h4, h5⟩ => ?_
  obtain ⟨d, q1, q2⟩ := r.get' h4
  obtain ⟨d', q1', q2'⟩ := r'.get' h5
  rw [h1, h3]
  exact ⟨.tup [d, d'], by simp [zipL, List.getElem?_zipWith, q1, q1'], fun F2 e1 e2 => pair_step e2 h2 (q2.mono e1) (q2'.mono e1)⟩
theorem good_zipT {b : Addr} {ys : List V} {es : List D} (h : SqT K F a xs) (r : RepAll K w F ds xs) (h' : SqT K F b ys) (r' : RepAll K w F es ys) : GoodJ K w F (zipL ds es) (RZ.ItzT K a b) := by
  unfold GoodJ
  have hl : (zipL ds es).length = min xs.length ys.length := by simp [zipL, r.length, r'.length]
  rw [hl]
  refine ⟨fun i H hi e => ?_, fun H e => ⟨xs, ys, Same.seqT e h, Same.seqT e h', by omega⟩, fun i H x H' hi e ⟨T, u, v, h1, h2, h3, h4, h5⟩ => ?_⟩
  · have h1 : i < xs.length := by omega
    have h2 : i < ys.length := by omega
    exact ⟨xs, ys, xs[i], ys[i], Same.seqT e h, Same.seqT e h', by simp [h1], by simp [h2]⟩
  · obtain ⟨d, q1, q2⟩ := r.get' (h4 xs (Same.seqT e h))
    obtain ⟨d', q1', q2'⟩ := r'.get' (h5 ys (Same.seqT e h'))
    rw [h1, h3]
    exact ⟨.tup [d, d'], by simp [zipL, List.getElem?_zipWith, q1, q1'], fun F2 e1 e2 => pair_step e2 h2 (q2.mono e1) (q2'.mono e1)⟩
end
/-! ### the walks by their expressions -/
def seqR (r : R) : NM := fun _ S => match r with
  | .d (.lst ds) => some (.ok ds, S)
  | .d (.tup ds) => some (.ok ds, S)
  | _ => none
def iSeqM (me : EM) : NM := bindM me seqR
def rng1R (as : List R) : NM := fun _ S => match as with
  | [.d (.int j)] => if -(2 ^ 62) ≤ j ∧ j < 2 ^ 62 then some (.ok (rngL 0 j.toNat), S) else none
  | _ => none
def iRng1M (ms : AM) : NM := bindM ms rng1R
def rng2R (as : List R) : NM := fun _ S => match as with
  | [.d (.int i), .d (.int j)] => if -(2 ^ 62) ≤ i ∧ i < 2 ^ 62 ∧ -(2 ^ 62) ≤ j ∧ j < 2 ^ 62 then some (.ok (rngL i (j - i).toNat), S) else none
  | _ => none
def iRng2M (ms : AM) : NM := bindM ms rng2R
/-- range(i, j, -1) -/
def rng3R (as : List R) : NM := fun _ S => match as with
  | [.d (.int i), .d (.int j), .d (.int c)] => if -(2 ^ 62) ≤ i ∧ i < 2 ^ 62 ∧ -(2 ^ 62) ≤ j ∧ j < 2 ^ 62 ∧ c = -1 then some (.ok (rngC i (-1) (i - j).toNat), S) else none
  | _ => none
def iRng3M (ms : AM) : NM := bindM ms rng3R
def enumR (as : List R) : NM := fun _ S => match as with
  | [.d (.lst ds)] => some (.ok (enumL ds), S)
  | _ => none
def iEnumM (ms : AM) : NM := bindM ms enumR
def zipR (as : List R) : NM := fun _ S => match as with
  | [.d (.lst ds), .d (.lst es)] => some (.ok (zipL ds es), S)
  | [.d (.tup ds), .d (.tup es)] => some (.ok (zipL ds es), S)
  | _ => none
def iZipM (ms : AM) : NM := bindM ms zipR
section
variable {X : Cx} {W : WX} {tg l a b c : Expr} {ml : EM} {ms : AM} {p pos : Pos}
def iBoth (K : PySem.W.Frag) (tl : TE) : TI := fun σ H R => tl σ H fun x H1 => ∃ a, x = .ref a ∧ ((∃ xs, SqL K H1 a xs ∧ R (Itl K a) H1) ∨ (∃ xs, SqT K H1 a xs ∧ R (Itt K a) H1))
theorem pi_both {tl : TE} (hl : PE X l tl) : PI X tg l (iBoth X.K tl) := by
  refine ⟨fun pins s σ H R I h => ?_⟩
  refine thn (hl.run pins s σ H _ I h) fun v s1 ⟨x, H1, I1, r1, q1⟩ => ?_
  obtain ⟨a, e, q⟩ := q1
  subst e
  cases r1
  have fp : ∀ b, b ∈ [s1.heap.objs.size] → FpOk X pins H1 b := fun b hb => by
    have e : b = s1.heap.objs.size := by simpa using hb
    subst e
    exact I1.fpOk (Nat.le_refl _) (I1.hok.fresh (Nat.le_refl _))
  rcases q with ⟨xs, hq, q⟩ | ⟨xs, hq, q⟩
  · obtain ⟨its, rv, p, hz⟩ := I1.list hq
    refine wpAny_pyIter_list p.isList ?_
    exact ⟨s1.heap.objs.size, [s1.heap.objs.size], _, _, H1, rfl, I1.kept (t' := s1.toks) fun b o e => Heap.get?_push_of_some _ e, turn_list a _, ⟨_, Heap.get?_push_size _ rfl, rfl, rfl⟩, fp, q⟩
  · obtain ⟨its, rv, p, hz⟩ := I1.tuple hq
    refine wpAny_pyIter_tuple (show s1.heap.IsTuple a its.toArray from p) ?_
    exact ⟨s1.heap.objs.size, [s1.heap.objs.size], _, _, H1, rfl, I1.kept (t' := s1.toks) fun b o e => Heap.get?_push_of_some _ e, turn_tuple a _, ⟨_, Heap.get?_push_size _ rfl, rfl, rfl⟩, fp, q⟩
theorem iM_bind {α β : Type} {K : PySem.W.Frag} {w : World} {Ra : L2.St → Hp → List Addr → α → β → Prop} {σ : L2.St} {H : Hp} {R : It → Hp → Prop} {m : GM α} {f : α → NM} (h : iM K w W (bindM m f) σ H R) :
    core K w Ra W m σ H (fun x H1 => ∃ a F μ ρ S, Rel K w F μ S H1 ∧ RelFr K w F μ H1 ρ σ ∧ Ra σ F μ a x ∧ ∃ o S', f a ρ S = some (o, S') ∧ match o with
      | .ok ds => ∀ F' μ' H' J, Grow F H1 F' H' μ μ' → Rel K w F' μ' S' H' → GoodJ K w F' ds J → R J H'
      | .ex c fs => ∀ F' μ' H' d, Grow F H1 F' H' μ μ' → Rel K w F' μ' S' H' → ExD K w F' d fs → W (.ref (He.ga K c)) d σ H') := by
  obtain ⟨F, μ, ρ, S, h1, h2, o, S', h3, h4⟩ := h
  refine ⟨F, μ, ρ, S, h1, h2, ?_⟩
  unfold bindM at h3
  cases q : m ρ S with
  | none => rw [q] at h3; cases h3
  | some r =>
    obtain ⟨o1, S1⟩ := r
    rw [q] at h3
    cases o1 with
    | ok a =>
      refine ⟨.ok a, S1, rfl, fun F' μ' H' v g r z => ⟨a, F', μ', ρ, S1, r, h2.grow g, z, o, S', h3, ?_⟩⟩
      cases o with
      | ok ds => exact fun F2 μ2 H2 J g2 => h4 F2 μ2 H2 J (g.trans g2)
      | ex c fs => exact fun F2 μ2 H2 J g2 => h4 F2 μ2 H2 J (g.trans g2)
    | ex c fs =>
      cases h3
      exact ⟨.ex c fs, _, rfl, h4⟩
theorem mi_seq (hl : ME X W l ml) : MI X W tg l (iSeqM ml) :=
  PI_imp (pi_both hl) fun σ H R h => (iM_bind (Ra := fun σ F μ => RepR X.K X.w F μ σ) h).imp fun x H1 ⟨r, F, μ, ρ, S, h1, h2, h3, o, S', h4, h5⟩ => by
    unfold seqR at h4
    split at h4
    · cases h4
      cases h3 with
      | lst hF ra => exact ⟨_, rfl, .inl ⟨_, SqL.of (h1.le _ _ hF), h5 F μ H1 _ .refl h1 (good_list hF ra)⟩⟩
    · cases h4
      cases h3 with
      | tup hF ra => exact ⟨_, rfl, .inr ⟨_, Same.seqT h1.le hF, h5 F μ H1 _ .refl h1 (good_tup hF ra)⟩⟩
    · cases h4
theorem mi_range1 (hm : X.mg "range" = none) (ha : MA X W [a] ms) (hg : Gl X "range" := by rfl) (hs : starEach [a] X.env = [(false, eval a X.env)] := by rfl) : MI X W tg (.Call (.Name "range" p) [a] [] pos) (iRng1M ms) :=
  PI_imp (pi_range1 hg hm ha hs) fun σ H R h => (iM_bind (Ra := fun σ F μ => RepRs X.K X.w F μ σ) h).imp fun x H1 ⟨r, F, μ, ρ, S, h1, h2, h3, o, S', h4, h5⟩ => by
    unfold rng1R at h4
    split at h4
    · rename_i j
      by_cases c : -(2 ^ 62) ≤ j ∧ j < 2 ^ 62
      · rw [if_pos c] at h4
        cases h4
        cases h3 with
        | cons q r => cases r; cases q; exact ⟨j, rfl, c.1, c.2, h5 F μ H1 _ .refl h1 good_range⟩
      · rw [if_neg c] at h4; cases h4
    · cases h4
theorem mi_range2 (hm : X.mg "range" = none) (ha : MA X W [a, b] ms) (hg : Gl X "range" := by rfl) (hs : starEach [a, b] X.env = [(false, eval a X.env), (false, eval b X.env)] := by rfl) (hs2 : starEach [b] X.env = [(false, eval b X.env)] := by rfl) : MI X W tg (.Call (.Name "range" p) [a, b] [] pos) (iRng2M ms) :=
  PI_imp (pi_range2 hg hm ha hs hs2) fun σ H R h => (iM_bind (Ra := fun σ F μ => RepRs X.K X.w F μ σ) h).imp fun x H1 ⟨r, F, μ, ρ, S, h1, h2, h3, o, S', h4, h5⟩ => by
    unfold rng2R at h4
    split at h4
    · rename_i i j
      by_cases c : -(2 ^ 62) ≤ i ∧ i < 2 ^ 62 ∧ -(2 ^ 62) ≤ j ∧ j < 2 ^ 62
      · rw [if_pos c] at h4
        cases h4
        cases h3 with
        | cons q r => cases r with
          | cons q' r => cases r; cases q; cases q'; exact ⟨i, j, rfl, c, h5 F μ H1 _ .refl h1 good_range⟩
      · rw [if_neg c] at h4; cases h4
    · cases h4
theorem mi_range3 (hm : X.mg "range" = none) (ha : MA X W [a, b, c] ms) (hg : Gl X "range" := by rfl) (hs : starEach [a, b, c] X.env = (false, eval a X.env) :: starEach [b, c] X.env := by rfl) (hpl : (backTo pos (starEach [b, c] X.env)).any (·.1) = false := by rfl) :
    MI X W tg (.Call (.Name "range" p) [a, b, c] [] pos) (iRng3M ms) :=
  PI_imp (pi_range3 hg hm ha hs hpl) fun σ H R h => (iM_bind (Ra := fun σ F μ => RepRs X.K X.w F μ σ) h).imp fun x H1 ⟨r, F, μ, ρ, S, h1, h2, h3, o, S', h4, h5⟩ => by
    unfold rng3R at h4
    split at h4
    · rename_i i j k
      by_cases c : -(2 ^ 62) ≤ i ∧ i < 2 ^ 62 ∧ -(2 ^ 62) ≤ j ∧ j < 2 ^ 62 ∧ k = -1
      · rw [if_pos c] at h4
        cases h4
        obtain ⟨c1, c2, c3, c4, rfl⟩ := c
        cases h3 with
        | cons q r => cases r with
          | cons q' r => cases r with
            | cons q'' r => cases r; cases q; cases q'; cases q''; exact ⟨i, j, -1, _, rfl, RgC.neg c1 c2 c3 c4, h5 F μ H1 _ .refl h1 good_rangeC⟩
      · rw [if_neg c] at h4; cases h4
    · cases h4
theorem mi_enum {elts : List Expr} {kk : Nat} {tpos : Pos} (hm : X.mg "enumerate" = none) (ha : MA X W [a] ms) (hg : Gl X "enumerate" := by rfl) (hs : starEach [a] X.env = [(false, eval a X.env)] := by rfl) : MI X W (.Tuple elts kk tpos) (.Call (.Name "enumerate" p) [a] [] pos) (iEnumM ms) :=
  PI_imp (pi_enum hg hm ha hs) fun σ H R h => (iM_bind (Ra := fun σ F μ => RepRs X.K X.w F μ σ) h).imp fun x H1 ⟨r, F, μ, ρ, S, h1, h2, h3, o, S', h4, h5⟩ => by
    unfold enumR at h4
    split at h4
    · cases h4
      cases h3 with
      | cons q r =>
        cases r
        cases q with
        | lst hF ra => exact ⟨_, _, rfl, SqL.of (h1.le _ _ hF), h5 F μ H1 _ .refl h1 (good_enum hF ra)⟩
    · cases h4
theorem mi_zip {elts : List Expr} {kk : Nat} {tpos : Pos} (hm : X.mg "zip" = none) (ha : MA X W [a, b] ms) (hg : Gl X "zip" := by rfl) (hs : starEach [a, b] X.env = (false, eval a X.env) :: starEach [b] X.env := by rfl) (hpl : (backTo pos (starEach [b] X.env)).any (·.1) = false := by rfl) :
    MI X W (.Tuple elts kk tpos) (.Call (.Name "zip" p) [a, b] [] pos) (iZipM ms) :=
  PI_imp (RZ.pi_zipA hg hm ha hs hpl) fun σ H R h => (iM_bind (Ra := fun σ F μ => RepRs X.K X.w F μ σ) h).imp fun x H1 ⟨r, F, μ, ρ, S, h1, h2, h3, o, S', h4, h5⟩ => by
    unfold zipR at h4
    split at h4
    · cases h4
      cases h3 with
      | cons q r => cases r with
        | cons q' r =>
          cases r
          cases q with
          | lst hF ra => cases q' with
            | lst hF' ra' => exact ⟨_, _, _, _, rfl, .inl ⟨SqL.of (h1.le _ _ hF), SqL.of (h1.le _ _ hF'), h5 F μ H1 _ .refl h1 (good_zip hF ra hF' ra')⟩⟩
    · cases h4
      cases h3 with
      | cons q r => cases r with
        | cons q' r =>
          cases r
          cases q with
          | tup hF ra => cases q' with
            | tup hF' ra' => exact ⟨_, _, _, _, rfl, .inr ⟨Same.seqT h1.le hF, Same.seqT h1.le hF', h5 F μ H1 _ .refl h1 (good_zipT hF ra hF' ra')⟩⟩
    · cases h4
end
end MM
namespace MM
open PySem PySem.Spec PyProof.Rows L2

/-! ### targets -/
abbrev TgM := D → Fr → Option Fr
def nameT (i : Nat) : TgM := fun d ρ => if i < ρ.length then some (ρ.set i (some (.r (.d d)))) else none
def tgs : List TgM → List D → Fr → Option Fr
  | [], [], ρ => some ρ
  | t :: ts, d :: ds, ρ => (t d ρ).bind (tgs ts ds)
  | _, _, _ => none
def tupT (ts : List TgM) : TgM := fun d ρ => match d with
  | .tup ds => tgs ts ds ρ
  | _ => none
structure TOk (K : PySem.W.Frag) (w : World) (F : Hp) (μ : List Addr) (H : Hp) (sl : List Nat) (ρ ρ1 : Fr) (σ σ1 : L2.St) : Prop where
  fr : RelFr K w F μ H ρ1 σ1
  out : ∀ j, j ∉ sl → σ1[j]? = σ[j]?
  len : σ1.length = σ.length
  ow : ∀ (i : Nat) (c : Cell) (a : Addr), ρ1[i]? = some (some (.own c)) → σ1[i]? = some (some (.ref a)) → ρ[i]? = some (some (.own c)) ∧ σ[i]? = some (some (.ref a))
def gM (K : PySem.W.Frag) (w : World) (sl : List Nat) (t : TgM) : TG := fun v σ H Q => ∃ F μ ρ S d ρ1, Rel K w F μ S H ∧ RelFr K w F μ H ρ σ ∧ Rep K w F d v ∧ t d ρ = some ρ1 ∧ ∀ σ1, TOk K w F μ H sl ρ ρ1 σ σ1 → Q σ1 H
def gsM (K : PySem.W.Frag) (w : World) (sl : List Nat) (ts : List TgM) : TGs := fun vs σ H Q => ∃ F μ ρ S ds ρ1, Rel K w F μ S H ∧ RelFr K w F μ H ρ σ ∧ RepAll K w F ds vs ∧ tgs ts ds ρ = some ρ1 ∧ ∀ σ1, TOk K w F μ H sl ρ ρ1 σ σ1 → Q σ1 H
abbrev MG (X : Cx) (tg : Expr) (sl : List Nat) (t : TgM) : Prop := PG X tg (gM X.K X.w sl t)
abbrev MGs (X : Cx) (tg : List Expr) (sl : List Nat) (t : List TgM) : Prop := PGs X tg (gsM X.K X.w sl t)
theorem PG_imp {X : Cx} {e : Expr} {t t' : TG} (h : PG X e t) (g : ∀ v σ H Q, t' v σ H Q → t v σ H Q) : PG X e t' := ⟨fun pins s σ H v u Q I r q => h.run pins s σ H v u Q I r (g v σ H Q q)⟩
theorem PGs_imp {X : Cx} {e : List Expr} {t t' : TGs} (h : PGs X e t) (g : ∀ v σ H Q, t' v σ H Q → t v σ H Q) : PGs X e t' := ⟨fun pins s σ H v u Q I r q => h.run pins s σ H v u Q I r (g v σ H Q q)⟩
theorem TOk.refl {K : PySem.W.Frag} {w : World} {F H : Hp} {μ : List Addr} {ρ : Fr} {σ : L2.St} (h : RelFr K w F μ H ρ σ) : TOk K w F μ H [] ρ ρ σ σ := ⟨h, fun _ _ => rfl, rfl, fun _ _ _ a b => ⟨a, b⟩⟩
theorem TOk.trans {K : PySem.W.Frag} {w : World} {F H : Hp} {μ : List Addr} {sl sl' : List Nat} {ρ ρ1 ρ2 : Fr} {σ σ1 σ2 : L2.St} (a : TOk K w F μ H sl ρ ρ1 σ σ1) (b : TOk K w F μ H sl' ρ1 ρ2 σ1 σ2) : TOk K w F μ H (sl ++ sl') ρ ρ2 σ σ2 :=
  ⟨b.fr, fun j h => by
    rw [List.mem_append, not_or] at h
    rw [b.out j h.2, a.out j h.1], b.len.trans a.len, fun i c p h1 h2 => let ⟨g1, g2⟩ := b.ow i c p h1 h2; a.ow i c p g1 g2⟩
theorem set_frame {K : PySem.W.Frag} {w : World} {F H : Hp} {μ : List Addr} {ρ : Fr} {σ : L2.St} (x : RelFr K w F μ H ρ σ) {i : Nat} {d : D} {v : V} (h : Rep K w F d v) (hi : i < ρ.length) : TOk K w F μ H [i] ρ (ρ.set i (some (.r (.d d)))) σ (σ.set i (some v)) := by
  have hs : i < σ.length := by rw [← x.len]; exact hi
  refine ⟨⟨by simp [x.len], fun j y e => ?_, fun j cc e => ?_, fun j k cc dd a e1 e2 e3 e4 => ?_⟩, fun j hj => ?_, by simp, fun j cc a e1 e2 => ?_⟩
  · by_cases q : j = i
    · subst q
      rw [List.getElem?_set_self hi] at e; cases e
      exact ⟨v, List.getElem?_set_self hs, h⟩
    · rw [List.getElem?_set_ne (Ne.symm q)] at e ⊢
      exact x.r j y e
  · by_cases q : j = i
    · subst q
      rw [List.getElem?_set_self hi] at e; cases e
    · rw [List.getElem?_set_ne (Ne.symm q)] at e ⊢
      exact x.own j cc e
  · have n1 : j ≠ i := fun q => by subst q; rw [List.getElem?_set_self hi] at e1; cases e1
    have n2 : k ≠ i := fun q => by subst q; rw [List.getElem?_set_self hi] at e2; cases e2
    rw [List.getElem?_set_ne (Ne.symm n1)] at e1 e3
    rw [List.getElem?_set_ne (Ne.symm n2)] at e2 e4
    exact x.dist j k cc dd a e1 e2 e3 e4
  · have : j ≠ i := by simpa using hj
    rw [List.getElem?_set_ne (Ne.symm this)]
  · have n1 : j ≠ i := fun q => by subst q; rw [List.getElem?_set_self hi] at e1; cases e1
    rw [List.getElem?_set_ne (Ne.symm n1)] at e1 e2
    exact ⟨e1, e2⟩
section
variable {X : Cx} {pos : Pos}
theorem mg_name (i : Nat) {x : Str} (hN : X.N.Nodup) (hi : X.N[i]? = some x := by rfl) (hx : Loc X.env.scope x := by first | exact Or.inl rfl | exact Or.inr rfl) (hf : X.fn x = true ∨ X.env.scope.names.lookup x = some .local := by first | exact .inl rfl | exact .inr rfl | assumption) : MG X (.Name x pos) [i] (nameT i) :=
  PG_imp (pg_name hN hi hx hf) fun v σ H Q ⟨F, μ, ρ, S, d, ρ1, h1, h2, h3, h4, h5⟩ => by
    unfold nameT at h4
    by_cases c : i < ρ.length
    · rw [if_pos c] at h4
      cases h4
      exact h5 _ (set_frame h2 h3 c)
    · rw [if_neg c] at h4; cases h4
theorem mgs_nil : MGs X [] [] [] := PGs_imp pgs_nil fun vs σ H Q ⟨F, μ, ρ, S, ds, ρ1, h1, h2, h3, h4, h5⟩ => by
  cases ds with
  | nil =>
    cases h3
    cases h4
    exact ⟨rfl, h5 _ (.refl h2)⟩
  | cons d ds => cases h4
theorem mgs_cons {e : Expr} {es : List Expr} {sl sl' : List Nat} {t : TgM} {ts : List TgM} (h1 : MG X e sl t) (h2 : MGs X es sl' ts) (hs : (assignEach (e :: es) X.env).map (·.2) = assign e X.env :: (assignEach es X.env).map (·.2) := by rfl) : MGs X (e :: es) (sl ++ sl') (t :: ts) :=
  PGs_imp (pgs_cons h1 h2 hs) fun vs σ H Q ⟨F, μ, ρ, S, ds, ρ1, k1, k2, k3, k4, k5⟩ => by
    cases ds with
    | nil => cases k4
    | cons d ds =>
      cases k3 with
      | cons r rr =>
        unfold tgs at k4
        obtain ⟨ρ2, q1, q2⟩ := Option.bind_eq_some_iff.mp k4
        refine ⟨_, _, rfl, F, μ, ρ, S, d, ρ2, k1, k2, r, q1, fun σ1 T1 => ⟨F, μ, ρ2, S, ds, ρ1, k1, T1.fr, rr, q2, fun σ2 T2 => k5 σ2 (T1.trans T2)⟩⟩
theorem mg_tup {es : List Expr} {k : Nat} {sl : List Nat} {ts : List TgM} (hc : X.calm = true) (h : MGs X es sl ts) (hn : (assignEach es X.env).length = ts.length := by rfl) (hst : (assignEach es X.env).findIdx? (·.1) = none := by rfl) : MG X (.Tuple es k pos) sl (tupT ts) :=
  PG_imp (pg_tup hc h hn hst) fun v σ H Q ⟨F, μ, ρ, S, d, ρ1, h1, h2, h3, h4, h5⟩ => by
    unfold tupT at h4
    split at h4
    · rename_i ds
      cases h3 with
      | tup hF ra =>
        refine ⟨_, _, rfl, Same.seqT h1.le hF, ?_, F, μ, ρ, S, ds, ρ1, h1, h2, ra, h4, h5⟩
        have : ∀ (ts : List TgM) (ds : List D) (ρ ρ1 : Fr), tgs ts ds ρ = some ρ1 → ds.length = ts.length := by
          intro ts
          induction ts with
          | nil => intro ds ρ ρ1 h; cases ds with
            | nil => rfl
            | cons d ds => cases h
          | cons t ts ih => intro ds ρ ρ1 h; cases ds with
            | nil => cases h
            | cons d ds =>
              unfold tgs at h
              obtain ⟨ρ2, q1, q2⟩ := Option.bind_eq_some_iff.mp h
              exact congrArg Nat.succ (ih ds ρ2 ρ1 q2)
        rw [← ra.length]
        exact this ts ds ρ ρ1 h4
    · cases h4
end

/-! ### assignments by targets -/
def asgM (m : EM) (t : TgM) : SM := thenM m fun r ρ S => match r with
  | .d d => match t d ρ with
    | some ρ1 => some (.nx, ρ1, S)
    | none => none
  | _ => none
theorem StOk.tok {K : PySem.W.Frag} {w : World} {F H : Hp} {μ : List Addr} {sl : List Nat} {ρ ρ1 : Fr} {S : Sto} {σ σ1 : L2.St} {B : Bs} (x : StOk K w B F μ ρ S σ H) (t : TOk K w F μ H sl ρ ρ1 σ σ1) : StOk K w B F μ ρ1 S σ1 H :=
  ⟨x.rel, t.fr, x.gr, fun i c a h1 h2 => let ⟨g1, g2⟩ := t.ow i c a h1 h2; x.ow i c a g1 g2⟩
theorem ms_asg {X : Cx} {W : WX} {tg e : Expr} {me : EM} {sl : List Nat} {t : TgM} {pos : Pos} (he : ME X W e me) (hg : MG X tg sl t) (hs : swapsWithSole [tg] e pos.line X.env = pure false := by rfl) (hw : swappedStores [tg] e X.env = pure none := by rfl)
    (h1 : (assignEach [tg] X.env).map (·.2) = [assign tg X.env] := by rfl) : MS X W (.Assign [tg] e pos) (asgM me t) :=
  PS.imp (ps_asg he hg hs hw h1) fun En σ H h => (flow_then (Ra := fun σ F μ => RepR X.K X.w F μ σ) h).imp fun v H1 ⟨r, B, F, μ, ρ, S, h1, h2, h3⟩ => by
    split at h3
    · rename_i d
      cases q : t d ρ with
      | none => simp only [q] at h3; exact h3.none_
      | some ρ1 =>
        simp only [q] at h3
        exact ⟨F, μ, ρ, S, d, ρ1, h1.rel, h1.fr, h2, q, fun σ1 T => h3.nx (h1.tok T)⟩
    · exact h3.none_

/-! ### for -/
def loopM (t : TgM) (body : SM) : List D → SM
  | [] => nxM
  | d :: ds => fun ρ S => match t d ρ with
    | none => none
    | some ρ1 => match body ρ1 S with
      | some (.nx, ρ2, S2) => loopM t body ds ρ2 S2
      | some (.ct, ρ2, S2) => loopM t body ds ρ2 S2
      | some (.bk, ρ2, S2) => some (.nx, ρ2, S2)
      | some (.rt r, ρ2, S2) => some (.rt r, ρ2, S2)
      | some (.ex c fs, ρ2, S2) => some (.ex c fs, ρ2, S2)
      | none => none
def forM (mi : NM) (t : TgM) (body : SM) : SM := thenM mi (loopM t body)
theorem loop_step {K : PySem.W.Frag} {w : World} {W : WX} {t : TgM} {body : SM} {d : D} {ds : List D} {ρ ρ1 : Fr} {S : Sto} {B : Bs} {F : Hp} {En : Ends} (ht : t d ρ = some ρ1) (h : flowAt K w W (loopM t body (d :: ds) ρ S) B F En) :
    flowAt K w W (body ρ1 S) B F { En with nx := fun σ H => ∃ F' μ' ρ' S', StOk K w B F' μ' ρ' S' σ H ∧ Same F F' ∧ flowAt K w W (loopM t body ds ρ' S') B F' En, ct := fun σ H => ∃ F' μ' ρ' S', StOk K w B F' μ' ρ' S' σ H ∧ Same F F' ∧ flowAt K w W (loopM t body ds ρ' S') B F' En, bk := En.nx } := by
  obtain ⟨fl, ρ2, S2, h1, h2⟩ := h
  unfold loopM at h1
  simp only [ht] at h1
  cases q : body ρ1 S with
  | none => simp [q] at h1
  | some r =>
    obtain ⟨f2, ρ3, S3⟩ := r
    simp only [q] at h1
    refine ⟨f2, ρ3, S3, rfl, fun F' μ' σ' H' e x => ?_⟩
    cases f2 with
    | nx => exact ⟨F', μ', ρ3, S3, x, e, flowAt.mono e ⟨fl, ρ2, S2, h1, h2⟩⟩
    | ct => exact ⟨F', μ', ρ3, S3, x, e, flowAt.mono e ⟨fl, ρ2, S2, h1, h2⟩⟩
    | bk => cases h1; exact h2 F' μ' σ' H' e x
    | rt r => cases h1; exact h2 F' μ' σ' H' e x
    | ex c fs => cases h1; exact h2 F' μ' σ' H' e x
theorem ms_for {X : Cx} {W : WX} {tg iter : Expr} {mi : NM} {sl : List Nat} {t : TgM} {bd : List Stmt} {body : SM} {pos : Pos} (hp : PassesOwn (model X.prog X.w) X.A X.env X.xe) (hc : X.calm = true) (hi : MI X W tg iter mi) (hg : MG X tg sl t) (hb : MSs X W bd body)
    (hs : ∀ x, foldedSetIterable iter X.env x = pure x := by intro _; rfl) : MS X W (.For tg iter bd [] pos) (forM mi t body) :=
  PS.imp (ps_for hp hc hi hg hb hs) fun En σ H ⟨B, F, μ, ρ, S, h1, h2⟩ => by
    refine ⟨F, μ, ρ, S, h1.rel, h1.fr, ?_⟩
    obtain ⟨fl, ρ2, S2, h3, h4⟩ := h2
    unfold forM thenM at h3
    cases q : mi ρ S with
    | none => rw [q] at h3; cases h3
    | some r =>
      obtain ⟨o1, S1⟩ := r
      rw [q] at h3
      cases o1 with
      | ex c fs => cases h3; exact ⟨_, _, rfl, fun F' μ' H' d g r z => h4 F' μ' σ H' g.f (h1.grow g r) d z⟩
      | ok ds =>
        refine ⟨.ok ds, S1, rfl, fun F' μ' H' J g r gj => ?_⟩
        have y := h1.grow g r
        have fl0 : flowAt X.K X.w W (loopM t body ds ρ S1) B F' En := flowAt.mono g.f ⟨fl, ρ2, S2, h3, h4⟩
        refine for_it gj (fun i σ H => ∃ F2 μ2 ρ2 S2, StOk X.K X.w B F2 μ2 ρ2 S2 σ H ∧ Same F' F2 ∧ flowAt X.K X.w W (loopM t body (ds.drop i) ρ2 S2) B F2 En)
          ⟨F', μ', ρ, S1, y, Same.refl _, fl0⟩ (fun i σ H hi ⟨F2, μ2, ρ2, S2, k1, k2, k3⟩ => k2.trans k1.rel.le) ?_ ?_
        · rintro i x σ H H2 hi ⟨F2, μ2, ρ2, S2, k1, k2, k3⟩ ⟨d, hd, hF⟩
          obtain ⟨F3, st, rx⟩ := hF F2 k2 k1.rel.le
          have e : ds.drop i = d :: ds.drop (i + 1) := by
            rw [List.drop_eq_getElem_cons hi]
            congr 1
            rw [List.getElem?_eq_getElem hi] at hd
            exact Option.some.inj hd
          rw [e] at k3
          have y3 := k1.grow st.grow (k1.rel.step st)
          cases qt : t d ρ2 with
          | none =>
            obtain ⟨fl, _, _, h, _⟩ := k3
            unfold loopM at h
            simp [qt] at h
          | some ρ3 =>
            refine ⟨F3, μ2, ρ2, S2, d, ρ3, y3.rel, y3.fr, rx, qt, fun σ1 T => ?_⟩
            have ls := loop_step qt (flowAt.mono st.f k3)
            refine ⟨B, F3, μ2, ρ3, S2, y3.tok T, ?_⟩
            obtain ⟨f4, ρ4, S4, g1, g2⟩ := ls
            refine ⟨f4, ρ4, S4, g1, fun F5 μ5 σ5 H5 e x => ?_⟩
            have z := g2 F5 μ5 σ5 H5 e x
            cases f4 with
            | nx => obtain ⟨F6, μ6, ρ6, S6, a1, a2, a3⟩ := z; exact ⟨F6, μ6, ρ6, S6, a1, (k2.trans st.f).trans a2, a3⟩
            | ct => obtain ⟨F6, μ6, ρ6, S6, a1, a2, a3⟩ := z; exact ⟨F6, μ6, ρ6, S6, a1, (k2.trans st.f).trans a2, a3⟩
            | bk => exact z
            | rt r => exact z
            | ex c fs => exact z
        · rintro σ H ⟨F2, μ2, ρ2, S2, k1, k2, k3⟩
          rw [List.drop_length] at k3
          exact k3.nx k1

/-! ### while: the turns are counted down from a number of ours -/
def whileM (t : TM) (body : SM) : Nat → SM
  | 0 => fun _ _ => none
  | n + 1 => fun ρ S => match t ρ S with
    | some (.ok false, S1) => some (.nx, ρ, S1)
    | some (.ok true, S1) => match body ρ S1 with
      | some (.nx, ρ2, S2) => whileM t body n ρ2 S2
      | some (.ct, ρ2, S2) => whileM t body n ρ2 S2
      | some (.bk, ρ2, S2) => some (.nx, ρ2, S2)
      | some (.rt r, ρ2, S2) => some (.rt r, ρ2, S2)
      | some (.ex c fs, ρ2, S2) => some (.ex c fs, ρ2, S2)
      | none => none
    | some (.ex c fs, S1) => some (.ex c fs, ρ, S1)
    | none => none
/-- n: a bound for the turns, reckoned from the state ahead -/
def whlM (n : Fr → Sto → Nat) (t : TM) (body : SM) : SM := fun ρ S => whileM t body (n ρ S) ρ S
theorem ms_while {X : Cx} {W : WX} {c : Expr} {mt : TM} {bd : List Stmt} {body : SM} {pos : Pos} (n : Fr → Sto → Nat) (hp : PassesOwn (model X.prog X.w) X.A X.env X.xe) (hc : MT X W c mt) (hb : MSs X W bd body) : MS X W (.While c bd [] pos) (whlM n mt body) :=
  PS.imp (ps_while hp hc hb) fun En σ H ⟨B, F, μ, ρ, S, h1, h2⟩ => by
    refine ⟨fun m σ H => ∃ F2 μ2 ρ2 S2, StOk X.K X.w B F2 μ2 ρ2 S2 σ H ∧ flowAt X.K X.w W (whileM mt body m ρ2 S2) B F2 En, ⟨n ρ S, F, μ, ρ, S, h1, h2⟩, ?_⟩
    rintro m σ H ⟨F2, μ2, ρ2, S2, k1, fl, ρ', S', k2, k3⟩
    cases m with
    | zero => cases k2
    | succ m =>
      unfold whileM at k2
      refine ⟨F2, μ2, ρ2, S2, k1.rel, k1.fr, ?_⟩
      cases q : mt ρ2 S2 with
      | none => simp [q] at k2
      | some r =>
        obtain ⟨o, S3⟩ := r
        simp only [q] at k2
        cases o with
        | ex c fs => cases k2; exact ⟨_, _, rfl, fun F' μ' H' d g r z => k3 F' μ' σ H' g.f (k1.grow g r) d z⟩
        | ok b =>
          refine ⟨.ok b, S3, rfl, fun F' μ' H' v g r z => ?_⟩
          obtain rfl := z
          have y := k1.grow g r
          cases b with
          | false => cases k2; exact k3 F' μ' σ H' g.f y
          | true =>
            rw [if_pos rfl]
            refine ⟨fun σ H => ∃ F2 μ2 ρ2 S2, StOk X.K X.w B F2 μ2 ρ2 S2 σ H ∧ flowAt X.K X.w W (whileM mt body m ρ2 S2) B F2 En, fun σ' H' z => ⟨m, Nat.lt_succ_self _, z⟩, B, F', μ', ρ2, S3, y, ?_⟩
            simp only at k2
            cases qb : body ρ2 S3 with
            | none => simp [qb] at k2
            | some r2 =>
              obtain ⟨f2, ρ3, S4⟩ := r2
              simp only [qb] at k2
              refine ⟨f2, ρ3, S4, rfl, fun F5 μ5 σ5 H5 e x => ?_⟩
              cases f2 with
              | nx => exact ⟨F5, μ5, ρ3, S4, x, flowAt.mono (g.f.trans e) ⟨fl, ρ', S', k2, k3⟩⟩
              | ct => exact ⟨F5, μ5, ρ3, S4, x, flowAt.mono (g.f.trans e) ⟨fl, ρ', S', k2, k3⟩⟩
              | bk => cases k2; exact k3 F5 μ5 σ5 H5 (g.f.trans e) x
              | rt r => cases k2; exact k3 F5 μ5 σ5 H5 (g.f.trans e) x
              | ex c fs => cases k2; exact k3 F5 μ5 σ5 H5 (g.f.trans e) x
end MM
namespace MM
open PySem PySem.Spec PyProof.Rows L2

/-! ### list comprehensions -/
def wipeF (ρ : Fr) : List Nat → Fr
  | [] => ρ
  | v :: vs => (wipeF ρ vs).set v none
def yesT : TM := fun _ S => some (.ok true, S)
def lcL (vs : List Nat) (t : TgM) (tt : TM) (te : EM) : List D → List D → NM
  | [], acc => fun _ S => some (.ok acc, S)
  | d :: ds, acc => fun ρ S => match t d (wipeF ρ vs) with
    | none => none
    | some ρ1 => match tt ρ1 S with
      | some (.ok false, S1) => lcL vs t tt te ds acc ρ S1
      | some (.ok true, S1) => match te ρ1 S1 with
        | some (.ok (.d x), S2) => if acc.length < sizeLine then lcL vs t tt te ds (acc ++ [x]) ρ S2 else none
        | _ => none
      | _ => none
def lcM (mi : NM) (vs : List Nat) (t : TgM) (tt : TM) (te : EM) : NM := bindM mi fun ds => lcL vs t tt te ds []
theorem wipeF_length (ρ : Fr) : ∀ vs : List Nat, (wipeF ρ vs).length = ρ.length
  | [] => rfl
  | v :: vs => by unfold wipeF; rw [List.length_set, wipeF_length ρ vs]
theorem wipe_at (σ : L2.St) : ∀ (vs : List Nat) (j : Nat), (wipe σ vs)[j]? = if j ∈ vs then (if j < σ.length then some none else none) else σ[j]?
  | [], j => by simp [wipe]
  | v :: vs, j => by
    unfold wipe
    by_cases h : j = v
    · subst h
      by_cases hl : j < σ.length
      · rw [List.getElem?_set_self (by rw [wipe_length]; exact hl), if_pos List.mem_cons_self, if_pos hl]
      · rw [List.getElem?_eq_none (by rw [List.length_set, wipe_length]; omega), if_pos List.mem_cons_self, if_neg hl]
    · rw [List.getElem?_set_ne (Ne.symm h), wipe_at σ vs j]
      by_cases hm : j ∈ vs
      · rw [if_pos hm, if_pos (List.mem_cons_of_mem _ hm)]
      · rw [if_neg hm, if_neg (by simp [h, hm])]
theorem wipeF_at (σ : Fr) : ∀ (vs : List Nat) (j : Nat), (wipeF σ vs)[j]? = if j ∈ vs then (if j < σ.length then some none else none) else σ[j]?
  | [], j => by simp [wipeF]
  | v :: vs, j => by
    unfold wipeF
    by_cases h : j = v
    · subst h
      by_cases hl : j < σ.length
      · rw [List.getElem?_set_self (by rw [wipeF_length]; exact hl), if_pos List.mem_cons_self, if_pos hl]
      · rw [List.getElem?_eq_none (by rw [List.length_set, wipeF_length]; omega), if_pos List.mem_cons_self, if_neg hl]
    · rw [List.getElem?_set_ne (Ne.symm h), wipeF_at σ vs j]
      by_cases hm : j ∈ vs
      · rw [if_pos hm, if_pos (List.mem_cons_of_mem _ hm)]
      · rw [if_neg hm, if_neg (by simp [h, hm])]
theorem wipe_same {σ σ2 : L2.St} {vs sl : List Nat} (out : ∀ j, j ∉ sl → σ2[j]? = (wipe σ vs)[j]?) (len : σ2.length = (wipe σ vs).length) (sub : ∀ j ∈ sl, j ∈ vs) : wipe σ2 vs = wipe σ vs := by
  rw [wipe_length] at len
  refine List.ext_getElem? fun j => ?_
  rw [wipe_at, wipe_at, len]
  by_cases h : j ∈ vs
  · rw [if_pos h, if_pos h]
  · rw [if_neg h, if_neg h, out j (fun z => h (sub j z)), wipe_at, if_neg h]
section
variable {K : PySem.W.Frag} {w : World} {F F' H H' : Hp} {μ μ' : List Addr} {S S' : Sto} {ρ : Fr} {σ : L2.St}
theorem RelFr.wipe (x : RelFr K w F μ H ρ σ) (vs : List Nat) : RelFr K w F μ H (wipeF ρ vs) (L2.wipe σ vs) := by
  have get : ∀ {j : Nat} {e : Ent}, (wipeF ρ vs)[j]? = some (some e) → j ∉ vs ∧ ρ[j]? = some (some e) := fun {j e} h => by
    rw [wipeF_at] at h
    by_cases hm : j ∈ vs
    · rw [if_pos hm] at h
      split at h <;> cases h
    · rw [if_neg hm] at h; exact ⟨hm, h⟩
  refine ⟨by rw [wipeF_length, L2.wipe_length, x.len], fun i y e => ?_, fun i c e => ?_, fun i j c d a e1 e2 e3 e4 => ?_⟩
  · obtain ⟨h1, h2⟩ := get e
    obtain ⟨v, h3, h4⟩ := x.r i y h2
    exact ⟨v, by rw [wipe_at, if_neg h1]; exact h3, h4⟩
  · obtain ⟨h1, h2⟩ := get e
    obtain ⟨a, h3, h4⟩ := x.own i c h2
    exact ⟨a, by rw [wipe_at, if_neg h1]; exact h3, h4⟩
  · obtain ⟨h1, h2⟩ := get e1
    obtain ⟨h3, h4⟩ := get e2
    rw [wipe_at, if_neg h1] at e3
    rw [wipe_at, if_neg h3] at e4
    exact x.dist i j c d a h2 h4 e3 e4
/-- an object that is none of ours is changed -/
theorem CellOk.other {a p : Addr} {o : HO} {c : Cell} (n : a ≠ p) (k : CellOk K w F μ H a c) : CellOk K w F μ (upd H p o) a c := by
  cases c with
  | lst ds => obtain ⟨g1, xs, g2, g⟩ := k; exact ⟨g1, xs, by rw [upd_ne n]; exact g2, g⟩
  | dic kvs => obtain ⟨g1, xs, g2, g⟩ := k; exact ⟨g1, xs, by rw [upd_ne n]; exact g2, g⟩
  | dit kvs => obtain ⟨g1, xs, g2, g⟩ := k; exact ⟨g1, xs, by rw [upd_ne n]; exact g2, g⟩
  | ins C fs => obtain ⟨g1, dx, xs, g2, g⟩ := k; exact ⟨g1, dx, xs, by rw [upd_ne n]; exact g2, g⟩
  | frz x => exact k
theorem Rel.other (r : Rel K w F μ S H) {p : Addr} {o : HO} (hF : F p = none) (hm : p ∉ μ) : Rel K w F μ S (upd H p o) :=
  ⟨fun b u q => by rw [upd_ne (fun z => by rw [z, hF] at q; cases q)]; exact r.le b u q, r.nd, r.len, fun a ha => by
    rw [upd_ne (fun z => hm (by rw [← z]; exact ha))]; exact r.there a ha, fun n a c h1 h2 => (r.cell n a c h1 h2).other (fun z => hm (by rw [← z]; exact List.mem_of_getElem? h1))⟩
theorem RelFr.other (x : RelFr K w F μ H ρ σ) {p : Addr} {o : HO} (no : ∀ (j : Nat) (d : Cell), ρ[j]? = some (some (.own d)) → σ[j]? ≠ some (some (.ref p))) : RelFr K w F μ (upd H p o) ρ σ := by
  refine ⟨x.len, x.r, fun i c e => ?_, x.dist⟩
  obtain ⟨a, h1, h2, h3, h4, h5⟩ := x.own i c e
  have n : a ≠ p := fun z => no i c e (by rw [← z]; exact h1)
  exact ⟨a, h1, h2, h3, by rw [upd_ne n]; exact h4, h5.other n⟩
end
theorem Grow.back {F F' H H' : Hp} {μ μ' : List Addr} (g : Grow F H F' H' μ μ') {p : Addr} (h : H' p = none) (m : p ∉ μ') : H p = none := by
  cases q : H p with
  | none => rfl
  | some o =>
    by_cases hm : p ∈ μ
    · exact absurd (g.p.subset hm) m
    · rw [g.h p o q hm] at h; cases h
abbrev noW : WX := fun _ _ _ _ => False
theorem MTs_nil {X : Cx} {W : WX} : PTs X [] (tT X.K X.w W yesT) := ⟨fun pins s σ H Q I ⟨F, μ, ρ, S, h1, h2, h3⟩ => pts_nil.run pins s σ H Q I (h3.ok .refl h1 rfl)⟩
theorem MTs_one {X : Cx} {W : WX} {c : Expr} {m : TM} (h : MT X W c m) : PTs X [c] (tT X.K X.w W m) := pts_one h
section
variable {X : Cx} {W : WX} {elt tg iter : Expr} {ifs : List Expr} {scope : Scope} {own : List (Str × Nat)} {pos : Pos} {mi : NM} {sl : List Nat} {t : TgM} {mt : TM} {me : EM}
theorem tLc_ok {K : PySem.W.Frag} {w : World} {vs : List Nat} {σ : L2.St} {H : Hp} {Q : VK} (sub : ∀ j ∈ sl, j ∈ vs) (h : tN K w W (lcM mi vs t mt me) σ H Q) :
    tLc (iM K w W mi) (gM K w sl t) (tT K w noW mt) (tE K w noW me) vs σ H Q := by
  obtain ⟨F0, μ0, ρ, S0, h1, h2, o, S', h3, h4⟩ := h
  refine ⟨F0, μ0, ρ, S0, h1, h2, ?_⟩
  unfold lcM bindM at h3
  cases q : mi ρ S0 with
  | none => rw [q] at h3; cases h3
  | some r =>
    obtain ⟨o1, S1⟩ := r
    rw [q] at h3
    cases o1 with
    | ex c fs => cases h3; exact ⟨_, _, rfl, h4⟩
    | ok ds =>
      refine ⟨.ok ds, S1, rfl, fun F1 μ1 H1 J g1 r1 gj D hD => ?_⟩
      obtain ⟨f1, m1⟩ := r1.fresh hD
      have fr1 := h2.grow g1
      have noD : ∀ (j : Nat) (d : Cell), ρ[j]? = some (some (.own d)) → σ[j]? ≠ some (some (.ref D)) := fun j d e1 e2 => by
        obtain ⟨a, k1, _, _, k4, _⟩ := fr1.own j d e1
        rw [k1] at e2
        cases e2
        exact k4 hD
      refine lc_it gj (fun i H => ∃ F μ S acc xs, Rel K w F μ S H ∧ Same F1 F ∧ RelFr K w F μ H ρ σ ∧ H D = some (.lst xs) ∧ F D = none ∧ D ∉ μ ∧ RepAll K w F acc xs ∧ Grow F1 H1 F H μ1 μ ∧ lcL vs t mt me (ds.drop i) acc ρ S = some (o, S'))
        ⟨F1, μ1, S1, [], [], r1.other f1 m1, Same.refl _, fr1.other noD, upd_same, f1, m1, .nil, ⟨Same.refl _, List.prefix_rfl, fun a u e _ => same_upd hD a u e, fun _ a b => absurd b a, fun a b c => absurd b c⟩, h3⟩
        (fun i H hi ⟨F, μ, S, acc, xs, k1, k2, _⟩ => k2.trans k1.le) ?_ ?_
      · rintro i x H H2 hi ⟨F, μ, S, acc, xs, k1, k2, k3, k4, k5, k6, k7, k8, k9⟩ ⟨d, hd, hF⟩
        obtain ⟨F3, st, rx⟩ := hF F k2 k1.le
        have e : ds.drop i = d :: ds.drop (i + 1) := by
          rw [List.drop_eq_getElem_cons hi]
          congr 1
          rw [List.getElem?_eq_getElem hi] at hd
          exact Option.some.inj hd
        rw [e] at k9
        unfold lcL at k9
        have j1 := k1.step st
        have j3 := k3.grow st.grow
        have j4 := st.h _ _ k4
        have j5 : F3 D = none := by
          cases qq : F3 D with
          | none => rfl
          | some u =>
            have := st.new D (by rw [qq]; exact fun z => nomatch z) k5
            rw [this] at k4; cases k4
        have j8 := k8.trans st.grow
        cases qt : t d (wipeF ρ vs) with
        | none => simp [qt] at k9
        | some ρ1 =>
          simp only [qt] at k9
          refine ⟨F3, μ, wipeF ρ vs, S, d, ρ1, j1, j3.wipe vs, rx, qt, fun σ2 T => ⟨wipe_same T.out T.len sub, ?_⟩⟩
          refine ⟨F3, μ, ρ1, S, j1, T.fr, ?_⟩
          cases qb : mt ρ1 S with
          | none => simp [qb] at k9
          | some rb =>
            obtain ⟨ob, S2⟩ := rb
            simp only [qb] at k9
            cases ob with
            | ex c fs => simp at k9
            | ok b =>
              refine ⟨.ok b, S2, rfl, fun F4 μ4 H4 v g4 r4 z => ?_⟩
              obtain rfl := z
              have i4 : H4 D = some (.lst xs) := g4.h _ _ j4 k6
              have i5 : F4 D = none := by
                cases qq : F4 D with
                | none => rfl
                | some u =>
                  have := g4.nf D (by rw [qq]; exact fun z => nomatch z) j5 k6
                  rw [this] at j4; cases j4
              have i6 : D ∉ μ4 := fun hm => by rw [g4.nm D hm k6] at j4; cases j4
              have i8 := j8.trans g4
              have s4 : Same F1 F4 := (k2.trans st.f).trans g4.f
              have i7 := k7.mono (st.f.trans g4.f)
              cases b with
              | false =>
                simp only at k9
                exact ⟨F4, μ4, S2, acc, xs, r4, s4, j3.grow g4, i4, i5, i6, i7, i8, k9⟩
              | true =>
                rw [if_pos rfl]
                simp only at k9
                refine ⟨F4, μ4, ρ1, S2, r4, T.fr.grow g4, ?_⟩
                cases qe : me ρ1 S2 with
                | none => simp [qe] at k9
                | some re =>
                  obtain ⟨oe, S3⟩ := re
                  simp only [qe] at k9
                  cases oe with
                  | ex c fs => simp at k9
                  | ok y =>
                    refine ⟨.ok y, S3, rfl, fun F5 μ5 H5 v5 g5 r5 z5 => ?_⟩
                    cases y with
                    | loc n => simp at k9
                    | slot n => simp at k9
                    | d y =>
                      simp only at k9
                      by_cases cl : acc.length < sizeLine
                      · rw [if_pos cl] at k9
                        have l4 : H5 D = some (.lst xs) := g5.h _ _ i4 i6
                        have l5 : F5 D = none := by
                          cases qq : F5 D with
                          | none => rfl
                          | some u =>
                            have := g5.nf D (by rw [qq]; exact fun z => nomatch z) i5 i6
                            rw [this] at i4; cases i4
                        have l6 : D ∉ μ5 := fun hm => by rw [g5.nm D hm i6] at i4; cases i4
                        have l8 := i8.trans g5
                        have l7 := i7.mono g5.f
                        refine ⟨xs, l4, by rw [← i7.length]; exact cl, F5, μ5, S3, acc ++ [y], xs ++ [v5], r5.other l5 l6, s4.trans g5.f, ((j3.grow g4).grow g5).other noD, upd_same, l5, l6, l7.append (.cons z5 .nil), ?_, k9⟩
                        exact ⟨l8.f, l8.p, fun a u e hm => by
                          rw [upd_ne (fun z => by rw [z, hD] at e; cases e)]; exact l8.h a u e hm, l8.nf, l8.nm⟩
                      · rw [if_neg cl] at k9; cases k9
      · rintro H ⟨F, μ, S, acc, xs, k1, k2, k3, k4, k5, k6, k7, k8, k9⟩
        rw [List.drop_length] at k9
        cases k9
        refine h4 F μ H D xs (g1.trans k8) k1 k4 k5 k6 ?_ k7
        exact g1.back hD m1
/-- [e for x in xs if t], a new list -/
theorem mn_lc {own : List (Str × Nat)} (hc : X.calm = true) (hN : X.N.Nodup) (hi : MI X W tg iter mi) (ok : BlkOk X.N X.env.scope scope own) (sub : ∀ j ∈ sl, j ∈ own.map (·.2))
    (hg : ∀ (s : Shared) (H : Hp) (C : Addr) (cl : List (Str × Addr)) (fp : List Addr), MG (X.blk s H scope (compEnvC scope cl C X.env) fp) tg sl t)
    (ht : ∀ (s : Shared) (H : Hp) (C : Addr) (cl : List (Str × Addr)) (fp : List Addr), PTs (X.blk s H scope (compEnvC scope cl C X.env) fp) ifs (tT X.K X.w noW mt))
    (he : ∀ (s : Shared) (H : Hp) (C : Addr) (cl : List (Str × Addr)) (fp : List Addr), ME (X.blk s H scope (compEnvC scope cl C X.env) fp) noW elt me) (hs : ∀ x, foldedSetIterable iter X.env x = pure x := by intro _; rfl) :
    MN X W (.ListComp elt [⟨tg, iter, ifs, 0⟩] scope pos) (lcM mi (own.map (·.2)) t mt me) :=
  PE.imp (pe_lc hc hN hi ok hg ht he hs) fun σ H Q h => tLc_ok sub h
/-- y = [..] on one line -/
theorem ownLc {i : Nat} {m : NM} {K : PySem.W.Frag} {w : World} {En : Ends} {σ : L2.St} {H : Hp} (h : tS K w W (ownM i m) En σ H) : tN K w W m σ H (fun x H1 => gName i x σ H1 En.nx) := by
  obtain ⟨B, F, μ, ρ, S, h1, fl, ρ', S', h2, h3⟩ := h
  refine ⟨F, μ, ρ, S, h1.rel, h1.fr, ?_⟩
  unfold ownM thenM at h2
  cases q : m ρ S with
  | none => rw [q] at h2; cases h2
  | some r =>
    obtain ⟨o1, S1⟩ := r
    rw [q] at h2
    cases o1 with
    | ex c fs => cases h2; exact ⟨_, _, rfl, fun F' μ' H' d g r z => h3 F' μ' σ H' g.f (h1.grow g r) d z⟩
    | ok ds =>
      refine ⟨.ok ds, _, rfl, fun F' μ' H' p xs g r hp hF hm h0 ra => ?_⟩
      by_cases c : i < ρ.length
      · simp only [c, if_true] at h2
        cases h2
        have y := h1.grow g r
        refine h3 F' μ' _ H' g.f (y.own (h1.fresh h0) hm hF (by rw [hp]; exact fun z => nomatch z) ⟨hF, xs, hp, ra⟩ (fun j d e1 e2 => ?_) c)
        obtain ⟨a, g1, g2, g3, g4, g5⟩ := h1.fr.own j d e1
        rw [g1] at e2
        cases e2
        exact g4 h0
      · simp only [c, if_false] at h2; cases h2
theorem setNew {i : Nat} {m : NM} {K : PySem.W.Frag} {w : World} {En : Ends} {σ : L2.St} {H : Hp} (h : tS K w W (setM i (ofNew m)) En σ H) : tN K w W m σ H (fun x H1 => gName i x σ H1 En.nx) := by
  obtain ⟨B, F, μ, ρ, S, h1, fl, ρ', S', h2, h3⟩ := h
  refine ⟨F, μ, ρ, S, h1.rel, h1.fr, ?_⟩
  unfold setM thenM ofNew bindM at h2
  cases q : m ρ S with
  | none => rw [q] at h2; cases h2
  | some r =>
    obtain ⟨o1, S1⟩ := r
    rw [q] at h2
    cases o1 with
    | ex c fs => cases h2; exact ⟨_, _, rfl, fun F' μ' H' d g r z => h3 F' μ' σ H' g.f (h1.grow g r) d z⟩
    | ok ds =>
      refine ⟨.ok ds, _, rfl, fun F' μ' H' p xs g r hp hF hm h0 ra => ?_⟩
      by_cases c : i < ρ.length
      · simp only [litM, setR, closedR, c, true_and, if_true] at h2
        cases h2
        obtain ⟨z1, z2⟩ := Step.fz r.le hp hF
        have gr : Grow F H (upd F' p (.lst xs)) H' μ μ' := ⟨g.f.trans z2, g.p, g.h, fun a q1 q2 q3 => by
          by_cases e : a = p
          · rw [e]; exact h0
          · rw [upd_ne e] at q1; exact g.nf a q1 q2 q3, g.nm⟩
        have rr : Rel K w (upd F' p (.lst xs)) μ' S' H' := ⟨z1, r.nd, r.len, r.there, fun n a c q1 q2 => by
          have na : a ≠ p := fun z => hm (by rw [← z]; exact List.mem_of_getElem? q1)
          have k := r.cell n a c q1 q2
          have nf : ∀ {P : Prop}, F' a = none ∧ P → upd F' p (.lst xs) a = none := fun z => by rw [upd_ne na]; exact z.1
          cases c with
          | lst ds => exact ⟨nf k, k.2.imp fun xs g => ⟨g.1, g.2.mono z2⟩⟩
          | dic kvs => exact ⟨nf k, k.2.imp fun xs g => ⟨g.1, g.2.mono z2⟩⟩
          | dit kvs => exact ⟨nf k, k.2.imp fun xs g => ⟨g.1, g.2.1.mono z2, g.2.2⟩⟩
          | ins C fs => exact ⟨nf k, k.2.imp fun dx g => g.imp fun xs g => ⟨g.1, g.2.mono z2 List.prefix_rfl⟩⟩
          | frz x => exact Rep.mono z2 k⟩
        have y := h1.grow gr rr
        exact h3 _ μ' _ H' gr.f (y.set (r := .d (.lst ds)) (Rep.lst upd_same (ra.mono z2)) rfl c)
      · simp only [litM, setR, closedR, c, and_false, if_false] at h2; cases h2
theorem ms_lcG {i : Nat} {y : Str} {py spos : Pos} {own : List (Str × Nat)} {m : SM} (hc : X.calm = true) (hN : X.N.Nodup) (hi : MI X W tg iter mi) (ok : BlkOk X.N X.env.scope scope own) (sub : ∀ j ∈ sl, j ∈ own.map (·.2))
    (hg : ∀ (s : Shared) (H : Hp) (C : Addr) (cl : List (Str × Addr)) (fp : List Addr), MG (X.blk s H scope (compEnvC scope cl C X.env) fp) tg sl t)
    (ht : ∀ (s : Shared) (H : Hp) (C : Addr) (cl : List (Str × Addr)) (fp : List Addr), PTs (X.blk s H scope (compEnvC scope cl C X.env) fp) ifs (tT X.K X.w noW mt))
    (he : ∀ (s : Shared) (H : Hp) (C : Addr) (cl : List (Str × Addr)) (fp : List Addr), ME (X.blk s H scope (compEnvC scope cl C X.env) fp) noW elt me)
    (to : ∀ En σ H, tS X.K X.w W m En σ H → tN X.K X.w W (lcM mi (own.map (·.2)) t mt me) σ H (fun x H1 => gName i x σ H1 En.nx))
    (hy : X.N[i]? = some y := by rfl) (hyl : X.env.scope.names.lookup y = some .local := by rfl) (hk : X.env.scope.kind = .function := by rfl) (hl : (py.line == pos.line) = true := by rfl) (ha : (scope.names.any fun (n, k) => n == y && (k == .local || k == .cell)) = false := by decide +kernel)
    (hs : ∀ x, foldedSetIterable iter X.env x = pure x := by intro _; rfl) : MS X W (.Assign [.Name y py] (.ListComp elt [⟨tg, iter, ifs, 0⟩] scope pos) spos) m :=
  PS.imp (ps_setLc hc hN hy hyl (sw_true hk hyl hl ha) hi ok hg ht he hs) fun En σ H h => tLc_ok sub (to En σ H h)
end
end MM
namespace MM
open PySem PySem.Spec PyProof.Rows L2

/-! ### defs -/
def spM (K : PySem.W.Frag) (w : World) (n : Nat) (m : FM) : Sp := fun vs H Q E => ∃ F μ S rs, Rel K w F μ S H ∧ RepRs K w F μ [] rs vs ∧ rs.length = n ∧ ∃ o S', m rs S = some (o, S') ∧ match o with
  | .ok r => ∀ F' μ' H' v, Grow F H F' H' μ μ' → Rel K w F' μ' S' H' → RepR K w F' μ' [] r v → Q v H'
  | .ex c fs => ∀ F' μ' H' d, Grow F H F' H' μ μ' → Rel K w F' μ' S' H' → ExD K w F' d fs → E (.ref (He.ga K c)) d H'
theorem spM_len {K : PySem.W.Frag} {w : World} {n : Nat} {m : FM} (vs : List V) (H : Hp) (Q : VK) (E : XK) (h : spM K w n m vs H Q E) : vs.length = n := by
  obtain ⟨F, μ, S, rs, h1, h2, h3, _⟩ := h
  rw [← h2.length, h3]
/-- a def by its name: level, number of parameters, what it reckons -/
structure Cl (P : Program) (w : World) (K : PySem.W.Frag) (mg : Str → Option Value) (base : Heap) (k : Nat) (x : Str) (n : Nat) (m : FM) : Prop where
  ex : ∃ (f : Addr) (fd : FuncData) (ps : List Str), FnOk P w K mg base (L2.CX P w) k f fd ps (spM K w n m) ∧ mg x = some (.ref f) ∧ PySem.W.keepIn K (.ref f) = true ∧ Binds K fd ps []
def closedRs (rs : List R) : Bool := rs.all closedR
def appF (f : FM) (rs : List R) : EM := fun _ S => if closedRs rs = true then f rs S else none
def callF (f : FM) (ms : AM) : EM := bindM ms (appF f)
section
variable {X : Cx} {W : WX} {e : Expr} {es : List Expr} {ms : AM} {pos p : Pos}
theorem RepRs.closed {K : PySem.W.Frag} {w : World} {F : Hp} {μ : List Addr} {σ τ : L2.St} : ∀ {rs : List R} {vs : List V}, RepRs K w F μ σ rs vs → closedRs rs = true → RepRs K w F μ τ rs vs
  | _, _, .nil, _ => .nil
  | _, _, .cons h r, c => by
    unfold closedRs at c
    rw [List.all_cons, Bool.and_eq_true] at c
    exact .cons (h.closed c.1 τ) (RepRs.closed r c.2)
theorem app_ok {f : FM} {n : Nat} {σ : L2.St} {H : Hp} {Q : VK} {vs : List V} {as : List R} {F : Hp} {μ : List Addr} {ρ : Fr} {S : Sto} (h1 : Rel X.K X.w F μ S H) (h3 : RepRs X.K X.w F μ σ as vs) (hn : as.length = n)
    (h4 : coreAt X.K X.w (fun σ F μ => RepR X.K X.w F μ σ) W (appF f as ρ S) F μ σ H Q) : spM X.K X.w n f vs H Q (fun cls d H => W cls d σ H) := by
  unfold appF at h4
  by_cases c : closedRs as = true
  · rw [if_pos c] at h4
    obtain ⟨o, S', q1, q2⟩ := h4
    refine ⟨F, μ, S, as, h1, h3.closed c, hn, o, S', q1, ?_⟩
    cases o with
    | ok r =>
      refine fun F' μ' H' v g rl z => q2 F' μ' H' v g rl ?_
      cases r with
      | d x => exact z
      | loc m => exact z
      | slot i => have : ([] : L2.St)[i]? = some (some v) := z; simp at this
    | ex c fs => exact q2
  · rw [if_neg c] at h4; exact h4.none_
/-- the number of arguments -/
def lenA : List Expr → Nat := List.length
theorem ma_len {K : PySem.W.Frag} {w : World} : True := trivial
def callN (n : Nat) (f : FM) (ms : AM) : EM := bindM ms fun as => fun ρ S => if as.length = n then appF f as ρ S else none
theorem me_call {k j n : Nat} {x : Str} {f : FM} (c : Cl X.prog X.w X.K X.mg X.base k x n f) (hr : Room j X.A) (hk : k ≤ j) (tk : Takes X W) (ha : MA X W (e :: es) ms) (hg : Gl X x := by rfl) (hdb : (x == ("__debug__" : Str)) = false := by decide)
    (he : starEach (e :: es) X.env = (false, eval e X.env) :: starEach es X.env := by rfl) (hpl : (backTo pos (starEach es X.env)).any (·.1) = false := by rfl) : ME X W (.Call (.Name x p) (e :: es) [] pos) (callN n f ms) := by
  obtain ⟨a, fd, ps, F, hm, hkp, hb⟩ := c.ex
  refine PE.imp (pe_callS F (hr.mono hk) hg hm hkp hb (fun σ => passAt tk σ) ha hdb he hpl) fun σ H Q h => (core_bind (Ra := fun σ F μ => RepRs X.K X.w F μ σ) h).imp fun x H1 ⟨as, F, μ, ρ, S, h1, h2, h3, h4⟩ => ?_
  by_cases c : as.length = n
  · simp only [c, if_true] at h4
    exact app_ok h1 h3 c h4
  · simp only [c, if_false] at h4; exact h4.none_
/-- f(): nothing is let out -/
def call0 (f : FM) : EM := fun _ S => match f [] S with
  | some (.ok r, S') => some (.ok r, S')
  | _ => none
theorem me_call0 {k j : Nat} {x : Str} {f : FM} (c : Cl X.prog X.w X.K X.mg X.base k x 0 f) (hr : Room j X.A) (hk : k ≤ j) (hg : Gl X x := by rfl) (hdb : (x == ("__debug__" : Str)) = false := by decide) : ME X W (.Call (.Name x p) [] [] pos) (call0 f) := by
  obtain ⟨a, fd, ps, F, hm, hkp, hb⟩ := c.ex
  refine PE.imp (pe_call0 F (hr.mono hk) hg hm hkp hb .nil passL hdb) fun σ H Q ⟨F, μ, ρ, S, h1, h2, o, S', h3, h4⟩ => ?_
  unfold call0 at h3
  split at h3
  · rename_i r S1 q
    cases h3
    exact ⟨F, μ, S, [], h1, .nil, rfl, .ok r, S', q, fun F' μ' H' v g rl z => h4 F' μ' H' v g rl (by
      cases r with
      | d x => exact z
      | loc m => exact z
      | slot i => have : ([] : L2.St)[i]? = some (some v) := z; simp at this)⟩
  · cases h3
end

/-! ### values frozen -/
def frzCell : Cell → Option D
  | .lst ds => some (.lst ds)
  | .dic kvs => some (.dic kvs)
  | .dit kvs => some (.dit kvs)
  | _ => none
/-- a field that is a cell is frozen; the fields' data -/
def frzFs : List (Str × R) → Sto → Option (List (Str × D) × Sto)
  | [], S => some ([], S)
  | (x, .d d) :: r, S => (frzFs r S).map fun p => ((x, d) :: p.1, p.2)
  | (x, .loc n) :: r, S => match S[n]? with
    | some c => match frzCell c with
      | some d => (frzFs r (S.set n (.frz d))).map fun p => ((x, d) :: p.1, p.2)
      | none => none
    | none => none
  | _, _ => none
def frzR (r : R) : EM := fun _ S => match r with
  | .d x => some (.ok (.d x), S)
  | .loc n => match S[n]? with
    | some (.frz x) => some (.ok (.d x), S)
    | some (.ins C fs) => match frzFs fs S with
      | some (gs, S') => some (.ok (.d (.obj C gs)), S'.set n (.frz (.obj C gs)))
      | none => none
    | some c => match frzCell c with
      | some d => some (.ok (.d d), S.set n (.frz d))
      | none => none
    | none => none
  | .slot _ => none
def frzM (m : EM) : EM := bindM m frzR
section
variable {K : PySem.W.Frag} {w : World} {W : WX} {F F' H H' : Hp} {μ μ' : List Addr} {S S' : Sto} {ρ : Fr} {σ : L2.St}
theorem cell_freeze (r : Rel K w F μ S H) {n : Nat} {a : Addr} {c : Cell} {d : D} (hn : μ[n]? = some a) (hc : S[n]? = some c) (hd : frzCell c = some d) :
    ∃ F', Grow F H F' H μ μ ∧ Rel K w F' μ (S.set n (.frz d)) H ∧ Rep K w F' d (.ref a) := by
  have k := r.cell n a c hn hc
  cases c with
  | lst ds =>
    cases hd
    obtain ⟨hF, xs, hx, ra⟩ := k
    have z := (Step.fz r.le hx hF).2
    have rep : Rep K w (upd F a (.lst xs)) (.lst ds) (.ref a) := .lst upd_same (ra.mono z)
    exact ⟨_, Grow.freeze _ hn hF, r.freeze hn hF hx rep, rep⟩
  | dic ds =>
    cases hd
    obtain ⟨hF, xs, hx, ra⟩ := k
    have z := (Step.fz r.le hx hF).2
    have rep : Rep K w (upd F a (.dK xs)) (.dic ds) (.ref a) := .dic upd_same (ra.mono z)
    exact ⟨_, Grow.freeze _ hn hF, r.freeze hn hF hx rep, rep⟩
  | dit ds =>
    cases hd
    obtain ⟨hF, xs, hx, ra, z1, z2, z3⟩ := k
    have z := (Step.fz r.le hx hF).2
    have rep : Rep K w (upd F a (dxt a xs)) (.dit ds) (.ref a) := .dit upd_same (ra.mono z) z1 z2 z3
    exact ⟨_, Grow.freeze _ hn hF, r.freeze hn hF hx rep, rep⟩
  | ins C ds => cases hd
  | frz x => cases hd
theorem fs_freeze : ∀ {fs : List (Str × R)} {vs : List (Str × V)} {F : Hp} {S S' : Sto} {gs : List (Str × D)}, Rel K w F μ S H → RepFR K w F μ fs vs → frzFs fs S = some (gs, S') →
    ∃ F', Grow F H F' H μ μ ∧ Rel K w F' μ S' H ∧ RepFs K w F' gs vs
  | [], _, F, S, S', gs, r, .nil, e => by
    cases e
    exact ⟨F, .refl, r, .nil⟩
  | (x, .d d) :: fs, _, F, S, S', gs, r, .cons h q, e => by
    unfold frzFs at e
    obtain ⟨p, h1, h2⟩ := Option.map_eq_some_iff.mp e
    cases h2
    obtain ⟨F', g, r', q'⟩ := fs_freeze r q h1
    exact ⟨F', g, r', .cons (Rep.mono g.f h) q'⟩
  | (x, .loc n) :: fs, _, F, S, S', gs, r, .cons h q, e => by
    unfold frzFs at e
    cases hc : S[n]? with
    | none => simp [hc] at e
    | some c =>
      cases hd : frzCell c with
      | none => simp [hc, hd] at e
      | some d =>
        simp only [hc, hd] at e
        obtain ⟨p, h1, h2⟩ := Option.map_eq_some_iff.mp e
        cases h2
        obtain ⟨a, ha, rfl⟩ := h
        obtain ⟨F1, g1, r1, rep1⟩ := cell_freeze r ha hc hd
        obtain ⟨F', g, r', q'⟩ := fs_freeze r1 (q.mono g1.f List.prefix_rfl) h1
        exact ⟨F', g1.trans g, r', .cons (Rep.mono g.f rep1) q'⟩
  | (x, .slot n) :: fs, _, F, S, S', gs, r, .cons h q, e => by cases e
/-- frzFs keeps cells that are no list, no dict -/
theorem frzFs_keep : ∀ {fs : List (Str × R)} {S S' : Sto} {gs : List (Str × D)} {n : Nat} {C : Str} {hs : List (Str × R)}, frzFs fs S = some (gs, S') → S[n]? = some (.ins C hs) → S'[n]? = some (.ins C hs)
  | [], S, S', gs, n, C, hs, e, h => by cases e; exact h
  | (x, .d d) :: fs, S, S', gs, n, C, hs, e, h => by
    unfold frzFs at e
    obtain ⟨p, h1, h2⟩ := Option.map_eq_some_iff.mp e
    cases h2
    exact frzFs_keep h1 h
  | (x, .loc m) :: fs, S, S', gs, n, C, hs, e, h => by
    unfold frzFs at e
    cases hc : S[m]? with
    | none => simp [hc] at e
    | some c =>
      cases hd : frzCell c with
      | none => simp [hc, hd] at e
      | some d =>
        simp only [hc, hd] at e
        obtain ⟨p, h1, h2⟩ := Option.map_eq_some_iff.mp e
        cases h2
        refine frzFs_keep h1 ?_
        have : m ≠ n := fun z => by subst z; rw [hc] at h; cases h; cases hd
        rw [List.getElem?_set_ne this]
        exact h
  | (x, .slot m) :: fs, S, S', gs, n, C, hs, e, h => by cases e
theorem frz_ok (r : Rel K w F μ S H) {x : R} {v : V} {y : R} (h : RepR K w F μ σ x v) (e : frzR x ρ S = some (.ok y, S')) : ∃ F', Grow F H F' H μ μ ∧ Rel K w F' μ S' H ∧ RepR K w F' μ σ y v := by
  unfold frzR at e
  cases x with
  | d d => cases e; exact ⟨F, .refl, r, h⟩
  | slot i => cases e
  | loc n =>
    obtain ⟨a, ha, rfl⟩ := h
    simp only at e
    cases hc : S[n]? with
    | none => simp [hc] at e
    | some c =>
      have go : ∀ {d : D}, frzCell c = some d → y = .d d → S' = S.set n (.frz d) → ∃ F', Grow F H F' H μ μ ∧ Rel K w F' μ S' H ∧ RepR K w F' μ σ y (.ref a) := fun {d} hd e1 e2 => by
        obtain ⟨F', g, r', rep⟩ := cell_freeze r ha hc hd
        subst e1 e2
        exact ⟨F', g, r', rep⟩
      cases c with
      | frz x =>
        simp only [hc] at e
        cases e
        exact ⟨F, .refl, r, r.cell n a _ ha hc⟩
      | ins C fs =>
        simp only [hc] at e
        cases hf : frzFs fs S with
        | none => simp [hf] at e
        | some p =>
          obtain ⟨gs, S1⟩ := p
          simp only [hf] at e
          cases e
          obtain ⟨hF, dx, vs, hx, ra⟩ := r.cell n a _ ha hc
          obtain ⟨F1, g1, r1, q1⟩ := fs_freeze r ra hf
          have hF1 : F1 a = none := by
            have k := r1.cell n a _ ha (frzFs_keep hf hc)
            exact k.1
          have z := (Step.fz r1.le hx hF1).2
          have rep : Rep K w (upd F1 a (.ins (He.ga K C) dx vs)) (.obj C gs) (.ref a) := .obj upd_same (q1.mono z)
          exact ⟨_, g1.trans (Grow.freeze _ ha hF1), r1.freeze ha hF1 hx rep, rep⟩
      | lst ds => simp only [hc, frzCell] at e; cases e; exact go rfl rfl rfl
      | dic ds => simp only [hc, frzCell] at e; cases e; exact go rfl rfl rfl
      | dit ds => simp only [hc, frzCell] at e; cases e; exact go rfl rfl rfl
theorem frzR_ok {x : R} {ρ : Fr} {S : Sto} {c : Str} {fs : List (Str × D)} : frzR x ρ S ≠ some (.ex c fs, S') := by
  intro e
  unfold frzR at e
  cases x with
  | d d => cases e
  | slot i => cases e
  | loc n =>
    simp only at e
    split at e
    · cases e
    · split at e <;> cases e
    · split at e <;> cases e
    · cases e
end
theorem me_frz {X : Cx} {W : WX} {e : Expr} {m : EM} (h : ME X W e m) : ME X W e (frzM m) := PE.imp h fun σ H Q q => (core_bind (Ra := fun σ F μ => RepR X.K X.w F μ σ) q).imp fun x H1 ⟨a, F, μ, ρ, S, h1, h2, h3, o, S', h4, h5⟩ => by
  cases o with
  | ex c fs => exact absurd h4 frzR_ok
  | ok y =>
    obtain ⟨F', g, r, rep⟩ := frz_ok h1 h3 h4
    exact h5 F' μ H1 x g r rep
end MM
namespace MM
open PySem PySem.Spec PyProof.Rows L2

/-! ### a def as a function -/
/-- what a body's end hands back; keep: the store as it is left, else cut back to its length at the entry -/
def finM (keep : Bool) (n : Nat) (r : R) (S' : Sto) : Option (Out R × Sto) := match keep with
  | true => if closedR r = true then some (.ok r, S') else none
  | false => match r with
    | .d x => if ((S'.take n).all (cellLoc n)) = true then some (.ok (.d x), S'.take n) else none
    | _ => none
def finX (keep : Bool) (n : Nat) (c : Str) (fs : List (Str × D)) (S' : Sto) : Option (Out R × Sto) := match keep with
  | true => some (.ex c fs, S')
  | false => if ((S'.take n).all (cellLoc n)) = true then some (.ex c fs, S'.take n) else none
def frame0 (rs : List R) (nl : Nat) : Fr := rs.map (fun r => some (.r r)) ++ List.replicate nl none
def funM (keep : Bool) (np nl : Nat) (body : SM) : FM := fun rs S => if rs.length = np ∧ closedRs rs = true then match body (frame0 rs nl) S with
  | some (.nx, _, S') => finM keep S.length (.d .non) S'
  | some (.rt r, _, S') => finM keep S.length r S'
  | some (.ex c fs, _, S') => finX keep S.length c fs S'
  | _ => none
  else none
section
variable {K : PySem.W.Frag} {w : World} {W : WX} {F F' H H' : Hp} {μ μ' : List Addr} {S S' : Sto} {ρ : Fr} {σ : L2.St} {B : Bs}
theorem repRs_get {τ : L2.St} : ∀ {rs : List R} {vs : List V} {i : Nat} {r : R}, RepRs K w F μ τ rs vs → rs[i]? = some r → ∃ v, vs[i]? = some v ∧ RepR K w F μ τ r v
  | _, _, _, _, .nil, e => by simp at e
  | _, _, 0, _, .cons h _, e => by simp at e; subst e; exact ⟨_, rfl, h⟩
  | _, _, i + 1, r, .cons _ q, e => by
    obtain ⟨v, h1, h2⟩ := repRs_get (i := i) (r := r) q (by simpa using e)
    exact ⟨v, by simpa using h1, h2⟩
theorem frame_start {rs : List R} {vs : List V} {N : List Str} {nl : Nat} (rel : Rel K w F μ S H) (h : RepRs K w F μ [] rs vs) (hN : N.length = rs.length + nl) : RelFr K w F μ H (frame0 rs nl) (L2.start N vs) := by
  have hl := h.length
  have own : ∀ (i : Nat) (c : Cell), (frame0 rs nl)[i]? ≠ some (some (.own c)) := fun i c e => by
    unfold frame0 at e
    by_cases q : i < rs.length
    · rw [List.getElem?_append_left (by simpa using q), List.getElem?_map] at e
      cases z : rs[i]? with
      | none => rw [z] at e; cases e
      | some r => rw [z] at e; cases e
    · rw [List.getElem?_append_right (by simpa using Nat.le_of_not_lt q)] at e
      obtain ⟨_, e2⟩ := List.getElem?_eq_some_iff.mp e
      simp at e2
  refine ⟨?_, fun i y e => ?_, fun i c e => absurd e (own i c), fun i j c d a e => absurd e (own i c)⟩
  · simp [frame0, L2.start, hN, hl]
  · unfold frame0 at e
    by_cases q : i < rs.length
    · rw [List.getElem?_append_left (by simpa using q), List.getElem?_map] at e
      cases z : rs[i]? with
      | none => rw [z] at e; cases e
      | some r =>
        rw [z] at e
        cases e
        obtain ⟨v, h1, h2⟩ := repRs_get h z
        refine ⟨v, ?_, h2⟩
        have hv : i < vs.length := by rw [← hl]; exact q
        unfold L2.start
        rw [List.getElem?_append_left (by simpa using hv), List.getElem?_map, h1]
        rfl
    · rw [List.getElem?_append_right (by simpa using Nat.le_of_not_lt q)] at e
      obtain ⟨_, e2⟩ := List.getElem?_eq_some_iff.mp e
      simp at e2
end
section
variable {P : Program} {w : World} {K : PySem.W.Frag} {mg : Str → Option Value} {base : Heap}
/-- what a body may lean on -/
abbrev XOf (P : Program) (w : World) (K : PySem.W.Frag) (mg : Str → Option Value) (base : Heap) (N : List Str) (qual : Str) (scope : Scope) (f : Addr) (cdv : Value) (A : Around) (outer : List Env) (s : Shared) (H : Hp) (E : XK) : Cx := cxOf (L2.CX P w) P w K mg base N qual scope f cdv A outer s H E
theorem fn_m {keep : Bool} {x qual : Str} {params : Arguments} {body : List Stmt} {scope : Scope} {f : Addr} {fd : FuncData} {N ps : List Str} {k nl : Nat} {m : SM} (F : FunD K x qual params body scope [] [] f fd) (S : FnScope N ps scope) (hN : N.length = ps.length + nl)
    (hb : ∀ (cdv : Value) (A : Around) (outer : List Env) (s : Shared) (H : Hp) (E : XK), Room k (A.deeper (envOfC qual scope s.heap.objs.size f cdv)) → Takes (XOf P w K mg base N qual scope f cdv A outer s H E) (fun cls d _ H => E cls d H) →
      PassesOwn (model P w) (A.deeper (envOfC qual scope s.heap.objs.size f cdv)) (envOfC qual scope s.heap.objs.size f cdv) (XOf P w K mg base N qual scope f cdv A outer s H E).xe →
      MSs (XOf P w K mg base N qual scope f cdv A outer s H E) (fun cls d _ H => E cls d H) body m) :
    FnOk P w K mg base (L2.CX P w) (k + 1) f fd ps (spM K w ps.length (funM keep ps.length nl m)) := by
  refine F.ok S (fun vs H Q E h => spM_len vs H Q E h) fun cdv A outer s H vs Q E hr h => ?_
  refine ⟨_, hb cdv A outer s H E hr (takes_of rfl rfl rfl rfl) (passes_of rfl), ?_⟩
  obtain ⟨F0, μ0, S0, rs, h1, h2, h3, o, S', h4, h5⟩ := h
  unfold funM at h4
  by_cases c : rs.length = ps.length ∧ closedRs rs = true
  · rw [if_pos c] at h4
    have fr := frame_start (N := N) (nl := nl) h1 h2 (by rw [h3]; exact hN)
    refine ⟨⟨F0, H, μ0⟩, F0, μ0, frame0 rs nl, S0, ⟨h1, fr, .refl, fun i cc a e _ => ?_⟩, ?_⟩
    · obtain ⟨p, _, _, _, _, _⟩ := fr.own i cc e
      unfold frame0 at e
      by_cases q : i < rs.length
      · rw [List.getElem?_append_left (by simpa using q), List.getElem?_map] at e
        cases z : rs[i]? with
        | none => rw [z] at e; cases e
        | some r => rw [z] at e; cases e
      · rw [List.getElem?_append_right (by simpa using Nat.le_of_not_lt q)] at e
        obtain ⟨_, e2⟩ := List.getElem?_eq_some_iff.mp e
        simp at e2
    · -- the end
      have cut : ∀ {F' : Hp} {μ' : List Addr} {S1 : Sto} {H' : Hp}, Grow F0 H F' H' μ0 μ' → Rel K w F' μ' S1 H' → ((S1.take S0.length).all (cellLoc S0.length)) = true → Grow F0 H F' H' μ0 μ0 ∧ Rel K w F' μ0 (S1.take S0.length) H' := fun {F' μ' S1 H'} g r hc => by
        have r2 := r.cut S0.length hc
        have e : μ'.take S0.length = μ0 := by
          obtain ⟨t, e⟩ := g.p
          rw [← e, ← h1.len]
          simp
        rw [e] at r2
        exact ⟨⟨g.f, List.prefix_rfl, g.h, g.nf, fun a q1 q2 => absurd q1 q2⟩, r2⟩
      have fin : ∀ {r : R} {S1 : Sto}, finM keep S0.length r S1 = some (o, S') → ∀ {F' : Hp} {μ' : List Addr} {σ' : L2.St} {H' : Hp} {v : V}, Grow F0 H F' H' μ0 μ' → Rel K w F' μ' S1 H' → RepR K w F' μ' σ' r v → Q v H' := fun {r S1} e {F' μ' σ' H' v} g rl z => by
        cases keep with
        | true =>
          simp only [finM] at e
          by_cases cc : closedR r = true
          · rw [if_pos cc] at e; cases e
            exact h5 F' μ' H' v g rl (z.closed cc [])
          · rw [if_neg cc] at e; cases e
        | false =>
          simp only [finM] at e
          split at e
          · rename_i d
            by_cases cc : ((S1.take S0.length).all (cellLoc S0.length)) = true
            · rw [if_pos cc] at e; cases e
              obtain ⟨g2, r2⟩ := cut g rl cc
              exact h5 F' μ0 H' v g2 r2 z
            · rw [if_neg cc] at e; cases e
          · cases e
      cases q : m (frame0 rs nl) S0 with
      | none => simp [q] at h4
      | some r1 =>
        obtain ⟨fl, ρ1, S1⟩ := r1
        simp only [q] at h4
        refine ⟨fl, ρ1, S1, rfl, fun F' μ' σ' H' e x => ?_⟩
        cases fl with
        | nx => exact fin h4 x.gr x.rel (show RepR K w F' μ' σ' (.d .non) .non from .non)
        | rt r => exact fun v z => fin h4 x.gr x.rel z
        | bk => simp at h4
        | ct => simp at h4
        | ex cn fs =>
          intro d hd
          simp only at h4
          cases keep with
          | true => simp only [finX] at h4; cases h4; exact h5 F' μ' H' d x.gr x.rel hd
          | false =>
            simp only [finX] at h4
            by_cases cc : ((S1.take S0.length).all (cellLoc S0.length)) = true
            · rw [if_pos cc] at h4; cases h4
              obtain ⟨g2, r2⟩ := cut x.gr x.rel cc
              exact h5 F' μ0 H' d g2 r2 hd
            · rw [if_neg cc] at h4; cases h4
  · rw [if_neg c] at h4; cases h4
end

/-! ### raise -/
def raiseM (c : Str) : SM := fun ρ S => some (.ex c [], ρ, S)
section
variable {X : Cx} {W : WX} {pos : Pos}
/-- an own class over ValueError without __init__ -/
structure Exc (X : Cx) (x : Str) : Prop where
  q : PySem.W.excIn X.K (He.ga X.K x) He.veBase "ValueError.__new__" = true
  g : X.mg x = some (.ref (He.ga X.K x))
  k : PySem.W.keepIn X.K (.ref (He.ga X.K x)) = true
  b : PySem.W.subIn X.K (.ref (He.ga X.K x)) (.type "BaseException") = some true
  t : PySem.W.typeIn X.K (.ref (He.ga X.K x)) = some (.type "type")
theorem pmk_own0 {x : Str} {p : Pos} (e : Exc X x) (hg : Gl X x) (hdb : (x == ("__debug__" : Str)) = false := by decide) : PMk X (.Call (.Name x p) [] [] pos) (fun _ H Q => Q (.ref (He.ga X.K x)) none H) := by
  intro pins s σ H Q I h
  refine wpAny_Call_Name_kw (ld_glob I hg e.g ?_ hdb)
  refine PySem.W.callWith_K0 I.kIn e.k ?_
  show wpAny _ _ (call (.ref (He.ga X.K x)) []) _ _ _
  obtain ⟨bm, N, nm, qn, bs, hdct, sn, sub, ab, col, dd, k0, k1, k2, k3, k5, mN, hC, hN, hni, T⟩ := exc_obj I.kIn e.q
  refine wpAny_call_exc_subT F.excBase_ValueError T hC hN hni (fun h' e2 hm => ?_) (by show 0 ≤ sizeLine; omega)
  exact mk_of I hm (raises_own e.b e.t) h (I.hok.gone hm.new)
theorem ms_raise {x : Str} {p pos2 : Pos} (e : Exc X x) (tk : Takes X W) (hc : X.calm = true := by rfl) (hg : Gl X x := by rfl) (hdb : (x == ("__debug__" : Str)) = false := by decide) : MS X W (.Raise (some (.Call (.Name x p) [] [] pos)) none pos2) (raiseM x) :=
  PS.imp (ps_raise hc tk (pmk_own0 e hg hdb)) fun En σ H ⟨B, F, μ, ρ, S, h1, fl, ρ', S', h2, h3⟩ => by
    cases h2
    exact h3 F μ σ H (Same.refl _) h1 none (.inl ⟨rfl, rfl⟩)
end
end MM
namespace MM
open PySem PySem.Spec PyProof.Rows L2

/-! ### instances -/
def makeM (C : Str) (n : Nat) (f : FM) (ms : AM) : EM := bindM ms fun as => fun _ S => if closedRs as = true ∧ as.length + 1 = n then
    match f (.loc S.length :: as) (S ++ [.ins C []]) with
    | some (.ok (.d .non), S') => some (.ok (.loc S.length), S')
    | some (.ex c fs, S') => some (.ex c fs, S')
    | _ => none
  else none
def getFld (C f : Str) (r : R) (S : Sto) : Option R := match r with
  | .d (.obj D fs) => if D = C then (fs.lookup f).map .d else none
  | .loc n => match S[n]? with
    | some (.ins D fs) => if D = C then fs.lookup f else none
    | some (.frz (.obj D fs)) => if D = C then (fs.lookup f).map .d else none
    | _ => none
  | _ => none
def fldR (C f : Str) (r : R) : EM := fun _ S => match getFld C f r S with
  | some x => if closedR x = true then some (.ok x, S) else none
  | none => none
def fldM (C f : Str) (mo : EM) : EM := bindM mo (fldR C f)
def putFM (C f : Str) (a o : R) : SM := fun ρ S => match o with
  | .loc n => match S[n]? with
    | some (.ins D fs) => if D = C ∧ fs.length < 1000 ∧ closedR a = true then some (.nx, ρ, S.set n (.ins D (putR f a fs))) else none
    | _ => none
  | _ => none
def sfldM (C f : Str) (me mo : EM) : SM := thenM me fun a => thenM mo fun o => putFM C f a o
/-- an instance of the class whose fields have not this name -/
def isIns (C m : Str) (r : R) : EM := fun _ S => match r with
  | .d (.obj D fs) => if D = C ∧ fs.lookup m = none then some (.ok r, S) else none
  | .loc n => match S[n]? with
    | some (.ins D fs) => if D = C ∧ fs.lookup m = none then some (.ok r, S) else none
    | some (.frz (.obj D fs)) => if D = C ∧ fs.lookup m = none then some (.ok (.d (.obj D fs)), S) else none
    | _ => none
  | _ => none
def methO (C m : Str) (n : Nat) (f : FM) (mo : EM) (ms : AM) : EM := bindM (bindM mo (isIns C m)) fun o => bindM ms fun as => fun ρ S => if as.length + 1 = n then appF f (o :: as) ρ S else none
section
variable {X : Cx} {W : WX} {e o : Expr} {es : List Expr} {ms : AM} {mo me : EM} {pos p apos pos' : Pos}
theorem run_makeS {CX : CXT} {k : Nat} {C f : Addr} {fd : FuncData} {ps : List Str} {sp : Sp} {E : XK} {pins : List (Addr × Obj)} {σ : L2.St} {H : Hp} {s : Shared} {Q : VK} {us : List Value} {vs : List V} (M : Mk X.K C f) (F : FnOk X.prog X.w X.K X.mg X.base CX k f fd ps sp) (hr : Room (k + 1) X.A) (hb : Binds X.K fd ps [])
    (hx : PassesAt CX X σ E) (I : Inv X pins σ H s) (r : Vals vs us)
    (h : ∀ x dx, H x = none → H dx = none → dx ≠ x → sp (.ref x :: vs) (upd (upd H dx (.own x)) x (.ins C dx [])) (fun v H2 => v = .non ∧ Q (.ref x) H2) E) :
    wpAny (model X.prog X.w) X.A (call (.ref C) us) (EP X pins σ Q) X.xe s := by
  have hq := h (s.heap.objs.size + 1) s.heap.objs.size (I.hok.fresh (Nat.le_succ _)) (I.hok.fresh (Nat.le_refl _)) (Nat.ne_of_lt (Nat.lt_succ_self _))
  have I2 := Inv.made (C := C) I
  have r2 : Vals (V.ref (s.heap.objs.size + 1) :: vs) (Value.ref (s.heap.objs.size + 1) :: us) := .cons rfl r
  have hl : ((Value.ref (s.heap.objs.size + 1) :: us) ++ []).length = ps.length := by
    have e := r2.length
    rw [F.len _ _ _ _ hq] at e
    simpa using e.symm
  have hb2 := hb _ (Value.ref (s.heap.objs.size + 1) :: us) I2.kIn hl
  rw [List.append_nil] at hb2
  refine wpAny_call (make_map (f := f) I.kIn M.makes M.init (beq_iff_eq.mp M.fn) (codeAny_mono (F.run _ X.stack _ _ ⟨Value.ref (s.heap.objs.size + 1) :: us, []⟩ (Value.ref (s.heap.objs.size + 1) :: us) _ _ E (hr.make C us [])
    (I2.env0.make C us []) hb2 r2 hq) fun r s' hq' => ?_))
  cases r with
  | error e => exact hx pins _ _ e s' I2 hq'
  | ok fl =>
    cases fl with
    | ret u =>
      obtain ⟨v, H', I3, rv, ev, q3⟩ := I2.after hq'
      subst ev
      exact ⟨rv, ⟨V.ref (s.heap.objs.size + 1), H', I3, rfl, q3⟩⟩
    | next => exact False.elim hq'
    | brk => exact False.elim hq'
    | cont => exact False.elim hq'
/-- a class: made by __init__ -/
structure ClM (P : Program) (w : World) (K : PySem.W.Frag) (mg : Str → Option Value) (base : Heap) (k : Nat) (x : Str) (n : Nat) (m : FM) : Prop where
  ex : ∃ (f : Addr) (fd : FuncData) (ps : List Str), FnOk P w K mg base (L2.CX P w) k f fd ps (spM K w n m) ∧ mg x = some (.ref (He.ga K x)) ∧ Mk K (He.ga K x) f ∧ Binds K fd ps []
theorem make_ok {C : Str} {n : Nat} {f : FM} {σ : L2.St} {H F : Hp} {μ : List Addr} {S : Sto} {as : List R} {vs : List V} {Q : VK} (h1 : Rel X.K X.w F μ S H) (h3 : RepRs X.K X.w F μ σ as vs)
    (h4 : coreAt X.K X.w (fun σ F μ => RepR X.K X.w F μ σ) W ((if closedRs as = true ∧ as.length + 1 = n then
    match f (.loc S.length :: as) (S ++ [.ins C []]) with
    | some (.ok (.d .non), S') => some (.ok (R.loc S.length), S')
    | some (.ex c fs, S') => some (.ex c fs, S')
    | _ => none
  else none) : Option (Out R × Sto)) F μ σ H Q) : ∀ x dx, H x = none → H dx = none → dx ≠ x → spM X.K X.w n f (.ref x :: vs) (upd (upd H dx (.own x)) x (.ins (He.ga X.K C) dx [])) (fun v H2 => v = .non ∧ Q (.ref x) H2) (fun cls d H => W cls d σ H) := by
  intro x dx hx hdx hne
  by_cases c : closedRs as = true ∧ as.length + 1 = n
  · rw [if_pos c] at h4
    have st : Step F H F (upd H dx (.own x)) := ⟨Same.refl _, same_upd hdx, h1.le.trans (same_upd hdx), fun _ q1 q2 => absurd q2 q1⟩
    have r1 := h1.step st
    have hx1 : upd H dx (.own x) x = none := by rw [upd_ne (Ne.symm hne)]; exact hx
    have hF : F x = none := h1.le.free hx
    have r2 := r1.alloc (o := .ins (He.ga X.K C) dx []) (c := .ins C []) hx1 ⟨hF, dx, [], upd_same, .nil⟩
    have g2 := (st.grow (μ := μ)).trans (Grow.alloc r1 (.ins (He.ga X.K C) dx []) hx1)
    have hloc : RepR X.K X.w F (μ ++ [x]) [] (.loc S.length) (.ref x) := ⟨x, by rw [← h1.len]; simp, rfl⟩
    refine ⟨F, μ ++ [x], S ++ [.ins C []], .loc S.length :: as, r2, .cons hloc ((h3.closed c.1).mono (Same.refl _) (List.prefix_append _ _)), by rw [List.length_cons]; exact c.2, ?_⟩
    obtain ⟨o, S', q1, q2⟩ := h4
    split at q1
    · rename_i S1 q
      cases q1
      refine ⟨.ok (.d .non), S', q, fun F' μ' H' v g r z => ?_⟩
      cases z
      exact ⟨rfl, q2 F' μ' H' (.ref x) (g2.trans g) r ⟨x, get_of_prefix g.p (by rw [← h1.len]; simp), rfl⟩⟩
    · rename_i cn fs S1 q
      cases q1
      exact ⟨.ex cn fs, S', q, fun F' μ' H' d g r z => q2 F' μ' H' d (g2.trans g) r z⟩
    · cases q1
  · rw [if_neg c] at h4; exact h4.none_
theorem me_make {k j n : Nat} {x : Str} {f : FM} (c : ClM X.prog X.w X.K X.mg X.base k x n f) (hr : Room j X.A) (hk : k + 1 ≤ j) (tk : Takes X W) (ha : MA X W (e :: es) ms) (hg : Gl X x := by rfl) (hdb : (x == ("__debug__" : Str)) = false := by decide)
    (he : starEach (e :: es) X.env = (false, eval e X.env) :: starEach es X.env := by rfl) (hpl : (backTo pos (starEach es X.env)).any (·.1) = false := by rfl) : ME X W (.Call (.Name x p) (e :: es) [] pos) (makeM x n f ms) := by
  obtain ⟨a, fd, ps, F, hm, M, hb⟩ := c.ex
  refine ⟨fun pins s σ H Q I h => ?_⟩
  refine wpAny_Call_Name_kw (ld_glob I hg hm ?_ hdb)
  refine PySem.W.callWith_K (h₀ := X.base) I.ok.mod.kin M.kp (thn (ha.run pos pins s σ H _ I (core_bind (Ra := fun σ F μ => RepRs X.K X.w F μ σ) h)) fun us s1 ⟨vs, H1, I1, r, as, F1, μ, ρ, S, h1, h2, h3, h4⟩ => ⟨I1.kIn, ?_⟩) he hpl
  exact run_makeS M F (hr.mono hk) hb (passAt tk σ) I1 r (make_ok h1 h3 h4)

/-! fields -/
/-- facts of a class -/
structure FldOk (K : PySem.W.Frag) (C f : Str) : Prop where
  c : Cls K (He.ga K C)
  n : NoAttr K (He.ga K C) f
theorem getFld_ok {K : PySem.W.Frag} {w : World} {C f : Str} {F H : Hp} {μ : List Addr} {S : Sto} {σ : L2.St} {r x : R} {v : V} (h1 : Rel K w F μ S H) (h3 : RepR K w F μ σ r v) (h : getFld C f r S = some x) :
    ∃ a dx fs u, v = .ref a ∧ H a = some (.ins (He.ga K C) dx fs) ∧ fs.lookup f = some u ∧ RepR K w F μ [] x u := by
  have ob : ∀ {D : Str} {fs : List (Str × MM.D)} {v : V}, Rep K w F (.obj D fs) v → (if D = C then (fs.lookup f).map R.d else none) = some x → ∃ a dx fs u, v = .ref a ∧ H a = some (.ins (He.ga K C) dx fs) ∧ fs.lookup f = some u ∧ RepR K w F μ [] x u := fun {D fs v} hh e => by
    by_cases c : D = C
    · rw [if_pos c] at e
      subst c
      obtain ⟨d, e1, rfl⟩ := Option.map_eq_some_iff.mp e
      cases hh with
      | obj hF hr =>
        obtain ⟨u, g1, g2⟩ := hr.get e1
        exact ⟨_, _, _, u, rfl, h1.le _ _ hF, g1, g2⟩
    · rw [if_neg c] at e; cases e
  cases r with
  | slot i => cases h
  | d d =>
    unfold getFld at h
    cases d with
    | obj D fs => exact ob h3 h
    | _ => cases h
  | loc n =>
    obtain ⟨a, ha, rfl⟩ := h3
    unfold getFld at h
    simp only at h
    cases q : S[n]? with
    | none => simp [q] at h
    | some c =>
      have k := h1.cell n a c ha q
      cases c with
      | ins D fs =>
        simp only [q] at h
        by_cases c : D = C
        · rw [if_pos c] at h
          subst c
          obtain ⟨hF, dx, vs, g1, g2⟩ := k
          obtain ⟨u, g3, g4⟩ := g2.get h
          exact ⟨a, dx, vs, u, rfl, g1, g3, g4⟩
        · rw [if_neg c] at h; cases h
      | frz d =>
        cases d with
        | obj D fs => simp only [q] at h; exact ob k h
        | _ => simp [q] at h
      | _ => simp [q] at h
theorem me_fld {C f : Str} (c : FldOk X.K C f) (he : ME X W e me) (hb : attributeBase e f X.env (eval e X.env) = eval e X.env := by rfl) : ME X W (.Attribute e f pos) (fldM C f me) :=
  PE.imp (pe_fld he hb) fun σ H Q h => (core_bind (Ra := fun σ F μ => RepR X.K X.w F μ σ) h).imp fun x H1 ⟨r, F, μ, ρ, S, h1, h2, h3, h4⟩ => by
    unfold fldR at h4
    cases q : getFld C f r S with
    | none => simp only [q] at h4; exact h4.none_
    | some y =>
      simp only [q] at h4
      by_cases cl : closedR y = true
      · rw [if_pos cl] at h4
        obtain ⟨a, dx, fs, u, rfl, g1, g2, g3⟩ := getFld_ok h1 h3 q
        exact ⟨a, _, dx, fs, u, rfl, g1, c.c, c.n, g2, h4.ok .refl h1 (g3.closed cl σ)⟩
      · rw [if_neg cl] at h4; exact h4.none_
theorem ms_fld {C f : Str} (c : FldOk X.K C f) (ho : ME X W o mo) (he : ME X W e me) (hs : swapsWith e (some (.Attribute o f pos')) pos.line X.env = pure false := by rfl) : MS X W (.Assign [.Attribute o f pos'] e pos) (sfldM C f me mo) :=
  PS.imp (ps_fld ho he hs) fun En σ H h => (flow_then2 (Rb := fun σ F μ => RepR X.K X.w F μ σ) h).imp fun x H1 h => core.imp h fun y H2 ⟨a, b, B, F, μ, ρ, S, h1, h2, h3, h4⟩ => by
    unfold putFM at h4
    cases b with
    | d d => exact h4.none_
    | slot i => exact h4.none_
    | loc n =>
      simp only at h4
      cases q : S[n]? with
      | none => simp only [q] at h4; exact h4.none_
      | some cc =>
        cases cc with
        | ins D fs =>
          simp only [q] at h4
          by_cases cl : D = C ∧ fs.length < 1000 ∧ closedR a = true
          · rw [if_pos cl] at h4
            obtain ⟨p, hp, rfl⟩ := h3
            obtain ⟨rfl, hl, hc⟩ := cl
            obtain ⟨hF, dx, vs, g1, g2⟩ := h1.rel.cell n p _ hp q
            refine ⟨p, _, dx, vs, rfl, g1, c.c, c.n, by rw [← g2.length]; exact hl, h4.nx (μ := μ) ?_⟩
            exact ⟨h1.rel.put hp hF ⟨hF, dx, _, upd_same, g2.put (h2.closed hc [])⟩, h1.fr.loc_put hp, h1.gr.trans (Grow.put _ hp), h1.ow⟩
          · rw [if_neg cl] at h4; exact h4.none_
        | _ => simp only [q] at h4; exact h4.none_
/-! methods -/
structure ClO (P : Program) (w : World) (K : PySem.W.Frag) (mg : Str → Option Value) (base : Heap) (k : Nat) (C m : Str) (n : Nat) (f : FM) : Prop where
  ex : ∃ (g : Addr) (fd : FuncData) (ps : List Str), FnOk P w K mg base (L2.CX P w) k g fd ps (spM K w n f) ∧ Cls K (He.ga K C) ∧ Meth K (He.ga K C) m g ∧ Binds K fd ps []
theorem isIns_ok {K : PySem.W.Frag} {w : World} {C m : Str} {F H : Hp} {μ : List Addr} {S : Sto} {σ : L2.St} {ρ : Fr} {r : R} {v : V} {o : Out R} {S' : Sto} (h1 : Rel K w F μ S H) (h3 : RepR K w F μ σ r v) (h : isIns C m r ρ S = some (o, S')) :
    S' = S ∧ ∃ y a dx fs, o = .ok y ∧ RepR K w F μ σ y v ∧ closedR y = true ∧ v = .ref a ∧ H a = some (.ins (He.ga K C) dx fs) ∧ fs.lookup m = none := by
  cases r with
  | slot i => cases h
  | d d =>
    unfold isIns at h
    cases d with
    | obj D fs =>
      simp only at h
      by_cases c : D = C ∧ fs.lookup m = none
      · rw [if_pos c] at h
        cases h
        obtain ⟨rfl, hl⟩ := c
        cases h3 with
        | obj hF hr => exact ⟨rfl, _, _, _, _, rfl, .obj hF hr, rfl, rfl, h1.le _ _ hF, hr.none hl⟩
      · rw [if_neg c] at h; cases h
    | _ => cases h
  | loc n =>
    obtain ⟨a, ha, rfl⟩ := h3
    unfold isIns at h
    simp only at h
    cases q : S[n]? with
    | none => simp [q] at h
    | some c =>
      have k := h1.cell n a c ha q
      cases c with
      | ins D fs =>
        simp only [q] at h
        by_cases c : D = C ∧ fs.lookup m = none
        · rw [if_pos c] at h
          cases h
          obtain ⟨rfl, hl⟩ := c
          obtain ⟨hF, dx, vs, g1, g2⟩ := k
          exact ⟨rfl, _, a, dx, vs, rfl, ⟨a, ha, rfl⟩, rfl, rfl, g1, g2.none hl⟩
        · rw [if_neg c] at h; cases h
      | frz d =>
        cases d with
        | obj D fs =>
          simp only [q] at h
          by_cases c : D = C ∧ fs.lookup m = none
          · rw [if_pos c] at h
            cases h
            obtain ⟨rfl, hl⟩ := c
            have k' : Rep K w F (.obj D fs) (.ref a) := k
            cases k' with
            | obj hF hr => exact ⟨rfl, _, a, _, _, rfl, .obj hF hr, rfl, rfl, h1.le _ _ hF, hr.none hl⟩
          · rw [if_neg c] at h; cases h
        | _ => simp [q] at h
      | _ => simp [q] at h
theorem run_fnS' {CX : CXT} {k : Nat} {f : Addr} {fd : FuncData} {ps : List Str} {sp : Sp} {E : XK} {pins : List (Addr × Obj)} {σ : L2.St} {H : Hp} {s : Shared} {Q : VK} {us : List Value} {vs : List V} (F : FnOk X.prog X.w X.K X.mg X.base CX k f fd ps sp) (hr : Room k X.A) (hb : Binds X.K fd ps []) (hx : PassesAt CX X σ E)
    (I : Inv X pins σ H s) (r : Vals vs us) (h : sp vs H Q E) : wpAny (model X.prog X.w) X.A (call (.ref f) us) (EP X pins σ Q) X.xe s := by
  have hl : (us ++ []).length = ps.length := by rw [List.append_nil, ← r.length]; exact F.len _ _ _ _ h
  have hb2 := hb s us I.kIn hl
  rw [List.append_nil] at hb2
  refine wpAny_call (codeAny_mono (F.run X.A X.stack s H ⟨us, []⟩ us vs Q E hr I.env0 hb2 r h) fun r s' hq => ?_)
  cases r with
  | error e => exact hx pins H s e s' I hq
  | ok fl =>
    cases fl with
    | ret u => exact I.after hq
    | next => exact False.elim hq
    | brk => exact False.elim hq
    | cont => exact False.elim hq
theorem me_meth {k j n : Nat} {C m : Str} {f : FM} {pl : Sem Bool} (c : ClO X.prog X.w X.K X.mg X.base k C m n f) (hr : Room j X.A) (hk : k ≤ j) (tk : Takes X W) (ho : ME X W o mo) (ha : MA X W (e :: es) ms)
    (hst : starEach (e :: es) X.env = (false, eval e X.env) :: starEach es X.env := by rfl) (hpl : (backTo pos (starEach es X.env)).any (·.1) = false := by rfl)
    (ht : eval (.Call (.Attribute o m apos) (e :: es) [] pos) X.env = (do
      let ov ← eval o X.env
      standAt apos.atName
      let (f, first) ← holding [ov] (getMethod ov m pl)
      callWith pos f first (backTo pos (starEach (e :: es) X.env)) (backToKw pos (keywordEach [] X.env))) := by rfl) :
    ME X W (.Call (.Attribute o m apos) (e :: es) [] pos) (methO C m n f mo ms) := by
  obtain ⟨g, fd, ps, F, hc, hm, hb⟩ := c.ex
  refine ⟨fun pins s σ H Q I h => ?_⟩
  have h' := core_bin (Ra := fun σ F μ => RepR X.K X.w F μ σ) (Rb := fun σ F μ => RepRs X.K X.w F μ σ) monoR h
  have h'' := core_bind (Ra := fun σ F μ => RepR X.K X.w F μ σ) h'
  refine PySem.W.methodCall_KW (pl := pl) (thn (ho.run pins s σ H _ I h'') fun u s1 ⟨x, H1, I1, rx, r, F1, μ1, ρ1, S1, h1, h2, h3, oo, S2, h4, h5⟩ => ?_) ht
  obtain ⟨rfl, y, a, dx, fs, rfl, h6, h7, rfl, h8, h9⟩ := isIns_ok h1 h3 h4
  obtain rfl : u = Value.ref a := rx
  have h10 := h5 F1 μ1 H1 (.ref a) .refl h1 h6
  refine getmeth_ok I1 h8 hc hm h9 ?_
  refine PySem.W.callWith_K (first := [.ref a]) (h₀ := X.base) I.ok.mod.kin hm.kp (thn (ha.run pos pins s1 σ H1 _ I1 h10) fun us s2 ⟨vs, H2, I2, r2, a1, b1, F2, μ2, ρ2, S2, k1, k2, k3, k4, k5⟩ => ⟨I2.kIn, ?_⟩) hst hpl
  by_cases cl : b1.length + 1 = n
  · rw [if_pos cl] at k5
    exact run_fnS' (us := .ref a :: us) (vs := .ref a :: vs) F (hr.mono hk) hb (passAt tk σ) I2 (.cons rfl r2) (app_ok k1 (.cons k3 k4) cl k5)
  · rw [if_neg cl] at k5; exact k5.none_
theorem me_meth0 {k j : Nat} {C m : Str} {f : FM} {pl : Sem Bool} (c : ClO X.prog X.w X.K X.mg X.base k C m 1 f) (hr : Room j X.A) (hk : k ≤ j) (tk : Takes X W) (ho : ME X W o mo)
    (ht : eval (.Call (.Attribute o m apos) [] [] pos) X.env = (do
      let ov ← eval o X.env
      standAt apos.atName
      let (f, first) ← holding [ov] (getMethod ov m pl)
      callWith pos f first (backTo pos (starEach [] X.env)) (backToKw pos (keywordEach [] X.env))) := by rfl) :
    ME X W (.Call (.Attribute o m apos) [] [] pos) (methO C m 1 f mo nilA) := by
  obtain ⟨g, fd, ps, F, hc, hm, hb⟩ := c.ex
  refine ⟨fun pins s σ H Q I h => ?_⟩
  have h'' := core_bind (Ra := fun σ F μ => RepR X.K X.w F μ σ) (core_bind (Ra := fun σ F μ => RepR X.K X.w F μ σ) h)
  refine PySem.W.methodCall_KW (pl := pl) (thn (ho.run pins s σ H _ I h'') fun u s1 ⟨x, H1, I1, rx, r, F1, μ1, ρ1, S1, h1, h2, h3, oo, S2, h4, h5⟩ => ?_) ht
  obtain ⟨rfl, y, a, dx, fs, rfl, h6, h7, rfl, h8, h9⟩ := isIns_ok h1 h3 h4
  obtain rfl : u = Value.ref a := rx
  obtain ⟨b1, F2, μ2, ρ2, S2, k1, k2, k3, k4⟩ := h5 F1 μ1 H1 (.ref a) .refl h1 h6
  refine getmeth_ok I1 h8 hc hm h9 ?_
  have k5 : coreAt X.K X.w (fun σ F μ => RepR X.K X.w F μ σ) W (appF f [b1] ρ2 S2) F2 μ2 σ H1 Q := by
    simpa [bindM, nilA] using k4
  exact PySem.W.callWith_K0 (first := [.ref a]) I1.kIn hm.kp (run_fnS' (us := [.ref a]) (vs := [.ref a]) F (hr.mono hk) hb (passAt tk σ) I1 (.cons rfl .nil) (app_ok k1 (.cons k3 .nil) rfl k5))
end
end MM
namespace MM
open PySem PySem.Spec PyProof.Rows L2

/-! ### the frozen heap grows by what stands there -/
section
variable {K : PySem.W.Frag} {w : World} {W : WX} {F F' H H' : Hp} {μ μ' : List Addr} {S S' : Sto} {ρ : Fr} {σ : L2.St} {B : Bs}
theorem CellOk.fz {a p : Addr} {c : Cell} {o : HO} (na : a ≠ p) (z : Same F (upd F p o)) (k : CellOk K w F μ H a c) : CellOk K w (upd F p o) μ H a c := by
  have nf : ∀ {P : Prop}, F a = none ∧ P → upd F p o a = none := fun z => by rw [upd_ne na]; exact z.1
  cases c with
  | lst ds => exact ⟨nf k, k.2.imp fun xs g => ⟨g.1, g.2.mono z⟩⟩
  | dic kvs => exact ⟨nf k, k.2.imp fun xs g => ⟨g.1, g.2.mono z⟩⟩
  | dit kvs => exact ⟨nf k, k.2.imp fun xs g => ⟨g.1, g.2.1.mono z, g.2.2⟩⟩
  | ins C fs => exact ⟨nf k, k.2.imp fun dx g => g.imp fun xs g => ⟨g.1, g.2.mono z List.prefix_rfl⟩⟩
  | frz x => exact Rep.mono z k
theorem Rel.fzOut (r : Rel K w F μ S H) {p : Addr} {o : HO} (hp : H p = some o) (hF : F p = none) (hm : p ∉ μ) : Rel K w (upd F p o) μ S H := by
  obtain ⟨z1, z2⟩ := Step.fz r.le hp hF
  exact ⟨z1, r.nd, r.len, r.there, fun n a c q1 q2 => (r.cell n a c q1 q2).fz (fun z => hm (by rw [← z]; exact List.mem_of_getElem? q1)) z2⟩
/-- an object that stands there becomes a cell -/
theorem Rel.join (r : Rel K w F μ S H) {p : Addr} {c : Cell} (hm : p ∉ μ) (ht : H p ≠ none) (k : CellOk K w F μ H p c) : Rel K w F (μ ++ [p]) (S ++ [c]) H := by
  have st : Step F H F H := Step.refl r.le
  refine ⟨r.le, ?_, by simp [r.len], fun a ha => ?_, fun n a d h1 h2 => ?_⟩
  · refine List.nodup_append.mpr ⟨r.nd, by simp, fun a ha b hb e => hm ?_⟩
    have : b = p := by simpa using hb
    rw [← this, ← e]; exact ha
  · rcases List.mem_append.mp ha with h | h
    · exact r.there a h
    · have : a = p := by simpa using h
      rw [this]; exact ht
  · by_cases hn : n < μ.length
    · rw [List.getElem?_append_left hn] at h1
      rw [List.getElem?_append_left (by rw [← r.len]; exact hn)] at h2
      exact (r.cell n a d h1 h2).step st (r.there a (List.mem_of_getElem? h1)) (List.prefix_append _ _)
    · have h3 := (List.getElem?_eq_some_iff.mp h1).1
      have e : n = μ.length := by simp at h3; omega
      subst e
      rw [List.getElem?_append_right (Nat.le_refl _)] at h1
      rw [r.len, List.getElem?_append_right (Nat.le_refl _)] at h2
      simp at h1 h2
      subst h1 h2
      exact k.step st ht (List.prefix_append _ _)
/-- a frame's own list is frozen -/
theorem StOk.frz (x : StOk K w B F μ ρ S σ H) {i : Nat} {c : Cell} {d : D} (e : ρ[i]? = some (some (.own c))) (hd : frzCell c = some d) : ∃ F', Same F F' ∧ StOk K w B F' μ (ρ.set i (some (.r (.d d)))) S σ H := by
  obtain ⟨p, h1, h2, h3, h4, h5⟩ := x.fr.own i c e
  have hi : i < ρ.length := (List.getElem?_eq_some_iff.mp e).1
  have h0 : B.H p = none := x.ow i c p e h1
  have go : ∀ o, H p = some o → Rep K w (upd F p o) d (.ref p) → ∃ F', Same F F' ∧ StOk K w B F' μ (ρ.set i (some (.r (.d d)))) S σ H := fun o ho rep => by
    obtain ⟨z1, z2⟩ := Step.fz x.rel.le ho h3
    have own' : ∀ {j : Nat} {cc : Cell}, (ρ.set i (some (.r (.d d))))[j]? = some (some (.own cc)) → j ≠ i ∧ ρ[j]? = some (some (.own cc)) := fun {j cc} q => by
      have n : j ≠ i := fun z => by subst z; rw [List.getElem?_set_self hi] at q; cases q
      rw [List.getElem?_set_ne (Ne.symm n)] at q
      exact ⟨n, q⟩
    refine ⟨upd F p o, z2, x.rel.fzOut ho h3 h2, ⟨by simp [x.fr.len], fun j y q => ?_, fun j cc q => ?_, fun j k cc dd a q1 q2 q3 q4 => ?_⟩, ?_, fun j cc a q1 q2 => ?_⟩
    · by_cases n : j = i
      · subst n
        rw [List.getElem?_set_self hi] at q; cases q
        exact ⟨_, h1, rep⟩
      · rw [List.getElem?_set_ne (Ne.symm n)] at q
        exact (x.fr.r j y q).imp fun v g => ⟨g.1, g.2.mono z2 List.prefix_rfl⟩
    · obtain ⟨n, q'⟩ := own' q
      obtain ⟨a, g1, g2, g3, g4, g5⟩ := x.fr.own j cc q'
      have na : a ≠ p := fun z => n (x.fr.dist j i cc c a q' e g1 (by rw [z]; exact h1))
      exact ⟨a, g1, g2, by rw [upd_ne na]; exact g3, g4, g5.fz na z2⟩
    · exact x.fr.dist j k cc dd a (own' q1).2 (own' q2).2 q3 q4
    · refine ⟨x.gr.f.trans z2, x.gr.p, x.gr.h, fun a q1 q2 q3 => ?_, x.gr.nm⟩
      by_cases na : a = p
      · rw [na]; exact h0
      · rw [upd_ne na] at q1; exact x.gr.nf a q1 q2 q3
    · exact x.ow j cc a (own' q1).2 q2
  cases c with
  | lst ds =>
    cases hd
    obtain ⟨_, xs, g1, g2⟩ := h5
    have z2 := (Step.fz x.rel.le g1 h3).2
    exact go _ g1 (.lst upd_same (g2.mono z2))
  | dic ds =>
    cases hd
    obtain ⟨_, xs, g1, g2⟩ := h5
    have z2 := (Step.fz x.rel.le g1 h3).2
    exact go _ g1 (.dic upd_same (g2.mono z2))
  | dit ds =>
    cases hd
    obtain ⟨_, xs, g1, g2, y1, y2, y3⟩ := h5
    have z2 := (Step.fz x.rel.le g1 h3).2
    exact go _ g1 (.dit upd_same (g2.mono z2) y1 y2 y3)
  | ins C ds => cases hd
  | frz y => cases hd
end
/-- ahead of a statement: the frame's own list, or the cell that the name holds, is frozen -/
def frzS (i : Nat) : SM := fun ρ S => match ρ[i]? with
  | some (some (.own c)) => match frzCell c with
    | some d => some (.nx, ρ.set i (some (.r (.d d))), S)
    | none => none
  | some (some (.r (.loc n))) => match frzR (.loc n) ρ S with
    | some (.ok y, S') => some (.nx, ρ.set i (some (.r y)), S')
    | _ => none
  | _ => none
theorem StOk.reset {K : PySem.W.Frag} {w : World} {B : Bs} {F H : Hp} {μ : List Addr} {ρ : Fr} {S : Sto} {σ : L2.St} (x : StOk K w B F μ ρ S σ H) {i : Nat} {r y : R} (e : ρ[i]? = some (some (.r r))) (h : ∀ v, RepR K w F μ [] r v → RepR K w F μ [] y v) : StOk K w B F μ (ρ.set i (some (.r y))) S σ H := by
  have hi : i < ρ.length := (List.getElem?_eq_some_iff.mp e).1
  have own' : ∀ {j : Nat} {cc : Cell}, (ρ.set i (some (.r y)))[j]? = some (some (.own cc)) → ρ[j]? = some (some (.own cc)) := fun {j cc} q => by
    have n : j ≠ i := fun z => by subst z; rw [List.getElem?_set_self hi] at q; cases q
    rw [List.getElem?_set_ne (Ne.symm n)] at q
    exact q
  refine ⟨x.rel, ⟨by simp [x.fr.len], fun j z q => ?_, fun j cc q => x.fr.own j cc (own' q), fun j k cc dd a q1 q2 q3 q4 => x.fr.dist j k cc dd a (own' q1) (own' q2) q3 q4⟩, x.gr, fun j cc a q1 q2 => x.ow j cc a (own' q1) q2⟩
  by_cases n : j = i
  · subst n
    rw [List.getElem?_set_self hi] at q; cases q
    obtain ⟨v, g1, g2⟩ := x.fr.r j r e
    exact ⟨v, g1, h v g2⟩
  · rw [List.getElem?_set_ne (Ne.symm n)] at q
    exact x.fr.r j z q
section
variable {X : Cx} {W : WX} {sts : List Stmt} {m : SM} {e o : Expr} {me mo : EM} {pos p apos cpos : Pos} {es : List Expr} {ms : AM}
theorem tS_frz {K : PySem.W.Frag} {w : World} {i : Nat} {En : Ends} {σ : L2.St} {H : Hp} (h : tS K w W (seqM (frzS i) m) En σ H) : tS K w W m En σ H := by
  obtain ⟨B, F, μ, ρ, S, h1, fl, ρ', S', h2, h3⟩ := h
  unfold seqM frzS at h2
  cases q : ρ[i]? with
  | none => simp [q] at h2
  | some oe =>
    cases oe with
    | none => simp [q] at h2
    | some en =>
      cases en with
      | own c =>
        cases hd : frzCell c with
        | none => simp [q, hd] at h2
        | some d =>
          simp only [q, hd] at h2
          obtain ⟨F', e, x⟩ := h1.frz q hd
          exact ⟨B, F', μ, _, S, x, fl, ρ', S', h2, fun F2 μ2 σ2 H2 e2 => h3 F2 μ2 σ2 H2 (e.trans e2)⟩
      | r y =>
        cases y with
        | d d => simp [q] at h2
        | slot j => simp [q] at h2
        | loc n =>
          cases hf : frzR (.loc n) ρ S with
          | none => simp [q, hf] at h2
          | some rs =>
            obtain ⟨oo, S1⟩ := rs
            cases oo with
            | ex c fs => exact absurd hf frzR_ok
            | ok y =>
              simp only [q, hf] at h2
              obtain ⟨v, g1, g2⟩ := h1.fr.r i _ q
              obtain ⟨F', g, r, rep⟩ := frz_ok (σ := []) h1.rel g2 hf
              have x := h1.grow g r
              have x2 : StOk K w B F' μ (ρ.set i (some (.r y))) S1 σ H := x.reset q fun u hu => by
                obtain ⟨a, k1, rfl⟩ := hu
                obtain ⟨a', k2, rfl⟩ := g2
                rw [k1] at k2; cases k2
                exact rep
              exact ⟨B, F', μ, _, S1, x2, fl, ρ', S', h2, fun F2 μ2 σ2 H2 e2 => h3 F2 μ2 σ2 H2 (g.f.trans e2)⟩
theorem mss_frz (i : Nat) (h : MSs X W sts m) : MSs X W sts (seqM (frzS i) m) := PSs.imp h fun En σ H q => tS_frz q
theorem ms_frz (i : Nat) {st : Stmt} (h : MS X W st m) : MS X W st (seqM (frzS i) m) := PS.imp h fun En σ H q => tS_frz q
/-! a new list becomes a cell -/
def locOf (m : NM) : EM := fun ρ S => match m ρ S with
  | some (.ok ds, S') => some (.ok (.loc S'.length), S' ++ [.lst ds])
  | some (.ex c fs, S') => some (.ex c fs, S')
  | none => none
theorem me_loc {m : NM} (h : MN X W e m) : ME X W e (locOf m) := PE.imp h fun σ H Q ⟨F, μ, ρ, S, h1, h2, o, S', h3, h4⟩ => by
  refine ⟨F, μ, ρ, S, h1, h2, ?_⟩
  unfold locOf at h3
  cases q : m ρ S with
  | none => simp [q] at h3
  | some r =>
    obtain ⟨o1, S1⟩ := r
    simp only [q] at h3
    cases o1 with
    | ex c fs => cases h3; exact ⟨_, _, rfl, h4⟩
    | ok ds =>
      cases h3
      refine ⟨.ok ds, S1, rfl, fun F' μ' H' p xs g r hp hF hm h0 ra => ?_⟩
      have r2 := r.join hm (by rw [hp]; exact fun z => nomatch z) (c := .lst ds) ⟨hF, xs, hp, ra⟩
      refine h4 F' (μ' ++ [p]) H' (.ref p) ⟨g.f, g.p.trans (List.prefix_append _ _), g.h, g.nf, fun a q1 q2 => ?_⟩ r2 ⟨p, by rw [← r.len]; simp, rfl⟩
      rcases List.mem_append.mp q1 with k | k
      · exact g.nm a k q2
      · have : a = p := by simpa using k
        rw [this]; exact h0
/-! try: .. except: .., where nothing is raised -/
def thruM (m : SM) : SM := fun ρ S => match m ρ S with
  | some (.ex _ _, _, _) => none
  | r => r
theorem ms_thru {body : List Stmt} {h0 : ExceptHandler} {hs : List ExceptHandler} (hb : MSs X.nox noW body m) : MS X W (.Try body (h0 :: hs) [] [] pos) (thruM m) :=
  PS.imp (ps_try_thru0 hb) fun En σ H ⟨B, F, μ, ρ, S, h1, fl, ρ', S', h2, h3⟩ => by
    refine ⟨B, F, μ, ρ, S, h1, ?_⟩
    unfold thruM at h2
    split at h2
    · cases h2
    · refine ⟨fl, ρ', S', h2, fun F' μ' σ' H' e x => ?_⟩
      have := h3 F' μ' σ' H' e x
      cases fl with
      | ex c fs => rename_i nn; exact absurd h2 (nn _ _ _ _)
      | nx => exact this
      | rt r => exact this
      | bk => exact this
      | ct => exact this
theorem takesNo : Takes X.nox noW := fun u s' ⟨a, B, sI, pins, σ, H, cls, d, e, I, nb, up, sky, na, os, ag, w⟩ => w.elim
theorem takesBlk {s : Shared} {H : Hp} {scope : Scope} {cenv : Env} {fp : List Addr} : Takes (X.blk s H scope cenv fp) noW := fun u s' ⟨a, B, sI, pins, σ, H, cls, d, e, I, nb, up, sky, na, os, ag, w⟩ => w.elim
/-! isinstance by an own class -/
def isCF (C : Str) : List D → Option D
  | [.obj D _, .gl E] => if D = C ∧ E = C then some (.bl true) else none
  | _ => none
theorem cm_isC {C : Str} (c : C8.InsC X.K (He.ga X.K C)) : CallR X (.builtin "isinstance") (rCa X.K X.w (isCF C)) := callR_imp (C8.call_isC c) fun xs H Q ⟨F, ds, g, le, h1, h2, k⟩ => by
  unfold isCF at h2
  split at h2
  · rename_i D fs E
    by_cases c : D = C ∧ E = C
    · rw [if_pos c] at h2; cases h2
      obtain ⟨rfl, rfl⟩ := c
      obtain ⟨v, u, rfl, h, g⟩ := h1.two
      obtain ⟨a, dx, vs, rfl, ha, _⟩ := h.obj le
      exact ⟨a, dx, vs, by rw [g.gl], ha, k F H _ (Step.refl le) (.bl _)⟩
    · rw [if_neg c] at h2; cases h2
  · cases h2
/-! methods of texts -/
def isStrR (r : R) : EM := fun _ S => match r with
  | .d (.str x) => some (.ok (.d (.str x)), S)
  | _ => none
def strR (mo : EM) : EM := bindM mo isStrR
theorem ret_meth {f : D → List D → Option D} {σ : L2.St} {H : Hp} {Q : VK} {x : V} {xs : List V} {a : R} {as : List R} {F : Hp} {μ : List Addr} {ρ : Fr} {S : Sto} (h1 : Rel X.K X.w F μ S H) (h2 : RelFr X.K X.w F μ H ρ σ) (h0 : RepR X.K X.w F μ σ a x) (h3 : RepRs X.K X.w F μ σ as xs)
    (h4 : coreAt X.K X.w (fun σ F μ => RepR X.K X.w F μ σ) W (retO f a as ρ S) F μ σ H Q) : rMt X.K X.w f x xs H Q := by
  unfold retO at h4
  cases q0 : peek ρ S a with
  | none => simp only [q0] at h4; exact h4.none_
  | some d =>
    cases q : peeks ρ S as with
    | none => simp only [q0, q] at h4; exact h4.none_
    | some ds =>
      simp only [q0, q] at h4
      cases q3 : f d ds with
      | none => simp only [q3] at h4; exact h4.none_
      | some g =>
        simp only [q3] at h4
        exact ⟨F, d, ds, g, h1.le, peek_rep h1 h2 h0 q0, peeks_rep h1 h2 h3 q, q3, fun F' H' v st r => h4.ok st.grow (h1.step st) r⟩
theorem me_strm {m : Str} {id : String} {f : D → List D → Option D} (slot : Slot "str" m id) (hty : typeOf (.builtin id) = pure (.type "method_descriptor")) (hm : MtR X id (rMt X.K X.w f)) (ho : ME X W o mo) (ha : MA X W (e :: es) ms)
    (hbase : attributeBase o m X.env (eval o X.env) = eval o X.env := by rfl)
    (hfew : ((backTo cpos (starEach (e :: es) X.env)).all (fun x => !x.1) && (backToKw cpos (keywordEach [] X.env)).all (fun x => x.1.isSome) && decide ((e :: es).length + ([] : List Keyword).length + (if ([] : List Keyword).isEmpty then 0 else 1) < 30)) = true := by rfl)
    (hline : (apos.endLine == cpos.line) = true := by rfl) (hs : starEach (e :: es) X.env = (false, eval e X.env) :: starEach es X.env := by rfl) (hplain : (backTo cpos (starEach es X.env)).any (·.1) = false := by rfl) :
    ME X W (.Call (.Attribute o m apos) (e :: es) [] cpos) (methM f (strR mo) ms) :=
  PE.imp (pe_bm PySem.F.plainAttrs_str slot hty hm ho ha hbase hfew hline hs hplain) fun σ H Q h => by
    have h' := core_bin (Ra := fun σ F μ => RepR X.K X.w F μ σ) (Rb := fun σ F μ => RepRs X.K X.w F μ σ) monoR h
    refine (core_bind (Ra := fun σ F μ => RepR X.K X.w F μ σ) h').imp fun x H1 ⟨r, F, μ, ρ, S, h1, h2, h3, o, S', h4, h5⟩ => ?_
    unfold isStrR at h4
    split at h4
    · cases h4
      cases h3
      refine ⟨rfl, core.imp (h5 F μ H1 _ .refl h1 (.str _)) fun y H2 ⟨a, b, F, μ, ρ, S, k1, k2, k3, k4, k5⟩ => ret_meth k1 k2 k3 k4 k5⟩
    · cases h4
theorem me_split (ho : ME X W o mo) (ha : MA X W (e :: es) ms)
    (hbase : attributeBase o "split" X.env (eval o X.env) = eval o X.env := by rfl)
    (hfew : ((backTo cpos (starEach (e :: es) X.env)).all (fun x => !x.1) && (backToKw cpos (keywordEach [] X.env)).all (fun x => x.1.isSome) && decide ((e :: es).length + ([] : List Keyword).length + (if ([] : List Keyword).isEmpty then 0 else 1) < 30)) = true := by rfl)
    (hline : (apos.endLine == cpos.line) = true := by rfl) (hs : starEach (e :: es) X.env = (false, eval e X.env) :: starEach es X.env := by rfl) (hplain : (backTo cpos (starEach es X.env)).any (·.1) = false := by rfl) :
    ME X W (.Call (.Attribute o "split" apos) (e :: es) [] cpos) (methM splitF (strR mo) ms) := me_strm PySem.F.slot_str_split PySem.F.type_str_split mm_split ho ha hbase hfew hline hs hplain
theorem me_join (ho : ME X W o mo) (ha : MA X W (e :: es) ms)
    (hbase : attributeBase o "join" X.env (eval o X.env) = eval o X.env := by rfl)
    (hfew : ((backTo cpos (starEach (e :: es) X.env)).all (fun x => !x.1) && (backToKw cpos (keywordEach [] X.env)).all (fun x => x.1.isSome) && decide ((e :: es).length + ([] : List Keyword).length + (if ([] : List Keyword).isEmpty then 0 else 1) < 30)) = true := by rfl)
    (hline : (apos.endLine == cpos.line) = true := by rfl) (hs : starEach (e :: es) X.env = (false, eval e X.env) :: starEach es X.env := by rfl) (hplain : (backTo cpos (starEach es X.env)).any (·.1) = false := by rfl) :
    ME X W (.Call (.Attribute o "join" apos) (e :: es) [] cpos) (methM joinF (strR mo) ms) := me_strm PySem.F.slot_str_join PySem.F.type_str_join mm_join ho ha hbase hfew hline hs hplain
/-! f-strings -/
def fmtR (r : R) : EM := fun _ S => match r with
  | .d (.str y) => if y.length ≤ sizeLine then some (.ok (.d (.str y)), S) else none
  | .d (.int i) => if i.natAbs.log2 < 1920 then some (.ok (.d (.str (toString i))), S) else none
  | _ => none
def fmtM (m : EM) : EM := bindM m fmtR
theorem me_fmt (he : ME X W e me) : ME X W (.FormattedValue e (-1) none pos) (fmtM me) := PE.imp (pe_fmt he) fun σ H Q h => (core_bind (Ra := fun σ F μ => RepR X.K X.w F μ σ) h).imp fun x H1 ⟨r, F, μ, ρ, S, h1, h2, h3, h4⟩ => by
  unfold fmtR at h4
  split at h4
  · rename_i y
    by_cases c : y.length ≤ sizeLine
    · rw [if_pos c] at h4; cases h3; exact .inl ⟨y, rfl, c, h4.ok .refl h1 (.str _)⟩
    · rw [if_neg c] at h4; exact h4.none_
  · rename_i i
    by_cases c : i.natAbs.log2 < 1920
    · rw [if_pos c] at h4; cases h3; exact .inr ⟨i, rfl, c, h4.ok .refl h1 (.str _)⟩
    · rw [if_neg c] at h4; exact h4.none_
  · exact h4.none_
/-- the parts -/
inductive MJ (X : Cx) (W : WX) : List Expr → List EM → Prop where
  | nil : MJ X W [] []
  | cons {e : Expr} {t : EM} {es : List Expr} {ts : List EM} (h : ME X W e t) (r : MJ X W es ts) : MJ X W (e :: es) (t :: ts)
def jsM : List EM → Str → EM
  | [], acc => litM (.str acc)
  | t :: ts, acc => bindM t fun r ρ S => match r with
    | .d (.str y) => if (acc ++ y).length ≤ sizeLine then jsM ts (acc ++ y) ρ S else none
    | _ => none
theorem MJ.pj {ts : List EM} (h : MJ X W es ts) : PJ X es (ts.map fun m => tE X.K X.w W m) := by
  induction h with
  | nil => exact .nil
  | cons h r ih => exact .cons h ih
theorem js_ok : ∀ {ts : List EM} {acc : Str} {σ : L2.St} {H : Hp} {Q : VK}, tE X.K X.w W (jsM ts acc) σ H Q → tJs (ts.map fun m => tE X.K X.w W m) acc σ H fun out H1 => Q (.str out) H1
  | [], acc, σ, H, Q, ⟨F, μ, ρ, S, h1, h2, h3⟩ => h3.ok .refl h1 (.str _)
  | t :: ts, acc, σ, H, Q, h => (core_bind (Ra := fun σ F μ => RepR X.K X.w F μ σ) h).imp fun x H1 ⟨r, F, μ, ρ, S, h1, h2, h3, h4⟩ => by
    split at h4
    · rename_i y
      by_cases c : (acc ++ y).length ≤ sizeLine
      · rw [if_pos c] at h4; cases h3
        exact ⟨y, rfl, c, js_ok ⟨F, μ, ρ, S, h1, h2, h4⟩⟩
      · rw [if_neg c] at h4; exact h4.none_
    · exact h4.none_
theorem me_joined {v1 v2 : Expr} {rest : List Expr} {ts : List EM} (h : MJ X W (v1 :: v2 :: rest) ts) : ME X W (.JoinedStr (v1 :: v2 :: rest) pos) (jsM ts Str.empty) := PE.imp (pe_joined h.pj) fun σ H Q h => js_ok h
/-! the own == -/
def eqO (m : FM) (d e : D) : Option D := match m [.d d, .d e] [] with
  | some (.ok (.d (.bl b)), []) => some (.bl b)
  | _ => none
def isObj (C : Str) : D → Bool
  | .obj D _ => decide (D = C)
  | _ => false
def eqOC (C : Str) (m : FM) (d e : D) : Option D := if isObj C d = true ∧ isObj C e = true then eqO m d e else none
structure ClE (P : Program) (w : World) (K : PySem.W.Frag) (mg : Str → Option Value) (base : Heap) (k : Nat) (C : Str) (m : FM) : Prop where
  ex : ∃ (f : Addr) (fd : FuncData) (ps : List Str), FnOk P w K mg base (L2.CX P w) k f fd ps (spM K w 2 m) ∧ PySem.W.findIn K (.ref (He.ga K C)) "__eq__" = some (some (.ref f)) ∧ PySem.W.isFn K (.ref f) = true ∧ Binds K fd ps []
theorem om_eqO {k j : Nat} {C : Str} {m : FM} (c : ClE X.prog X.w X.K X.mg X.base k C m) (hr : Room j X.A) (hk : k ≤ j) : OpR X (compareOp .Eq) (rOp X.K X.w (eqOC C m)) := by
  obtain ⟨f, fd, ps, F0, hs, hf, hb⟩ := c.ex
  rintro pins s σ H x y v u Q I rx ry ⟨F, d, e, z, le, h1, h2, h3, k0⟩
  unfold eqOC at h3
  by_cases cc : isObj C d = true ∧ isObj C e = true
  · rw [if_pos cc] at h3
    obtain ⟨c1, c2⟩ := cc
    cases d with
    | obj D fs =>
      cases e with
      | obj D2 gs =>
        have e1 : D = C := of_decide_eq_true c1
        have e2 : D2 = C := of_decide_eq_true c2
        subst e1 e2
        have R1 := h1.flat (fun _ z => nomatch z) (fun _ z => nomatch z) (fun _ z => nomatch z)
        have R2 := h2.flat (fun _ z => nomatch z) (fun _ z => nomatch z) (fun _ z => nomatch z)
        obtain ⟨a, dx, vs, rfl, ha, _⟩ := h1.obj le
        obtain ⟨b, dy, vs2, rfl, hb', _⟩ := h2.obj le
        cases rx
        cases ry
        obtain ⟨mA, J, _⟩ := ins_get I.hok ha
        obtain ⟨mB, J', _⟩ := ins_get I.hok hb'
        obtain ⟨od, J, _⟩ := J.look
        obtain ⟨od', J', _⟩ := J'.look
        unfold eqO at h3
        split at h3
        · rename_i b0 q
          cases h3
          have rel0 : Rel X.K X.w F [] [] H := ⟨le, List.nodup_nil, rfl, fun _ h => by simp at h, fun n a c h => by simp at h⟩
          have hsp : spM X.K X.w 2 m [.ref a, .ref b] H (fun v H' => v = .bl b0 ∧ Q (.bl b0) H') (fun _ _ _ => False) := by
            refine ⟨F, [], [], [.d (.obj D2 fs), .d (.obj D2 gs)], rel0, .cons (r := .d _) R1 (.cons (r := .d _) R2 .nil), rfl, _, _, q, fun F' μ' H' v g r zz => ?_⟩
            cases zz
            have e0 : μ' = [] := List.eq_nil_of_length_eq_zero r.len
            subst e0
            exact ⟨rfl, k0 F' H' _ ⟨g.f, fun a o e => g.h a o e (by simp), r.le, fun a h1 h2 => g.nf a h1 h2 (by simp)⟩ (.bl _)⟩
          have sb : L2.Sub X k X.A := ⟨hr.mono hk, rfl⟩
          obtain ⟨m0, hF⟩ := I.fr
          show wpAny (model X.prog X.w) X.A (richCompare .Eq (.ref a) (.ref b)) (EP X pins σ Q) X.xe s
          refine PySem.W.cmp_K (op := .Eq) (tb := .ref (He.ga X.K D2)) sb.room.units0 hF I.ok.mod.kin J J'.type (by simp [PySem.W.notFirst]) hs hf ?_
          have hl := F0.len _ _ _ _ hsp
          have r2 : Vals [V.ref a, V.ref b] [Value.ref a, Value.ref b] := .cons rfl (.cons rfl .nil)
          refine wpAny_call (codeAny_mono (F0.run X.A X.stack s H ⟨[.ref a, .ref b], []⟩ [.ref a, .ref b] [.ref a, .ref b] _ (fun _ _ _ => False) sb.room I.env0 (by
            have := hb s [.ref a, .ref b] I.kIn (by simpa using hl)
            simpa using this) r2 hsp) fun r s' hq => ?_)
          cases r with
          | error e => exact passL pins σ H s e s' I hq
          | ok fl =>
            cases fl with
            | ret w =>
              obtain ⟨z, H', I', rz, ez, ex⟩ := I.after hq
              subst ez
              cases rz
              exact ⟨.bl b0, H', I', rfl, ex⟩
            | next => exact False.elim hq
            | brk => exact False.elim hq
            | cont => exact False.elim hq
        · cases h3
      | _ => cases c2
    | _ => cases c1
  · rw [if_neg cc] at h3; cases h3
end
end MM
namespace MM
open PySem PySem.Spec PyProof.Rows L2

theorem un65 {k : Nat} {A : Around} (r : Room k A) : A.units + 65 < cLine := by have := r.un; omega
theorem plainIx (b : Expr) (h : PlainIx b := by intro _ _; rfl) : PlainIx b := h
theorem glb {X : Cx} {x : Str} {d : D} (h : ∃ v u, X.mg x = some u ∧ RelV v u ∧ ∀ (w : World) (F : Hp), Rep X.K w F d v) : Glb X x d := ⟨let ⟨v, u, h1, h2, h3⟩ := h; ⟨v, u, h1, h2, fun F => h3 X.w F⟩⟩
theorem boot_len : bootBuiltins "len" = some (.builtin "len") := by decide +kernel
theorem boot_max : bootBuiltins "max" = some (.builtin "max") := by decide +kernel
theorem boot_min : bootBuiltins "min" = some (.builtin "min") := by decide +kernel
theorem boot_sum : bootBuiltins "sum" = some (.builtin "sum") := by decide +kernel
theorem boot_any : bootBuiltins "any" = some (.builtin "any") := by decide +kernel
theorem boot_all : bootBuiltins "all" = some (.builtin "all") := by decide +kernel
theorem boot_isinstance : bootBuiltins "isinstance" = some (.builtin "isinstance") := by decide +kernel
theorem boot_int : bootBuiltins "int" = some (.type "int") := by decide +kernel
theorem boot_str : bootBuiltins "str" = some (.type "str") := by decide +kernel
theorem boot_bool : bootBuiltins "bool" = some (.type "bool") := by decide +kernel
theorem boot_list : bootBuiltins "list" = some (.type "list") := by decide +kernel
theorem boot_tuple : bootBuiltins "tuple" = some (.type "tuple") := by decide +kernel
theorem boot_dict : bootBuiltins "dict" = some (.type "dict") := by decide +kernel
/-! comprehension scopes by computation -/
def blkB (N : List Str) (sc scope : Scope) (own : List (Str × Nat)) : Bool :=
  decide (scope.kind = .function) && ((scope.names.all fun y => decide (scope.names.lookup y.1 = some y.2)) && ((own.all fun p => decide (N[p.2]? = some p.1)) &&
    ((scope.names.all fun y => decide (y.2 = .free → sc.names.lookup y.1 = some .cell ∨ sc.names.lookup y.1 = some .free)) && (scope.names.all fun y => decide (y.2 = .local ∨ y.2 = .cell → y.1 ∈ own.map (·.1) ∨ y.1 ∉ N)))))
theorem blk_of {N : List Str} {sc scope : Scope} {own : List (Str × Nat)} (h : blkB N sc scope own = true) : BlkOk N sc scope own := by
  unfold blkB at h
  simp only [Bool.and_eq_true, List.all_eq_true] at h
  obtain ⟨h1, h2, h3, h4, h5⟩ := h
  exact ⟨of_decide_eq_true h1, fun y hy => of_decide_eq_true (h2 y hy), fun p hp => of_decide_eq_true (h3 p hp), fun y hy => of_decide_eq_true (h4 y hy), fun y hy => of_decide_eq_true (h5 y hy)⟩
/-! facts -/
theorem cst_str {K : PySem.W.Frag} {mg : Str → Option Value} {x z : Str} (h : ∃ t, mg x = some (.str z t)) : ∃ v u, mg x = some u ∧ RelV v u ∧ ∀ (w : World) (F : Hp), Rep K w F (.str z) v := by
  obtain ⟨t, e⟩ := h
  exact ⟨.str z, _, e, ⟨t, rfl⟩, fun _ _ => .str z⟩
theorem cst_int {K : PySem.W.Frag} {mg : Str → Option Value} {x : Str} {z : Int} (h : ∃ t, mg x = some (.int z t)) : ∃ v u, mg x = some u ∧ RelV v u ∧ ∀ (w : World) (F : Hp), Rep K w F (.int z) v := by
  obtain ⟨t, e⟩ := h
  exact ⟨.int z, _, e, ⟨t, rfl⟩, fun _ _ => .int z⟩
def dvD : He.Dv → Option D
  | .non => some .non
  | .bl b => some (.bl b)
  | .int i => some (.int i)
  | .str x => some (.str x)
  | _ => none
def dvDs : List He.Dv → Option (List D)
  | [] => some []
  | x :: r => match dvD x, dvDs r with
    | some d, some ds => some (d :: ds)
    | _, _ => none
theorem dv_rep {K : PySem.W.Frag} {w : World} {F : Hp} : ∀ {vs : List He.Dv} {ds : List D}, dvDs vs = some ds → RepAll K w F ds (vs.map (He.Dv.v K))
  | [], _, e => by cases e; exact .nil
  | x :: r, ds, e => by
    unfold dvDs at e
    cases q1 : dvD x with
    | none => simp [q1] at e
    | some d =>
      cases q2 : dvDs r with
      | none => simp [q1, q2] at e
      | some es =>
        simp only [q1, q2, Option.some.injEq] at e
        subst e
        refine .cons ?_ (dv_rep q2)
        cases x with
        | non => cases q1; exact .non
        | bl b => cases q1; exact .bl b
        | int i => cases q1; exact .int i
        | str x => cases q1; exact .str x
        | _ => cases q1
theorem cst_tup {K : PySem.W.Frag} {mg : Str → Option Value} {x : Str} {vs : List He.Dv} {ds : List D} (h : mg x = some (.ref (He.ga K x))) (t : He.tupB K x vs = true) (e : dvDs vs = some ds := by rfl) : ∃ v u, mg x = some u ∧ RelV v u ∧ ∀ (w : World) (F : Hp), Rep K w F (.tup ds) v :=
  ⟨.ref (He.ga K x), _, h, rfl, fun w F => .tup (He.tupB_ok t F) (dv_rep e)⟩
theorem exAt {l : List Bool} (h : l.all id = true) (i : Nat) {b : Bool} (e : l[i]? = some b := by rfl) : b = true := List.all_eq_true.mp h b (List.mem_of_getElem? e)
def insB (K : PySem.W.Frag) (x : Str) : Bool := He.eqO (PySem.W.findIn K (.ref (He.ga K x)) "__class__") (some (some (.builtin "object.__class__"))) &&
  (He.eqO (PySem.W.specialIn K (.builtin "object.__class__") "__get__") (some (some (.builtin "getset_descriptor.__get__"))) && (decide (PySem.W.takesIn K (.builtin "object.__class__") = some true) &&
  (decide (PySem.W.mroIn K (He.ga K x) (.type "object") = some true) && decide (PySem.W.kitOne K (.ref (He.ga K x)) (.ref (He.ga K x)) = some true))))
theorem insB_ok {K : PySem.W.Frag} {x : Str} (c : Cls K (He.ga K x)) (h : insB K x = true) : C8.InsC K (He.ga K x) := by
  unfold insB at h
  simp only [Bool.and_eq_true] at h
  obtain ⟨h1, h2, h3, h4, h5⟩ := h
  exact ⟨c, He.eqO_ok h1, He.eqO_ok h2, of_decide_eq_true h3, of_decide_eq_true h4, of_decide_eq_true h5⟩
def eqmB (K : PySem.W.Frag) (x : Str) : Bool := He.eqO (PySem.W.findIn K (.ref (He.ga K x)) "__eq__") (some (some (.ref (He.fAd K (x, some "__eq__"))))) && PySem.W.isFn K (.ref (He.fAd K (x, some "__eq__")))
theorem eqmB_ok {K : PySem.W.Frag} {x : Str} (h : eqmB K x = true) : PySem.W.findIn K (.ref (He.ga K x)) "__eq__" = some (some (.ref (He.fAd K (x, some "__eq__")))) ∧ PySem.W.isFn K (.ref (He.fAd K (x, some "__eq__"))) = true := by
  unfold eqmB at h
  rw [Bool.and_eq_true] at h
  exact ⟨He.eqO_ok h.1, h.2⟩
structure ExcF (K : PySem.W.Frag) (mg : Str → Option Value) (x : Str) : Prop where
  q : PySem.W.excIn K (He.ga K x) He.veBase "ValueError.__new__" = true ∧ PySem.W.keepIn K (.ref (He.ga K x)) = true ∧ PySem.W.subIn K (.ref (He.ga K x)) (.type "BaseException") = some true ∧ PySem.W.typeIn K (.ref (He.ga K x)) = some (.type "type")
  g : mg x = some (.ref (He.ga K x))
theorem excF_ok {K : PySem.W.Frag} {mg : Str → Option Value} {x : Str} (q : PySem.W.excIn K (He.ga K x) He.veBase "ValueError.__new__" = true ∧ PySem.W.keepIn K (.ref (He.ga K x)) = true ∧ PySem.W.subIn K (.ref (He.ga K x)) (.type "BaseException") = some true ∧ PySem.W.typeIn K (.ref (He.ga K x)) = some (.type "type"))
    (g : mg x = some (.ref (He.ga K x))) : ExcF K mg x := ⟨q, g⟩
theorem ExcF.to {X : Cx} {x : Str} (e : ExcF X.K X.mg x) : Exc X x := ⟨e.q.1, e.g, e.q.2.1, e.q.2.2.1, e.q.2.2.2⟩
section
variable {X : Cx} {W : WX} {e o i : Expr} {me mo mi : EM} {pos apos cpos p : Pos} {es : List Expr} {ms : AM}
def failE : EM := fun _ _ => none
theorem me_dead : ME X W e failE := ⟨fun pins s σ H Q I ⟨F, μ, ρ, S, h1, h2, h3⟩ => h3.none_⟩
def negD : D → Option D
  | .int i => some (.int (-i))
  | _ => none
def negM (m : EM) : EM := op1M negD m
theorem me_neg (he : ME X W e me) : ME X W (.UnaryOp .USub e pos) (negM me) := PE.imp (pe_un un_neg he) fun σ H Q h => (core_bind (Ra := fun σ F μ => RepR X.K X.w F μ σ) h).imp fun x H1 ⟨a, F, μ, ρ, S, h1, h2, h3, h4⟩ => by
  unfold ret1 at h4
  cases q1 : peek ρ S a with
  | none => simp only [q1] at h4; exact h4.none_
  | some d =>
    simp only [q1] at h4
    cases q2 : negD d with
    | none => simp only [q2] at h4; exact h4.none_
    | some g =>
      simp only [q2] at h4
      unfold negD at q2
      split at q2
      · cases q2
        exact ⟨_, (peek_rep h1 h2 h3 q1).int, h4.ok .refl h1 (.int _)⟩
      · cases q2
theorem setLoc {i : Nat} {m : NM} {K : PySem.W.Frag} {w : World} {En : Ends} {σ : L2.St} {H : Hp} (h : tS K w W (setM i (locOf m)) En σ H) : tN K w W m σ H (fun x H1 => gName i x σ H1 En.nx) := by
  obtain ⟨B, F, μ, ρ, S, h1, fl, ρ', S', h2, h3⟩ := h
  refine ⟨F, μ, ρ, S, h1.rel, h1.fr, ?_⟩
  unfold setM thenM locOf at h2
  cases q : m ρ S with
  | none => simp [q] at h2
  | some r =>
    obtain ⟨o1, S1⟩ := r
    cases o1 with
    | ex c fs => simp only [q] at h2; cases h2; exact ⟨_, _, rfl, fun F' μ' H' d g r z => h3 F' μ' σ H' g.f (h1.grow g r) d z⟩
    | ok ds =>
      simp only [q] at h2
      refine ⟨.ok ds, _, rfl, fun F' μ' H' p xs g r hp hF hm h0 ra => ?_⟩
      by_cases c : i < ρ.length
      · simp only [setR, closedR, c, true_and, if_true] at h2
        cases h2
        have r2 := r.join hm (by rw [hp]; exact fun z => nomatch z) (c := .lst ds) ⟨hF, xs, hp, ra⟩
        have gr : Grow F H F' H' μ (μ' ++ [p]) := ⟨g.f, g.p.trans (List.prefix_append _ _), g.h, g.nf, fun a q1 q2 => by
          rcases List.mem_append.mp q1 with k | k
          · exact g.nm a k q2
          · have : a = p := by simpa using k
            rw [this]; exact h0⟩
        have y := h1.grow gr r2
        exact h3 _ _ _ H' gr.f (y.set (r := .loc S1.length) ⟨p, by rw [← r.len]; simp, rfl⟩ rfl c)
      · simp only [setR, closedR, c, and_false, if_false] at h2; cases h2
/-- list(e), a new list -/
def newLR (as : List R) : NM := fun ρ S => match peeks ρ S as with
  | some ds => match listF ds with
    | some (.lst es) => some (.ok es, S)
    | _ => none
  | none => none
def newLM (ms : AM) : NM := bindM ms newLR
theorem mn_list (hm : X.mg "list" = none) (ha : MA X W (e :: es) ms) (hg : Gl X "list" := by rfl)
    (hs : starEach (e :: es) X.env = (false, eval e X.env) :: starEach es X.env := by rfl) (hpl : (backTo pos (starEach es X.env)).any (·.1) = false := by rfl) : MN X W (.Call (.Name "list" p) (e :: es) [] pos) (newLM ms) :=
  PE.imp (pe_callTy call_list_of hg hm boot_list ha (by decide) (by decide) hs hpl) fun σ H Q ⟨F, μ, ρ, S, h1, h2, o, S', h3, h4⟩ => by
    refine ⟨F, μ, ρ, S, h1, h2, ?_⟩
    unfold newLM bindM at h3
    cases q : ms ρ S with
    | none => rw [q] at h3; cases h3
    | some r =>
      obtain ⟨o1, S1⟩ := r
      rw [q] at h3
      cases o1 with
      | ex c fs => cases h3; exact ⟨_, _, rfl, h4⟩
      | ok as =>
        refine ⟨.ok as, S1, rfl, fun F' μ' H' vs g r z => ?_⟩
        unfold newLR at h3
        cases q2 : peeks ρ S1 as with
        | none => simp [q2] at h3
        | some ds =>
          simp only [q2] at h3
          have pr := peeks_rep r (h2.grow g) z q2
          unfold listF at h3
          split at h3
          · rename_i es heq
            split at heq
            · cases heq; cases h3
              obtain ⟨v, rfl, h⟩ := pr.one
              obtain ⟨a, ys, rfl, s, ra⟩ := h.lst r.le
              exact ⟨a, ys, rfl, .inl (SqL.of s), fun p hp => tN_laid g r hp ra h4 h1⟩
            · cases heq; cases h3
              obtain ⟨v, rfl, h⟩ := pr.one
              obtain ⟨a, ys, rfl, s, ra⟩ := h.tup r.le
              exact ⟨a, ys, rfl, .inr s, fun p hp => tN_laid g r hp ra h4 h1⟩
            · cases heq; cases h3
              obtain ⟨v, rfl, h⟩ := pr.one
              obtain ⟨a, rfl, s⟩ := h.scr r.le
              exact ⟨a, _, rfl, .inl s, fun p hp => tN_laid g r hp (RepAll.of_ints _) h4 h1⟩
            · cases heq
          · cases h3
/-- o.insert(i, e) -/
theorem ms_insert {spos : Pos} (ho : ME X W o mo) (hi : ME X W i mi) (he : ME X W e me) (hbase : attributeBase o "insert" X.env (eval o X.env) = eval o X.env := by rfl)
    (hfew : ((backTo cpos (starEach [i, e] X.env)).all (fun x => !x.1) && (backToKw cpos (keywordEach [] X.env)).all (fun x => x.1.isSome) && decide ([i, e].length + ([] : List Keyword).length + (if ([] : List Keyword).isEmpty then 0 else 1) < 30)) = true := by rfl)
    (hline : (apos.endLine == cpos.line) = true := by rfl) (hs : starEach [i, e] X.env = (false, eval i X.env) :: starEach [e] X.env := by rfl) (hs2 : starEach [e] X.env = (false, eval e X.env) :: starEach [] X.env := by rfl) (hplain : (backTo cpos (starEach [e] X.env)).any (·.1) = false := by rfl)
    (hsw : swapsWith (.Call (.Attribute o "insert" apos) [i, e] [] cpos) none spos.line X.env = pure false := by rfl) : MS X W (.Expr (.Call (.Attribute o "insert" apos) [i, e] [] cpos) spos) (insM mo mi me) :=
  PS.imp (ps_expr (pe_bm PySem.F.plainAttrs_list PySem.F.slot_list_insert PySem.F.type_list_insert mt_insert ho (pa_cons hi (pa_cons he pa_nil hs2) hs) hbase hfew hline hs hplain) hsw) fun En σ H h => by
    refine isLst_ok (flow_then3 h |>.imp fun x H1 h => ?_)
    exact core.imp h fun y H2 h => core.imp h fun z H3 ⟨a, b, c, B, F, μ, ρ, S, h1, h2, h3, h3', h4⟩ => by
      obtain ⟨p, xs, ds, es, rfl, hx, ra, hf, k⟩ := flow_mutL h1 h2 h4
      unfold insD at hf
      split at hf
      · rename_i kk xx
        by_cases c : ds.length < sizeLine ∧ 0 ≤ kk ∧ kk < 2 ^ 63
        · rw [if_pos c] at hf
          cases hf
          cases h3
          have rr := RepAll.append (RepAll.append (ra.take kk.toNat) (.cons h3' .nil)) (ra.drop kk.toNat)
          refine ⟨p, xs, kk, z, rfl, rfl, hx, by rw [← ra.length]; exact c.1, c.2.1, c.2.2, k _ ?_⟩
          simpa using rr
        · rw [if_neg c] at hf; cases hf
      · cases hf
end
end MM
namespace MM
open PySem PySem.Spec PyProof.Rows L2

/-- what is wanted of a new list, from here -/
def newAt (K : PySem.W.Frag) (w : World) (W : WX) (res : Option (Out (List D) × Sto)) (F : Hp) (μ : List Addr) (σ : L2.St) (H : Hp) (Q : VK) : Prop := ∃ o S', res = some (o, S') ∧ match o with
  | .ok ds => ∀ F' μ' H' p xs, Grow F H F' H' μ μ' → Rel K w F' μ' S' H' → H' p = some (.lst xs) → F' p = none → p ∉ μ' → H p = none → RepAll K w F' ds xs → Q (.ref p) H'
  | .ex c fs => ∀ F' μ' H' d, Grow F H F' H' μ μ' → Rel K w F' μ' S' H' → ExD K w F' d fs → W (.ref (He.ga K c)) d σ H'
section
variable {K : PySem.W.Frag} {w : World} {W : WX} {F F' H H' : Hp} {μ μ' : List Addr} {S S' : Sto} {ρ : Fr} {σ : L2.St}
theorem newAt.mono {res : Option (Out (List D) × Sto)} {Q : VK} (g : Grow F H F' H' μ μ') (h : newAt K w W res F μ σ H Q) : newAt K w W res F' μ' σ H' Q := by
  obtain ⟨o, S', h1, h2⟩ := h
  refine ⟨o, S', h1, ?_⟩
  cases o with
  | ok a =>
    refine fun F2 μ2 H2 p xs a1 a2 a3 a4 a5 a6 a7 => h2 F2 μ2 H2 p xs (g.trans a1) a2 a3 a4 a5 ?_ a7
    have hm : p ∉ μ := fun z => a5 (a1.p.subset (g.p.subset z))
    cases q : H p with
    | none => rfl
    | some o => rw [g.h p o q hm] at a6; cases a6
  | ex c fs => exact fun F2 μ2 H2 v a1 a3 a4 => h2 F2 μ2 H2 v (g.trans a1) a3 a4
theorem tN_bind {α β : Type} {Ra : L2.St → Hp → List Addr → α → β → Prop} {m : GM α} {f : α → NM} {Q : VK} (h : tN K w W (bindM m f) σ H Q) :
    core K w Ra W m σ H (fun x H1 => ∃ a F μ ρ S, Rel K w F μ S H1 ∧ RelFr K w F μ H1 ρ σ ∧ Ra σ F μ a x ∧ newAt K w W (f a ρ S) F μ σ H1 Q) := by
  obtain ⟨F, μ, ρ, S, h1, h2, h3⟩ := h
  refine ⟨F, μ, ρ, S, h1, h2, ?_⟩
  obtain ⟨o, S', h4, h5⟩ := h3
  unfold bindM at h4
  cases q : m ρ S with
  | none => rw [q] at h4; cases h4
  | some r =>
    obtain ⟨o1, S1⟩ := r
    rw [q] at h4
    cases o1 with
    | ok a => exact ⟨.ok a, S1, rfl, fun F' μ' H' v g r z => ⟨a, F', μ', ρ, S1, r, h2.grow g, z, newAt.mono g ⟨o, S', h4, h5⟩⟩⟩
    | ex c fs =>
      cases h4
      exact ⟨.ex c fs, _, rfl, h5⟩
theorem tN_bin {α β γ δ : Type} {Ra : L2.St → Hp → List Addr → α → β → Prop} {Rb : L2.St → Hp → List Addr → γ → δ → Prop} {ma : GM α} {mb : GM γ} {g : α → γ → NM} {Q : VK} (hm : MonoR Ra) (h : tN K w W (bindM ma fun a => bindM mb fun b => g a b) σ H Q) :
    core K w Ra W ma σ H (fun x H1 => core K w Rb W mb σ H1 (fun y H2 => ∃ a b F μ ρ S, Rel K w F μ S H2 ∧ RelFr K w F μ H2 ρ σ ∧ Ra σ F μ a x ∧ Rb σ F μ b y ∧ newAt K w W (g a b ρ S) F μ σ H2 Q)) := by
  refine (tN_bind (Ra := Ra) h).imp fun x H1 ⟨a, F, μ, ρ, S, h1, h2, h3, h4⟩ => ?_
  obtain ⟨o, S', h5, h6⟩ := h4
  refine ⟨F, μ, ρ, S, h1, h2, ?_⟩
  unfold bindM at h5
  cases q : mb ρ S with
  | none => rw [q] at h5; cases h5
  | some r =>
    obtain ⟨o1, S1⟩ := r
    rw [q] at h5
    cases o1 with
    | ok b => exact ⟨.ok b, S1, rfl, fun F' μ' H' v e r z => ⟨a, b, F', μ', ρ, S1, r, h2.grow e, hm _ _ _ _ _ _ _ e.f e.p h3, z, newAt.mono e ⟨o, S', h5, h6⟩⟩⟩
    | ex c fs =>
      cases h5
      exact ⟨.ex c fs, _, rfl, h6⟩
/-- a list laid now -/
theorem newAt.laid {ds : List D} {xs : List V} {Q : VK} {p : Addr} (h : newAt K w W (some (.ok ds, S)) F μ σ H Q) (r : Rel K w F μ S H) (hp : H p = none) (ra : RepAll K w F ds xs) : Q (.ref p) (upd H p (.lst xs)) := by
  obtain ⟨o, S', h1, h2⟩ := h
  cases h1
  obtain ⟨f1, f2⟩ := r.fresh hp
  have st : Step F H F (upd H p (.lst xs)) := ⟨Same.refl _, same_upd hp, r.le.trans (same_upd hp), fun _ h1 h2 => absurd h2 h1⟩
  exact h2 F μ _ p xs st.grow (r.step st) upd_same f1 f2 hp ra
theorem newAt.none_ {P : Prop} {Q : VK} (h : newAt K w W none F μ σ H Q) : P := by
  obtain ⟨o, S', h1, h2⟩ := h
  cases h1
end
/-- a + b, a new list -/
def catR (a b : R) : NM := fun ρ S => match peek ρ S a, peek ρ S b with
  | some (.lst x), some (.lst y) => if x.length + y.length ≤ sizeLine then some (.ok (x ++ y), S) else none
  | _, _ => none
def catM (ma mb : EM) : NM := bindM ma fun a => bindM mb fun b => catR a b
section
variable {X : Cx} {W : WX} {a b e o : Expr} {ma mb me mo : EM} {pos p apos cpos : Pos} {es : List Expr} {ms : AM}
theorem mn_add (ha : ME X W a ma) (hb : ME X W b mb) : MN X W (.BinOp a .Add b pos) (catM ma mb) :=
  PE.imp (pe_op op_cat ha hb) fun σ H Q h => (tN_bin (Ra := fun σ F μ => RepR X.K X.w F μ σ) (Rb := fun σ F μ => RepR X.K X.w F μ σ) monoR h).imp fun x H1 h => core.imp h fun y H2 ⟨a, b, F, μ, ρ, S, h1, h2, h3, h4, h5⟩ => by
    unfold catR at h5
    split at h5
    · rename_i xs ys q1 q2
      by_cases c : xs.length + ys.length ≤ sizeLine
      · rw [if_pos c] at h5
        obtain ⟨p, vs, rfl, s1, r1⟩ := (peek_rep h1 h2 h3 q1).lst h1.le
        obtain ⟨q, us, rfl, s2, r2⟩ := (peek_rep h1 h2 h4 q2).lst h1.le
        exact ⟨p, q, vs, us, rfl, rfl, s1, s2, by rw [← r1.length, ← r2.length]; exact c, fun b hb => h5.laid h1 hb (r1.append r2)⟩
      · rw [if_neg c] at h5; exact h5.none_
    · exact h5.none_
/-- o.split(e), a new list -/
def splitR (o : R) (as : List R) : NM := fun ρ S => match peek ρ S o, peeks ρ S as with
  | some d, some ds => match splitF d ds with
    | some (.lst es) => some (.ok es, S)
    | _ => none
  | _, _ => none
def splitM (mo : EM) (ms : AM) : NM := bindM (strR mo) fun o => bindM ms fun as => splitR o as
theorem mn_split (ho : ME X W o mo) (ha : MA X W (e :: es) ms)
    (hbase : attributeBase o "split" X.env (eval o X.env) = eval o X.env := by rfl)
    (hfew : ((backTo cpos (starEach (e :: es) X.env)).all (fun x => !x.1) && (backToKw cpos (keywordEach [] X.env)).all (fun x => x.1.isSome) && decide ((e :: es).length + ([] : List Keyword).length + (if ([] : List Keyword).isEmpty then 0 else 1) < 30)) = true := by rfl)
    (hline : (apos.endLine == cpos.line) = true := by rfl) (hs : starEach (e :: es) X.env = (false, eval e X.env) :: starEach es X.env := by rfl) (hplain : (backTo cpos (starEach es X.env)).any (·.1) = false := by rfl) :
    MN X W (.Call (.Attribute o "split" apos) (e :: es) [] cpos) (splitM mo ms) :=
  PE.imp (pe_bm PySem.F.plainAttrs_str PySem.F.slot_str_split PySem.F.type_str_split mt_split ho ha hbase hfew hline hs hplain) fun σ H Q h => by
    have h' := tN_bin (Ra := fun σ F μ => RepR X.K X.w F μ σ) (Rb := fun σ F μ => RepRs X.K X.w F μ σ) monoR h
    refine (core_bind (Ra := fun σ F μ => RepR X.K X.w F μ σ) h').imp fun x H1 ⟨r, F, μ, ρ, S, h1, h2, h3, o, S', h4, h5⟩ => ?_
    unfold isStrR at h4
    split at h4
    · rename_i y
      cases h4
      cases h3
      refine ⟨rfl, core.imp (h5 F μ H1 _ .refl h1 (.str _)) fun ys H2 ⟨a, bs, F, μ, ρ, S, k1, k2, k3, k4, k5⟩ => ?_⟩
      unfold splitR at k5
      split at k5
      · rename_i d ds q1 q2
        cases q3 : splitF d ds with
        | none => simp only [q3] at k5; exact k5.none_
        | some z =>
          have pr := peek_rep k1 k2 k3 q1
          have prs := peeks_rep k1 k2 k4 q2
          unfold splitF at q3
          split at q3
          · rename_i bb
            split at q3
            · rename_i aa
              by_cases c : (bb.length == 0) = false ∧ aa.length + 2 ≤ sizeLine
              · rw [if_pos c] at q3; cases q3
                obtain ⟨v, rfl, hh⟩ := prs.one
                refine ⟨aa, bb, by rw [← pr.str], by rw [hh.str], c.1, c.2, fun p hp => ?_⟩
                have e := pr.str
                cases e
                have e2 : splitF (.str y) [.str bb] = some (.lst ((Txt.split y bb).map .str)) := by
                  show (if _ then _ else none) = _
                  rw [if_pos c]
                simp only [e2] at k5
                have := k5.laid k1 hp (RepAll.of_strs (Txt.split y bb))
                simpa using this
              · rw [if_neg c] at q3; cases q3
            · cases q3
          · cases q3
      · exact k5.none_
    · cases h4
end
end MM
namespace MM
open PySem PySem.Spec PyProof.Rows L2

/-! ### an own exception whose __init__ keeps one field -/
def spX (C : Addr) (f : Str) : Sp := fun vs H Q _ => ∃ (a : Addr) (y : V), vs = [.ref a, y] ∧ H a = some (exo a C none) ∧ ∀ dx, H dx = none → dx ≠ a → Q .non (upd (upd H dx (exd dx [(f, y)])) a (exo a C (some dx)))
theorem fn_x {P : Program} {w : World} {K : PySem.W.Frag} {mg : Str → Option Value} {base : Heap} {CX : CXT} {k : Nat} {qual f : Str} {params : Arguments} {body : List Stmt} {scope : Scope} {g C : Addr} {fd : FuncData} {N ps : List Str} {p1 p2 p3 p4 : Pos} (F : FunD K "__init__" qual params body scope [] [] g fd) (S : FnScope N ps scope)
    (hps : ps.length = 2) (T : OexC K C) (hno : PySem.W.findIn K (.ref C) f = some none) {self arg : Str} (hN : N = [self, arg]) (hb : body = [.Assign [.Attribute (.Name self p1) f p2] (.Name arg p3) p4])
    (v1 : scope.names.lookup self = some .local) (v2 : scope.names.lookup arg = some .local) (d1 : (self == ("__debug__" : Str)) = false) (d2 : (arg == ("__debug__" : Str)) = false) (d3 : (self == ("__classdict__" : Str)) = false) (d4 : (arg == ("__classdict__" : Str)) = false)
    (hs : ∀ (cdv : Value) (A : Around) (outer : List Env) (s : Shared) (H : Hp) (E : XK), swapsWith (.Name arg p3) (some (.Attribute (.Name self p1) f p2)) p4.line (XOf P w K mg base N qual scope g cdv A outer s H E).env = pure false) :
    FnOk P w K mg base CX (k + 1) g fd ps (spX C f) := by
  subst hN hb
  refine F.ok S (fun vs H Q E h => ?_) fun cdv A outer s H vs Q E hr h => ⟨_, pss_one (ps_ost (pe_var (i := 0) rfl (.inl v1) d1 d3) (pe_var (i := 1) rfl (.inl v2) d2 d4) (hs cdv A outer s H E)), ?_⟩
  · obtain ⟨a, y, rfl, _⟩ := h
    rw [hps]; rfl
  · obtain ⟨a, y, rfl, ea, q⟩ := h
    exact ⟨y, rfl, .ref a, rfl, a, C, rfl, T, hno, .inl ⟨ea, fun dx n ne => q dx n ne⟩⟩
/-- an own exception class: name, field -/
structure ClX (P : Program) (w : World) (K : PySem.W.Frag) (mg : Str → Option Value) (base : Heap) (k : Nat) (x f : Str) : Prop where
  ex : ∃ (g : Addr) (fd : FuncData) (ps : List Str), FnOk P w K mg base (L2.CX P w) k g fd ps (spX (He.ga K x) f) ∧ mg x = some (.ref (He.ga K x)) ∧ OexC K (He.ga K x) ∧ PySem.W.findIn K (.ref (He.ga K x)) "__init__" = some (some (.ref g)) ∧ PySem.W.typeIn K (.ref g) = some (.type "function") ∧ Binds K fd ps []
def raise1R (c f : Str) (r : R) : SM := fun ρ S => match r with
  | .d x => some (.ex c [(f, x)], ρ, S)
  | _ => none
def raise1M (c f : Str) (m : EM) : SM := thenM m (raise1R c f)
section
variable {X : Cx} {W : WX} {e : Expr} {me : EM} {p pos pos2 : Pos}
theorem ms_raise1 {k j : Nat} {x f : Str} (c : ClX X.prog X.w X.K X.mg X.base k x f) (hr : Room j X.A) (hk : k + 1 ≤ j) (tk : Takes X W) (he : ME X W e me) (hc : X.calm = true := by rfl) (hg : Gl X x := by rfl) (hdb : (x == ("__debug__" : Str)) = false := by decide)
    (hst : starEach [e] X.env = (false, eval e X.env) :: starEach [] X.env := by rfl) (hpl : (backTo pos (starEach [] X.env)).any (·.1) = false := by rfl) : MS X W (.Raise (some (.Call (.Name x p) [e] [] pos)) none pos2) (raise1M x f me) := by
  obtain ⟨g, fd, ps, F, hm, T, iC, tI, hb⟩ := c.ex
  refine PS.imp (ps_raise hc tk (pmk_oex T iC tI F (hr.mono hk) hb .nil passL hg hm (pa_cons he pa_nil hst) hdb hst hpl)) fun En σ H h => ?_
  refine (flow_then (Ra := fun σ F μ => RepR X.K X.w F μ σ) h).imp fun v H1 ⟨r, B, F, μ, ρ, S, h1, h2, h3⟩ => ?_
  unfold raise1R at h3
  cases r with
  | loc n => exact h3.none_
  | slot n => exact h3.none_
  | d x' =>
    refine ⟨by show 1 ≤ 1000; omega, fun a ha => ⟨a, v, rfl, upd_same, fun dx hdx hne => ⟨rfl, dx, [(f, v)], upd_same, ?_, ?_, ?_⟩⟩⟩
    · rw [upd_ne hne, upd_same]
    · rw [upd_ne hne] at hdx; exact hdx
    · have hd0 : H1 dx = none := by rw [upd_ne hne] at hdx; exact hdx
      -- the heap behind is the old one and the dict
      have eH : upd (del (upd (upd (upd H1 a (exo a (He.ga X.K x) none)) dx (exd dx [(f, v)])) a (exo a (He.ga X.K x) (some dx))) a) dx (.xd [(f, v)]) = upd H1 dx (.xd [(f, v)]) := by
        funext b
        by_cases h1 : b = dx
        · rw [h1, upd_same, upd_same]
        · rw [upd_ne h1, upd_ne h1]
          by_cases h2 : b = a
          · rw [h2, del_same, ha]
          · rw [del_ne h2, upd_ne h2, upd_ne h1, upd_ne h2]
      rw [eH]
      have st := Step.new1 h1.rel.le hd0 (.xd [(f, v)])
      obtain ⟨fl, ρ', S', k1, k2⟩ := h3
      cases k1
      exact k2 _ μ σ _ st.f (h1.grow st.grow (h1.rel.step st)) (some dx) (.inr ⟨dx, [(f, v)], rfl, upd_same, .cons (Rep.mono st.f h2) .nil⟩)
end
end MM
namespace MM
open PySem PySem.Spec PyProof.Rows L2

/-! ### except clauses, with a name or without -/
/-- a clause: the class, the name's slot, the suite's reading -/
structure Clause where
  c : Value
  nm : Option Nat
  ts : Addr → Value → Option Addr → TS
/-- the ends of a suite whose name is unbound behind it -/
def offE (i : Nat) (En : Ends) : Ends := { nx := fun τ H' => En.nx (τ.set i none) H', rt := En.rt, bk := fun τ H' => En.bk (τ.set i none) H', ct := fun τ H' => En.ct (τ.set i none) H' }
def runC (cl : Clause) (a : Addr) (cls : Value) (d : Option Addr) (En : Ends) (σ : L2.St) (H : Hp) : Prop := match cl.nm with
  | none => cl.ts a cls d En σ H
  | some i => cl.ts a cls d (offE i En) (σ.set i (some (.ref a))) H
def wCl (K : PySem.W.Frag) (Wout : WX) (En : Ends) : List Clause → WX
  | [] => Wout
  | cl :: r => fun cls d σ H => ∃ b, PySem.W.exmOne K cls cl.c = some b ∧ (b = true → ∀ a, H a = none → runC cl a cls d En σ H) ∧ (b = false → wCl K Wout En r cls d σ H)
inductive HdsN (X : Cx) : List ExceptHandler → List Clause → Prop
  | nil : HdsN X [] []
  | cons {x : Str} {c : Value} {ts : Addr → Value → Option Addr → TS} {b0 : Stmt} {suite : List Stmt} {np pos' : Pos} {hds : List ExceptHandler} {l : List Clause} (hc : Names X x c)
      (hsu : ∀ (a : Addr) (oe : Obj) (cls : Value) (d : Option Addr) (pn : List (Addr × Obj)), Zc cls d oe → (∃ vs, oe.data = .fields vs) → PSs (X.suite a ((a, oe) :: pn)) (b0 :: suite) (ts a cls d)) (r : HdsN X hds l) :
      HdsN X (.ExceptHandler (some (.Name x np)) none (b0 :: suite) pos' :: hds) (⟨c, none, ts⟩ :: l)
  | consAs {x n : Str} {i : Nat} {c : Value} {ts : Addr → Value → Option Addr → TS} {b0 : Stmt} {suite : List Stmt} {np pos' : Pos} {hds : List ExceptHandler} {l : List Clause} (hi : X.N[i]? = some n) (hln : X.env.kindOf n = some .local) (hc : Names X x c)
      (hsu : ∀ (a : Addr) (oe : Obj) (cls : Value) (d : Option Addr) (pn : List (Addr × Obj)), Zc cls d oe → (∃ vs, oe.data = .fields vs) → PSs (X.suite a ((a, oe) :: pn)) (b0 :: suite) (ts a cls d)) (r : HdsN X hds l) :
      HdsN X (.ExceptHandler (some (.Name x np)) (some n) (b0 :: suite) pos' :: hds) (⟨c, some i, ts⟩ :: l)
section
variable {X : Cx} {body : List Stmt} {h0 : ExceptHandler} {hds : List ExceptHandler} {l : List Clause} {pos : Pos} {tb : WX → TS} {Wout : WX}
theorem ps_tryN (hs : X.stack = X.env :: X.outer) (hf : X.env.frame = some X.env.locals) (hN : X.N.Nodup) (tk : Takes X Wout)
    (hb : ∀ (W : WX) (pn : List (Addr × Obj)) (xe : Value → Shared → Prop), Takes (X.tr pn xe) W → PassesOwn (model X.prog X.w) X.A X.env xe → PSs (X.tr pn xe) body (tb W))
    (hh : HdsN X (h0 :: hds) l) : PS X (.Try body (h0 :: hds) [] [] pos) (fun En σ H => tb (wCl X.K Wout En l) En σ H) := by
  refine ⟨fun pins s σ H En I h => ?_⟩
  have ok := I.ok
  have hfr : X.A.frames = some (X.env :: X.outer) := by rw [ok.frames, hs]
  refine wpAny_Try_except ?_
  have hbody := (hb (wCl X.K Wout En l) (X.pn ++ pins) (fun e s1 => wpAny (model X.prog X.w) X.A (noteFrame e X.env) (fun _ s2 => wpAny (model X.prog X.w) X.A (setFlight e none) (fun _ s3 =>
    wpAny (model X.prog X.w) X.A (handleBy e X.env (h0 :: hds)) (SP X pins En) X.xe s3) X.xe s2) X.xe s1) (fun u s' xx => ?_) PassesOwn.looking).run [] s σ H En (I.toTry _) h
  · refine wpAny_mono hbody (fun f s1 hsp => ?_) (fun e s1 he => he)
    cases f with
    | next => obtain ⟨τ, H2, J, q⟩ := hsp; exact wpAny_execs_nil ⟨τ, H2, J.ofTry ok, q⟩
    | brk => obtain ⟨τ, H2, J, q⟩ := hsp; exact ⟨τ, H2, J.ofTry ok, q⟩
    | cont => obtain ⟨τ, H2, J, q⟩ := hsp; exact ⟨τ, H2, J.ofTry ok, q⟩
    | ret u => obtain ⟨v, τ, H2, J, rv, q⟩ := hsp; exact ⟨v, τ, H2, J.ofTry ok, rv, q⟩
  · -- what is caught
    obtain ⟨a, B, sI, pins2, τ, H2, cls, d, rfl, J0, nb, up, sky, na, os, ag, w⟩ := xx
    have J : Inv X pins τ H2 sI := J0.ofTry ok
    have sky2 : Sky B (X.env :: X.outer) a (Zc cls d) X.env.locals s'.heap := by rw [← hs]; exact sky
    show wpAny (model X.prog X.w) X.A (noteFrame (.ref a) X.env) _ _ _
    refine Sky.land Zc.steady hfr hf sky2 fun h3 fl3 up3 => ?_
    have J3 : Inv X pins τ H2 { s' with heap := h3 } := J.landed nb fl3.1 (up.trans up3) os ag
    obtain ⟨oe3, vs3, he3, hz3, hd3⟩ := fl3.there
    have nfr : a ∉ frs (X.env :: X.outer) := fun hm => by
      obtain ⟨_, o2, e2, hnf⟩ := fl3.2.2.1.mem hm
      rw [he3] at e2
      cases e2
      exact hnf _ hd3
    have nL : a ≠ X.env.locals := fun z => nfr (List.mem_filterMap.mpr ⟨X.env, List.mem_cons_self, by rw [hf, z]⟩)
    have nF : a ∉ X.fs := fun hm => by
      obtain ⟨e, he, q⟩ := List.mem_filterMap.mp hm
      exact nfr (List.mem_filterMap.mpr ⟨e, List.mem_cons_of_mem _ he, q⟩)
    have S3 := J3.suite he3 hd3 na nL nF
    have LT : PySem.W.Looks (model X.prog X.w) h3 (typeOf (.ref a)) cls := fun A Q E s k q => wpAny_typeOf_ref (k _ _ he3) (by rw [hz3.1]; exact q)
    have test : ∀ {x : Str} {c : Value} {np : Pos} {Q : Value → Shared → Prop} {E : Value → Shared → Prop}, Names X x c → Q c { s' with heap := h3 } → wpAny (model X.prog X.w) (X.A.mark (some (.ref a))) (eval (.Name x np) X.env) Q E { s' with heap := h3 } := fun {x c np Q E} hc q => by
      obtain ⟨hg, hdbg, hm | ⟨hm, hv, hnn⟩⟩ := hc
      · exact ld_glob (X := X.suite a ((a, oe3) :: (X.pn ++ pins))) S3 hg hm q hdbg
      · exact ld_blt (X := X.suite a ((a, oe3) :: (X.pn ++ pins))) S3 hg hm hv q hnn hdbg
    have go : ∀ {hds' : List ExceptHandler} {l' : List Clause}, HdsN X hds' l' → wCl X.K Wout En l' cls d τ H2 → wpAny (model X.prog X.w) X.A (handleBy (.ref a) X.env hds') (SP X pins En) X.xe { s' with heap := h3 } := by
      intro hds' l' hk
      induction hk with
      | nil =>
        intro w
        refine wpAny_handleBy_nil ?_
        obtain ⟨k1, k2, k3, oe, vs, T, oT, ts', he, hz, hd, h1, hr⟩ := id fl3
        unfold PySem.passOn
        refine wpAny_bind (wpAny_field he hd h1 ?_)
        rw [if_neg (show ¬ ((Value.ref T == Value.none) = true) from by simp)]
        have fin : wpAny (model X.prog X.w) X.A (setFlight (.ref a) X.env.frame) (fun _ s4 => wpAny (model X.prog X.w) X.A (throw (.ref a) : Sem Flow) (SP X pins En) X.xe s4) X.xe { s' with heap := h3 } := by
          rw [hf]
          refine HandSPX.setFlight_upZ fl3 fun h4 hh4 up4 => wpAny_throw (tk _ _ ?_)
          exact ⟨a, B, sI, pins, τ, H2, cls, d, rfl, J, nb, (up.trans up3).trans up4, .inr (.inr (by rw [hs]; exact hh4)), na, os, ag, w⟩
        first
          | exact wpAny_bind (wpAny_pure (wpAny_bind fin))
          | exact wpAny_bind fin
      | @cons x c ts b0 suite np pos' hds2 l2 hc hsu r ih =>
        intro w
        obtain ⟨b, hb1, hyes, hno⟩ := w
        have LM := PySem.W.exm_one (M := model X.prog X.w) (J3.kIn) LT hb1
        refine wpAny_handleBy_cons (codeAny_handlers_test (test hc (LM.here ?_))) (by intro q; cases q)
        cases b with
        | true =>
          refine codeAny_handlers_suite (HandSPX.lands_againZ fl3 fun h4 fl4 up4 => ?_)
          have J4 : Inv X pins τ H2 { s' with heap := h4 } := J.landed nb fl4.1 ((up.trans up3).trans up4) os ag
          obtain ⟨oe4, vs4, he4, hz4, hd4⟩ := fl4.there
          have S4 := J4.suite he4 hd4 na nL nF
          refine wpAny_mono ((hsu a oe4 cls d (X.pn ++ pins) hz4 ⟨_, hd4⟩).run [] _ _ H2 _ S4 (hyes rfl a na)) (fun f s6 hsp => ?_) (fun _ _ z => False.elim z)
          cases f with
          | next => obtain ⟨τ6, H6, S6, q6⟩ := hsp; exact ⟨_, _, S6.unsuite ok, q6⟩
          | brk => obtain ⟨τ6, H6, S6, q6⟩ := hsp; exact ⟨_, _, S6.unsuite ok, q6⟩
          | cont => obtain ⟨τ6, H6, S6, q6⟩ := hsp; exact ⟨_, _, S6.unsuite ok, q6⟩
          | ret u => obtain ⟨v6, τ6, H6, S6, r6, q6⟩ := hsp; exact ⟨_, _, _, S6.unsuite ok, r6, q6⟩
        | false => exact ih (hno rfl)
      | @consAs x n i c ts b0 suite np pos' hds2 l2 hi hln hc hsu r ih =>
        intro w
        obtain ⟨b, hb1, hyes, hno⟩ := w
        have hloc : Loc X.env.scope n := .inl hln
        have LM := PySem.W.exm_one (M := model X.prog X.w) (J3.kIn) LT hb1
        refine wpAny_handleBy_cons (codeAny_handlers_test (test hc (LM.here ?_))) (by intro q; cases q)
        cases b with
        | true =>
          refine codeAny_handlers_suite_as (HandSPX.lands_againZ fl3 fun h4 fl4 up4 => ?_)
          have J4 : Inv X pins τ H2 { s' with heap := h4 } := J.landed nb fl4.1 ((up.trans up3).trans up4) os ag
          obtain ⟨oe4, vs4, he4, hz4, hd4⟩ := fl4.there
          have S4 := J4.suite he4 hd4 na nL nF
          refine store_ok (X := X.suite a ((a, oe4) :: (X.pn ++ pins))) (v := .ref a) S4 hN hi hloc rfl (fun s5 S5 => ?_) (.inr hln)
          refine wpAny_mono ((hsu a oe4 cls d (X.pn ++ pins) hz4 ⟨_, hd4⟩).run [] s5 _ H2 _ S5 (hyes rfl a na)) (fun f s6 hsp => ?_) (fun _ _ z => False.elim z)
          have off : ∀ {τ6 : L2.St} {H6 : Hp} {Q : Shared → Prop}, Inv (X.suite a ((a, oe4) :: (X.pn ++ pins))) [] τ6 H6 s6 → (∀ s7, Inv X pins (τ6.set i none) H6 s7 → Q s7) →
              wpAny (model X.prog X.w) X.A (do bindName X.env n .none; unbindBehindTheSuite X.env n pos') (fun _ s7 => Q s7) X.xe s6 := fun {τ6 H6 Q} S6 hq => gone_ok (S6.unsuite ok) hN hi hln hq
          cases f with
          | next => obtain ⟨τ6, H6, S6, q6⟩ := hsp; exact off S6 fun s7 J7 => ⟨_, _, J7, q6⟩
          | brk => obtain ⟨τ6, H6, S6, q6⟩ := hsp; exact off S6 fun s7 J7 => ⟨_, _, J7, q6⟩
          | cont => obtain ⟨τ6, H6, S6, q6⟩ := hsp; exact off S6 fun s7 J7 => ⟨_, _, J7, q6⟩
          | ret u => obtain ⟨v6, τ6, H6, S6, r6, q6⟩ := hsp; exact off S6 fun s7 J7 => ⟨_, _, _, J7, r6, q6⟩
        | false => exact ih (hno rfl)
    exact go hh w
end
end MM
namespace MM
open PySem PySem.Spec PyProof.Rows L2
/-! ### .. as functions -/
structure Hd where
  C : Str
  nm : Option Nat
  m : Str → List (Str × D) → SM
def tabB (tab : List (Str × Str × Bool)) (c C : Str) : Option Bool := (tab.find? fun p => p.1 == c && p.2.1 == C).map (·.2.2)
def offM (i : Nat) (r : Option (Flo × Fr × Sto)) : Option (Flo × Fr × Sto) := match r with
  | some (.nx, ρ, S) => some (.nx, ρ.set i none, S)
  | some (.bk, ρ, S) => some (.bk, ρ.set i none, S)
  | some (.ct, ρ, S) => some (.ct, ρ.set i none, S)
  | some (.rt (.d x), ρ, S) => some (.rt (.d x), ρ.set i none, S)
  | some (.rt (.loc x), ρ, S) => some (.rt (.loc x), ρ.set i none, S)
  | _ => none
def quietM (r : Option (Flo × Fr × Sto)) : Option (Flo × Fr × Sto) := match r with
  | some (.ex _ _, _, _) => none
  | r => r
def catchM (tab : List (Str × Str × Bool)) : List Hd → Str → List (Str × D) → SM
  | [], c, fs => fun ρ S => some (.ex c fs, ρ, S)
  | h :: r, c, fs => fun ρ S => match tabB tab c h.C with
    | some true => match h.nm with
      | none => quietM (h.m c fs ρ S)
      | some i => if i < ρ.length then offM i (h.m c fs (ρ.set i none) S) else none
    | some false => catchM tab r c fs ρ S
    | none => none
def tryM (tab : List (Str × Str × Bool)) (m : SM) (hs : List Hd) : SM := fun ρ S => match m ρ S with
  | some (.ex c fs, ρ1, S1) => catchM tab hs c fs ρ1 S1
  | r => r
/-- a suite's reading: the caught one at a, of the class cls, its dict d; i: its name's slot -/
def tSx (K : PySem.W.Frag) (w : World) (nm : Option Nat) (m : Str → List (Str × D) → SM) (a : Addr) (cls : Value) (d : Option Addr) : TS := fun En σ H => ∃ B F μ ρ S c fs, cls = .ref (He.ga K c) ∧ ExD K w F d fs ∧ (∀ i, nm = some i → σ[i]? = some (some (.ref a)) ∧ ρ[i]? = some none) ∧
  StOk K w B F μ ρ S σ H ∧ flowAt K w noW (m c fs ρ S) B F En
inductive MHds (X : Cx) : List ExceptHandler → List Hd → Prop
  | nil : MHds X [] []
  | cons {x : Str} {m : Str → List (Str × D) → SM} {b0 : Stmt} {suite : List Stmt} {np pos' : Pos} {hds : List ExceptHandler} {l : List Hd} (hc : Names X x (.ref (He.ga X.K x)))
      (hsu : ∀ (a : Addr) (oe : Obj) (cls : Value) (d : Option Addr) (pn : List (Addr × Obj)), Zc cls d oe → (∃ vs, oe.data = .fields vs) → PSs (X.suite a ((a, oe) :: pn)) (b0 :: suite) (tSx X.K X.w none m a cls d)) (r : MHds X hds l) :
      MHds X (.ExceptHandler (some (.Name x np)) none (b0 :: suite) pos' :: hds) (⟨x, none, m⟩ :: l)
  | consAs {x n : Str} {i : Nat} {m : Str → List (Str × D) → SM} {b0 : Stmt} {suite : List Stmt} {np pos' : Pos} {hds : List ExceptHandler} {l : List Hd} (hi : X.N[i]? = some n) (hln : X.env.kindOf n = some .local) (hc : Names X x (.ref (He.ga X.K x)))
      (hsu : ∀ (a : Addr) (oe : Obj) (cls : Value) (d : Option Addr) (pn : List (Addr × Obj)), Zc cls d oe → (∃ vs, oe.data = .fields vs) → PSs (X.suite a ((a, oe) :: pn)) (b0 :: suite) (tSx X.K X.w (some i) m a cls d)) (r : MHds X hds l) :
      MHds X (.ExceptHandler (some (.Name x np)) (some n) (b0 :: suite) pos' :: hds) (⟨x, some i, m⟩ :: l)
def clOf (K : PySem.W.Frag) (w : World) (h : Hd) : Clause := ⟨.ref (He.ga K h.C), h.nm, tSx K w h.nm h.m⟩
theorem MHds.to {X : Cx} {hds : List ExceptHandler} {l : List Hd} (h : MHds X hds l) : HdsN X hds (l.map (clOf X.K X.w)) := by
  induction h with
  | nil => exact .nil
  | cons hc hsu r ih => exact .cons hc hsu ih
  | consAs hi hln hc hsu r ih => exact .consAs hi hln hc hsu ih
def TabOk (K : PySem.W.Frag) (tab : List (Str × Str × Bool)) : Prop := ∀ p ∈ tab, PySem.W.exmOne K (.ref (He.ga K p.1)) (.ref (He.ga K p.2.1)) = some p.2.2
theorem TabOk.at {K : PySem.W.Frag} {tab : List (Str × Str × Bool)} (h : TabOk K tab) {c C : Str} {b : Bool} (e : tabB tab c C = some b) : PySem.W.exmOne K (.ref (He.ga K c)) (.ref (He.ga K C)) = some b := by
  unfold tabB at e
  obtain ⟨p, h1, rfl⟩ := Option.map_eq_some_iff.mp e
  have h2 := List.find?_some h1
  rw [Bool.and_eq_true] at h2
  have h3 := h p (List.mem_of_find?_eq_some h1)
  rw [beq_iff_eq.mp h2.1, beq_iff_eq.mp h2.2] at h3
  exact h3
section
variable {K : PySem.W.Frag} {w : World} {F H : Hp} {μ : List Addr} {S : Sto} {ρ : Fr} {σ : L2.St} {B : Bs}
theorem StOk.blank (x : StOk K w B F μ ρ S σ H) (i : Nat) (v : Option V) : StOk K w B F μ (ρ.set i none) S (σ.set i v) H := by
  have get : ∀ {j : Nat} {e : Ent}, (ρ.set i none)[j]? = some (some e) → j ≠ i ∧ ρ[j]? = some (some e) := fun {j e} q => by
    by_cases n : j = i
    · subst n
      by_cases hl : j < ρ.length
      · rw [List.getElem?_set_self hl] at q; cases q
      · rw [List.getElem?_eq_none (by simp; omega)] at q; cases q
    · rw [List.getElem?_set_ne (Ne.symm n)] at q
      exact ⟨n, q⟩
  refine ⟨x.rel, ⟨by simp [x.fr.len], fun j y q => ?_, fun j cc q => ?_, fun j k cc dd a q1 q2 q3 q4 => ?_⟩, x.gr, fun j cc a q1 q2 => ?_⟩
  · obtain ⟨n, q'⟩ := get q
    rw [List.getElem?_set_ne (Ne.symm n)]
    exact x.fr.r j y q'
  · obtain ⟨n, q'⟩ := get q
    rw [List.getElem?_set_ne (Ne.symm n)]
    exact x.fr.own j cc q'
  · obtain ⟨n1, p1⟩ := get q1
    obtain ⟨n2, p2⟩ := get q2
    rw [List.getElem?_set_ne (Ne.symm n1)] at q3
    rw [List.getElem?_set_ne (Ne.symm n2)] at q4
    exact x.fr.dist j k cc dd a p1 p2 q3 q4
  · obtain ⟨n1, p1⟩ := get q1
    rw [List.getElem?_set_ne (Ne.symm n1)] at q2
    exact x.ow j cc a p1 q2
theorem catch_ok {tab : List (Str × Str × Bool)} (ht : TabOk K tab) {Wout : WX} {En : Ends} {c : Str} {fs : List (Str × D)} {d : Option Addr} (hd : ExD K w F d fs) (x : StOk K w B F μ ρ S σ H) :
    ∀ {l : List Hd}, flowAt K w Wout (catchM tab l c fs ρ S) B F En → wCl K Wout En (l.map (clOf K w)) (.ref (He.ga K c)) d σ H
  | [], h => by
    obtain ⟨fl, ρ', S', h1, h2⟩ := h
    cases h1
    exact h2 F μ σ H (Same.refl _) x d hd
  | hd' :: r, h => by
    obtain ⟨fl, ρ', S', h1, h2⟩ := h
    unfold catchM at h1
    cases q : tabB tab c hd'.C with
    | none => simp [q] at h1
    | some b =>
      refine ⟨b, ht.at q, fun hb a ha => ?_, fun hb => ?_⟩
      · subst hb
        simp only [q] at h1
        show runC (clOf K w hd') a _ d En σ H
        unfold runC clOf
        cases qn : hd'.nm with
        | none =>
          simp only [qn] at h1 ⊢
          refine ⟨B, F, μ, ρ, S, c, fs, rfl, hd, (fun i e => by cases e), x, ?_⟩
          unfold quietM at h1
          split at h1
          · cases h1
          · rename_i nn
            refine ⟨fl, ρ', S', h1, fun F' μ' σ' H' e y => ?_⟩
            have := h2 F' μ' σ' H' e y
            cases fl with
            | ex c fs => exact absurd h1 (nn _ _ _ _)
            | nx => exact this
            | rt r => exact this
            | bk => exact this
            | ct => exact this
        | some i =>
          simp only [qn] at h1 ⊢
          by_cases hl : i < ρ.length
          · rw [if_pos hl] at h1
            have hil : i < σ.length := by rw [← x.fr.len]; exact hl
            refine ⟨B, F, μ, ρ.set i none, S, c, fs, rfl, hd, (fun j e => by cases e; exact ⟨List.getElem?_set_self hil, List.getElem?_set_self hl⟩), x.blank i _, ?_⟩
            unfold offM at h1
            split at h1
            · rename_i ρ2 S2 q2; cases h1
              exact ⟨_, _, _, q2, fun F' μ' σ' H' e y => h2 F' μ' (σ'.set i none) H' e (y.blank i none)⟩
            · rename_i ρ2 S2 q2; cases h1
              exact ⟨_, _, _, q2, fun F' μ' σ' H' e y => h2 F' μ' (σ'.set i none) H' e (y.blank i none)⟩
            · rename_i ρ2 S2 q2; cases h1
              exact ⟨_, _, _, q2, fun F' μ' σ' H' e y => h2 F' μ' (σ'.set i none) H' e (y.blank i none)⟩
            · rename_i z ρ2 S2 q2; cases h1
              exact ⟨_, _, _, q2, fun F' μ' σ' H' e y v hv => h2 F' μ' (σ'.set i none) H' e (y.blank i none) v hv⟩
            · rename_i z ρ2 S2 q2; cases h1
              exact ⟨_, _, _, q2, fun F' μ' σ' H' e y v hv => h2 F' μ' (σ'.set i none) H' e (y.blank i none) v hv⟩
            · cases h1
          · rw [if_neg hl] at h1; cases h1
      · subst hb
        simp only [q] at h1
        exact catch_ok ht hd x ⟨fl, ρ', S', h1, h2⟩
end
section
variable {X : Cx} {Wout : WX} {body : List Stmt} {h0 : ExceptHandler} {hds : List ExceptHandler} {l : List Hd} {pos : Pos} {m : SM}
theorem ms_try (tab : List (Str × Str × Bool)) (hN : X.N.Nodup) (tk : Takes X Wout) (ht : TabOk X.K tab) (hb : ∀ (W : WX) (pn : List (Addr × Obj)) (xe : Value → Shared → Prop), Takes (X.tr pn xe) W → PassesOwn (model X.prog X.w) X.A X.env xe → MSs (X.tr pn xe) W body m)
    (hh : MHds X (h0 :: hds) l) (hs : X.stack = X.env :: X.outer := by rfl) (hf : X.env.frame = some X.env.locals := by rfl) : MS X Wout (.Try body (h0 :: hds) [] [] pos) (tryM tab m l) := by
  refine ⟨fun pins s σ H En I h => ?_⟩
  refine (ps_tryN (tb := fun W => tS X.K X.w W m) hs hf hN tk hb hh.to).run pins s σ H En I ?_
  obtain ⟨B, F, μ, ρ, S, h1, fl, ρ', S', h2, h3⟩ := h
  refine ⟨B, F, μ, ρ, S, h1, ?_⟩
  unfold tryM at h2
  split at h2
  · rename_i c fs ρ1 S1 q
    refine ⟨.ex c fs, ρ1, S1, q, fun F' μ' σ' H' e x d hd => ?_⟩
    exact catch_ok ht hd x ⟨fl, ρ', S', h2, fun F2 μ2 σ2 H2 e2 => h3 F2 μ2 σ2 H2 (e.trans e2)⟩
  · rename_i nn
    refine ⟨fl, ρ', S', h2, fun F' μ' σ' H' e x => ?_⟩
    have := h3 F' μ' σ' H' e x
    cases fl with
    | ex c fs => exact absurd h2 (nn _ _ _ _)
    | nx => exact this
    | rt r => exact this
    | bk => exact this
    | ct => exact this
end
end MM
namespace MM
open PySem PySem.Spec PyProof.Rows L2
/-! ### suites -/
section
variable {X : Cx} {a : Addr} {oe : Obj} {cls : Value} {d : Option Addr} {pn : List (Addr × Obj)} {suite : List Stmt} {m : SM} {pos p1 p2 p3 p4 : Pos}
/-- the caught one is not looked at -/
theorem hs_plain {nm : Option Nat} (h : MSs (X.suite a pn) noW suite m) : PSs (X.suite a pn) suite (tSx X.K X.w nm (fun _ _ => m) a cls d) := PSs.imp h fun En σ H ⟨B, F, μ, ρ, S, c, fs, _, _, _, x, fl⟩ => ⟨B, F, μ, ρ, S, x, fl⟩
/-- x = e.f -/
def xfM (C f : Str) (j : Nat) (c : Str) (fs : List (Str × D)) : SM := fun ρ S => if c = C then match fs.lookup f with
  | some y => setR j (.d y) ρ S
  | none => none
  else none
theorem xf_ok {K : PySem.W.Frag} {w : World} {F H : Hp} {fs : List (Str × D)} {f : Str} {y : D} (le : Same F H) (h : ExD K w F d fs) (e : fs.lookup f = some y) : ∃ dd vs v, d = some dd ∧ H dd = some (.xd vs) ∧ vs.lookup f = some v ∧ Rep K w F y v := by
  rcases h with ⟨_, rfl⟩ | ⟨dx, vs, rfl, h1, h2⟩
  · cases e
  · obtain ⟨v, h3, h4⟩ := h2.get e
    exact ⟨dx, vs, v, rfl, le _ _ h1, h3, h4⟩
theorem hs_fld (i j : Nat) {C f n x : Str} (T : XfC X.K (He.ga X.K C)) (hno : PySem.W.findIn X.K (.ref (He.ga X.K C)) f = some none) (hz : Zc cls d oe) (hf : ∃ vs, oe.data = .fields vs) (hN : X.N.Nodup) (hi : X.N[i]? = some n := by rfl) (hj : X.N[j]? = some x := by rfl)
    (vi : Vis X.env.scope n := by first | exact Or.inl rfl | exact Or.inr (Or.inl rfl) | exact Or.inr (Or.inr rfl)) (lj : Loc X.env.scope x := by first | exact Or.inl rfl | exact Or.inr rfl) (d1 : (n == ("__debug__" : Str)) = false := by decide) (d2 : (n == ("__classdict__" : Str)) = false := by decide)
    (hs : swapsWith (.Attribute (.Name n p1) f p2) (some (.Name x p3)) p4.line X.env = pure false := by rfl) (hfn : X.fn x = true ∨ X.env.scope.names.lookup x = some .local := by first | exact .inl rfl | exact .inr rfl) :
    PSs (X.suite a ((a, oe) :: pn)) [.Assign [.Name x p3] (.Attribute (.Name n p1) f p2) p4] (tSx X.K X.w (some i) (xfM C f j) a cls d) :=
  PSs.imp (pss_one (ps_set (X := X.suite a ((a, oe) :: pn)) hN hj lj (pe_xf T hno hz hf (pe_var (X := X.suite a ((a, oe) :: pn)) hi vi d1 d2)) hs hfn)) fun En σ H ⟨B, F, μ, ρ, S, c, fs, e1, e2, e3, x, fl⟩ => by
    obtain ⟨g1, g2⟩ := e3 i rfl
    unfold xfM at fl
    by_cases hc : c = C
    · rw [if_pos hc] at fl
      subst hc
      cases q : fs.lookup f with
      | none => simp only [q] at fl; exact fl.none_
      | some y =>
        simp only [q] at fl
        obtain ⟨dd, vs, v, h1, h2, h3, h4⟩ := xf_ok x.rel.le e2 q
        refine ⟨.ref a, g1, rfl, e1, dd, vs, v, h1, h2, h3, ?_⟩
        unfold setR at fl
        by_cases cl : closedR (.d y) = true ∧ j < ρ.length
        · rw [if_pos cl] at fl
          exact fl.nx (x.set (r := .d y) h4 rfl cl.2)
        · rw [if_neg cl] at fl; exact fl.none_
    · rw [if_neg hc] at fl; exact fl.none_
/-- x = (word, e.f) -/
def xtM (z C f : Str) (j : Nat) (c : Str) (fs : List (Str × D)) : SM := fun ρ S => if c = C then match fs.lookup f with
  | some y => setR j (.d (.tup [.str z, y])) ρ S
  | none => none
  else none
theorem hs_tup (i j : Nat) {z C f n x : Str} {k0 k1 : Nat} {p0 p5 : Pos} (T : XfC X.K (He.ga X.K C)) (hno : PySem.W.findIn X.K (.ref (He.ga X.K C)) f = some none) (hz : Zc cls d oe) (hf : ∃ vs, oe.data = .fields vs) (hN : X.N.Nodup) (hi : X.N[i]? = some n := by rfl) (hj : X.N[j]? = some x := by rfl)
    (vi : Vis X.env.scope n := by first | exact Or.inl rfl | exact Or.inr (Or.inl rfl) | exact Or.inr (Or.inr rfl)) (lj : Loc X.env.scope x := by first | exact Or.inl rfl | exact Or.inr rfl) (d1 : (n == ("__debug__" : Str)) = false := by decide) (d2 : (n == ("__classdict__" : Str)) = false := by decide)
    (hs : swapsWith (.Tuple [.Constant (.str z) k0 p0, .Attribute (.Name n p1) f p2] k1 p5) (some (.Name x p3)) p4.line X.env = pure false := by rfl) (hfn : X.fn x = true ∨ X.env.scope.names.lookup x = some .local := by first | exact .inl rfl | exact .inr rfl)
    (st1 : starEach [.Constant (.str z) k0 p0, .Attribute (.Name n p1) f p2] X.env = (false, eval (.Constant (.str z) k0 p0) X.env) :: starEach [.Attribute (.Name n p1) f p2] X.env := by rfl) (st2 : starEach [.Attribute (.Name n p1) f p2] X.env = (false, eval (.Attribute (.Name n p1) f p2) X.env) :: starEach [] X.env := by rfl) :
    PSs (X.suite a ((a, oe) :: pn)) [.Assign [.Name x p3] (.Tuple [.Constant (.str z) k0 p0, .Attribute (.Name n p1) f p2] k1 p5) p4] (tSx X.K X.w (some i) (xtM z C f j) a cls d) :=
  PSs.imp (pss_one (ps_set (X := X.suite a ((a, oe) :: pn)) hN hj lj (pe_tup (pa_cons (X := X.suite a ((a, oe) :: pn)) pe_str (pa_cons (X := X.suite a ((a, oe) :: pn)) (pe_xf T hno hz hf (pe_var (X := X.suite a ((a, oe) :: pn)) hi vi d1 d2)) pa_nil st2) st1)) hs hfn)) fun En σ H ⟨B, F, μ, ρ, S, c, fs, e1, e2, e3, x, fl⟩ => by
    obtain ⟨g1, g2⟩ := e3 i rfl
    unfold xtM at fl
    by_cases hc : c = C
    · rw [if_pos hc] at fl
      subst hc
      cases q : fs.lookup f with
      | none => simp only [q] at fl; exact fl.none_
      | some y =>
        simp only [q] at fl
        obtain ⟨dd, vs, v, h1, h2, h3, h4⟩ := xf_ok x.rel.le e2 q
        refine ⟨.ref a, g1, rfl, e1, dd, vs, v, h1, h2, h3, by show 2 ≤ 16777216; omega, fun p hp => ?_⟩
        have st := Step.new1 x.rel.le hp (.tup [V.str z, v])
        have x2 := x.grow st.grow (x.rel.step st)
        have fl2 := flowAt.mono st.f fl
        unfold setR at fl2
        by_cases cl : closedR (.d (.tup [.str z, y])) = true ∧ j < ρ.length
        · rw [if_pos cl] at fl2
          exact fl2.nx (x2.set (r := .d (.tup [.str z, y])) (Rep.tup (.inl (.inl upd_same)) (.cons (.str z) (.cons (h4.mono st.f) .nil))) rfl cl.2)
        · rw [if_neg cl] at fl2; exact fl2.none_
    · rw [if_neg hc] at fl; exact fl.none_
end
end MM
namespace MM
open PySem PySem.Spec PyProof.Rows L2
def oexObj (C : Addr) (o : Option Obj) : Bool := match o with
  | some ⟨.type t, _, .cls cd, sl⟩ => t == "type" && (match cd.mro, sl.toList with
    | .ref C2 :: bm, [_, _, _, _, some (.builtin n), _] => C2 == C && (n == "ValueError.__new__" && (cd.hasDict && (!cd.hasDel && PySem.HandSPX.refsVE bm)))
    | _, _ => false)
  | _ => false
theorem oexObj_ok {C : Addr} {o : Option Obj} (h : oexObj C o = true) : ∃ nm q N bs bm sn sub ab col dd k0 k1 k2 k3 k5, o = some (excClassObj nm q C N bs bm true sn sub ab col dd k0 k1 k2 k3 k5 "ValueError.__new__") ∧ PySem.HandSPX.refsVE bm = true := by
  unfold oexObj at h
  split at h
  · rename_i t dd cd sl
    rw [Bool.and_eq_true] at h
    obtain ⟨ht, h⟩ := h
    split at h
    · rename_i C2 bm k0 k1 k2 k3 n k5 hm hs
      simp only [Bool.and_eq_true, beq_iff_eq, Bool.not_eq_true'] at h ht
      obtain ⟨rfl, rfl, h3, h4, h5⟩ := h
      subst ht
      obtain ⟨nm, bs, mro, ns, qn, hd, sn, sb, ab, col, hdl⟩ := cd
      simp only at hm h3 h4
      subst hm h3 h4
      have : sl = #[k0, k1, k2, k3, some (.builtin "ValueError.__new__"), k5] := by
        rw [← Array.toList_inj, hs]
      subst this
      exact ⟨nm, qn, ns, bs, bm, sn, sb, ab, col, dd, k0, k1, k2, k3, k5, rfl, h5⟩
    · cases h
  · cases h
def oexB (K : PySem.W.Frag) (x : Str) : Bool := oexObj (He.ga K x) (K.lookup (He.ga K x)) && (He.eqO (PySem.W.findIn K (.ref (He.ga K x)) "__setattr__") (some (some (.builtin "object.__setattr__"))) &&
  (decide (PySem.W.subIn K (.ref (He.ga K x)) (.type "BaseException") = some true) && (decide (PySem.W.typeIn K (.ref (He.ga K x)) = some (.type "type")) && PySem.W.keepIn K (.ref (He.ga K x)))))
theorem oexB_ok {K : PySem.W.Frag} {x : Str} (h : oexB K x = true) : OexC K (He.ga K x) := by
  unfold oexB at h
  simp only [Bool.and_eq_true] at h
  obtain ⟨h1, h2, h3, h4, h5⟩ := h
  exact ⟨oexObj_ok h1, He.eqO_ok h2, of_decide_eq_true h3, of_decide_eq_true h4, h5⟩
def xinB (K : PySem.W.Frag) (x : Str) : Bool := He.eqO (PySem.W.findIn K (.ref (He.ga K x)) "__init__") (some (some (.ref (He.fAd K (x, some "__init__"))))) && decide (PySem.W.typeIn K (.ref (He.fAd K (x, some "__init__"))) = some (.type "function"))
theorem xinB_ok {K : PySem.W.Frag} {x : Str} (h : xinB K x = true) : PySem.W.findIn K (.ref (He.ga K x)) "__init__" = some (some (.ref (He.fAd K (x, some "__init__")))) ∧ PySem.W.typeIn K (.ref (He.fAd K (x, some "__init__"))) = some (.type "function") := by
  unfold xinB at h
  rw [Bool.and_eq_true] at h
  exact ⟨He.eqO_ok h.1, of_decide_eq_true h.2⟩
def exmB (K : PySem.W.Frag) (x y : Str) (b : Bool) : Bool := decide (PySem.W.exmOne K (.ref (He.ga K x)) (.ref (He.ga K y)) = some b)
theorem tab_nil {K : PySem.W.Frag} : TabOk K [] := fun p hp => by simp at hp
theorem tab_cons {K : PySem.W.Frag} {x y : Str} {b : Bool} {r : List (Str × Str × Bool)} (h : exmB K x y b = true) (q : TabOk K r) : TabOk K ((x, y, b) :: r) := fun p hp => by
  rcases List.mem_cons.mp hp with rfl | hp
  · exact of_decide_eq_true h
  · exact q p hp
theorem names_of {X : Cx} {x : Str} (hm : X.mg x = some (.ref (He.ga X.K x))) (hg : Gl X x := by rfl) (hd : (x == ("__debug__" : Str)) = false := by decide) : Names X x (.ref (He.ga X.K x)) := ⟨hg, hd, .inl hm⟩
end MM
namespace MM
open PySem PySem.Spec PyProof.Rows L2

/-! ### the entry is moved to here -/
section
variable {K : PySem.W.Frag} {w : World} {F F' H H' : Hp} {μ μ' : List Addr} {S S' : Sto} {ρ ρ' : Fr} {σ σ' : L2.St} {B : Bs}
open Classical in
/-- what stands here, but the frame's own lists -/
noncomputable def baseH (ρ : Fr) (σ : L2.St) (H : Hp) : Hp := fun a => if ∃ (i : Nat) (c : Cell), ρ[i]? = some (some (.own c)) ∧ σ[i]? = some (some (.ref a)) then none else H a
theorem baseH_some {a : Addr} {o : HO} (h : baseH ρ σ H a = some o) : H a = some o ∧ ¬ ∃ (i : Nat) (c : Cell), ρ[i]? = some (some (.own c)) ∧ σ[i]? = some (some (.ref a)) := by
  unfold baseH at h
  split at h
  · cases h
  · rename_i n; exact ⟨h, n⟩
theorem baseH_none {a : Addr} (h : baseH ρ σ H a = none) : H a = none ∨ ∃ (i : Nat) (c : Cell), ρ[i]? = some (some (.own c)) ∧ σ[i]? = some (some (.ref a)) := by
  unfold baseH at h
  split at h
  · rename_i n; exact .inr n
  · exact .inl h
theorem StOk.rebase (x : StOk K w B F μ ρ S σ H) : StOk K w ⟨F, baseH ρ σ H, μ⟩ F μ ρ S σ H := by
  refine ⟨x.rel, x.fr, ⟨Same.refl _, List.prefix_rfl, fun a o e _ => (baseH_some e).1, fun a h1 h2 => absurd h2 h1, fun a h1 h2 => absurd h1 h2⟩, fun i c a e1 e2 => ?_⟩
  show baseH ρ σ H a = none
  unfold baseH
  rw [if_pos ⟨i, c, e1, e2⟩]
theorem StOk.unbase (x : StOk K w B F μ ρ S σ H) (y : StOk K w ⟨F, baseH ρ σ H, μ⟩ F' μ' ρ' S' σ' H') : StOk K w B F' μ' ρ' S' σ' H' := by
  have g1 := x.gr
  have g2 := y.gr
  have back : ∀ a, a ∉ B.μ → baseH ρ σ H a = none → B.H a = none := fun a hm e => by
    rcases baseH_none e with h | ⟨i, c, h1, h2⟩
    · cases q : B.H a with
      | none => rfl
      | some o => rw [g1.h a o q hm] at h; cases h
    · exact x.ow i c a h1 h2
  have back' : ∀ a, baseH ρ σ H a = none → B.H a = none := fun a e => by
    rcases baseH_none e with h | ⟨i, c, h1, h2⟩
    · exact x.fresh h
    · exact x.ow i c a h1 h2
  refine ⟨y.rel, y.fr, ⟨g1.f.trans g2.f, g1.p.trans g2.p, fun a o e hm => ?_, fun a h1 h2 hm => ?_, fun a h1 h2 => ?_⟩, fun i c a e1 e2 => back' a (y.ow i c a e1 e2)⟩
  · have hH : H a = some o := g1.h a o e hm
    have hμ : a ∉ μ := fun z => by rw [g1.nm a z hm] at e; cases e
    have hb : baseH ρ σ H a = some o := by
      unfold baseH
      rw [if_neg (fun ⟨i, c, h1, h2⟩ => by rw [x.ow i c a h1 h2] at e; cases e)]
      exact hH
    exact g2.h a o hb hμ
  · by_cases hF : F a = none
    · by_cases hμ : a ∈ μ
      · exact g1.nm a hμ hm
      · exact back a hm (g2.nf a h1 hF hμ)
    · exact g1.nf a hF h2 hm
  · by_cases hμ : a ∈ μ
    · exact g1.nm a hμ h2
    · exact back a h2 (g2.nm a h1 hμ)
end
/-! ### enumerate, of a list that stands frozen or may live on -/
def liveAt (S : Sto) (k : Option Nat) (ds : List D) : Prop := match k with
  | none => True
  | some n => S[n]? = some (.lst ds)
def enumK (as : List R) : GM (List D × Option Nat) := fun _ S => match as with
  | [.d (.lst ds)] => some (.ok (ds, none), S)
  | [.loc n] => match S[n]? with
    | some (.lst ds) => some (.ok (ds, some n), S)
    | _ => none
  | _ => none
open Classical in
noncomputable def loopK (k : Option Nat) (ds0 : List D) (t : TgM) (body : SM) : List D → SM
  | [] => nxM
  | d :: ds => fun ρ S => match t d ρ with
    | none => none
    | some ρ1 => match body ρ1 S with
      | some (.nx, ρ2, S2) => if liveAt S2 k ds0 then loopK k ds0 t body ds ρ2 S2 else none
      | some (.ct, ρ2, S2) => if liveAt S2 k ds0 then loopK k ds0 t body ds ρ2 S2 else none
      | some (.bk, ρ2, S2) => some (.nx, ρ2, S2)
      | some (.rt r, ρ2, S2) => some (.rt r, ρ2, S2)
      | some (.ex c fs, ρ2, S2) => some (.ex c fs, ρ2, S2)
      | none => none
noncomputable def forK (ms : AM) (t : TgM) (body : SM) : SM := thenM (bindM ms enumK) fun p => loopK p.2 p.1 t body (enumL p.1)
/-- the list is there now -/
def LiveV (K : PySem.W.Frag) (w : World) (F : Hp) (μ : List Addr) (S : Sto) (a : Addr) (k : Option Nat) (ds : List D) : Prop := match k with
  | none => ∃ xs, F a = some (.lst xs) ∧ RepAll K w F ds xs
  | some n => μ[n]? = some a ∧ S[n]? = some (.lst ds)
theorem LiveV.xs {K : PySem.W.Frag} {w : World} {F H : Hp} {μ : List Addr} {S : Sto} {a : Addr} {k : Option Nat} {ds : List D} (r : Rel K w F μ S H) (h : LiveV K w F μ S a k ds) : ∃ xs, H a = some (.lst xs) ∧ RepAll K w F ds xs := by
  cases k with
  | none => obtain ⟨xs, h1, h2⟩ := h; exact ⟨xs, r.le _ _ h1, h2⟩
  | some n => obtain ⟨h1, h2⟩ := h; obtain ⟨_, xs, h3, h4⟩ := r.cell n a _ h1 h2; exact ⟨xs, h3, h4⟩
end MM
namespace MM
open PySem PySem.Spec PyProof.Rows L2
open AutoSeq1 (wpAny_loadPart')

/-! ### enumerate of a tuple -/
theorem meets_enumT (l : Addr) (items : Array Value) (n : Nat) (dct : Option Addr) (sl : Array (Option Value)) :
    Meets (Builtin.«enumerate.__new__» ⟨[.type "enumerate", .ref l], []⟩) (fun _ R s => s.heap.get? l = some { cls := .type "tuple", dict := dct, data := .seq items n, slots := sl } ∧
      R (.ok (.ret (.ref (s.heap.push { cls := .type "tuple_iterator", data := .fields #[.ref l, .int 0 0] }).objs.size)))
        { s with heap := (s.heap.push { cls := .type "tuple_iterator", data := .fields #[.ref l, .int 0 0] }).push { cls := .type "enumerate", data := .fields #[.none, .bool false, .ref s.heap.objs.size, rawInt 0, .none, .none] } }) :=
  .of_wp fun prog w A R s h => by
    obtain ⟨hp, g, d, tk, os⟩ := s
    obtain ⟨hl, h⟩ := h
    have hsub := sub_enumerate
    have hL : Heap.IsTuple (Shared.heap ⟨hp, g, d, tk, os⟩) l items := ⟨_, hl, rfl, n, rfl⟩
    wp_walk using wpAny_loadPart' hl
    refine wpAny_stack_any fun st => wpAny_pure ?_
    split
    · rename_i c _ _ _ _ _
      cases (c == Value.type "enumerate")
      · wp_walk using wpAny_loadPart' hl, wpAny_pyIter_tuple hL
        exact ⟨_, rfl, h⟩
      · wp_walk using wpAny_loadPart' hl, wpAny_pyIter_tuple hL
        exact ⟨_, rfl, h⟩
    · wp_walk using wpAny_loadPart' hl, wpAny_pyIter_tuple hL
      exact ⟨_, rfl, h⟩
section
variable {prog : Program} {w : World} {A : Around} {E : Value → Shared → Prop} {s : Shared}
theorem call_enumT {l : Addr} {items : Array Value} {Q : Value → Shared → Prop} (hL : s.heap.IsTuple l items)
    (h : ∀ h', IsEnum h' (s.heap.objs.size + 1) s.heap.objs.size 0 .none → h'.IsTupleIter s.heap.objs.size l 0 → h'.objs.size = s.heap.objs.size + 2 →
      (∀ b o, s.heap.get? b = some o → h'.get? b = some o) → Q (.ref (s.heap.objs.size + 1)) { s with heap := h' }) :
    wpAny (model prog w) A (call (.type "enumerate") [.ref l]) Q E s := by
  obtain ⟨⟨c, dct, dt, sl⟩, hl, hc, n, hd⟩ := hL
  replace hc : c = .type "tuple" := hc
  replace hd : dt = .seq items n := hd
  subst hc hd
  refine callType_new F.called_enumerate (by decide) (F.typeCall_enumerate_1 _) (F.newCall_enumerate_1 _) (fun obj => F.args_object_init_2 obj _) F.entry_enumerate_new
    (meets_enumT l items n dct sl) ⟨hl, ?_⟩
  have hz : (s.heap.push { cls := .type "tuple_iterator", data := .fields #[.ref l, .int 0 0] }).objs.size = s.heap.objs.size + 1 := Heap.size_push ..
  show _ ∧ _
  rw [hz]
  have he : IsEnum ((s.heap.push { cls := .type "tuple_iterator", data := .fields #[.ref l, .int 0 0] }).push { cls := .type "enumerate", data := .fields #[.none, .bool false, .ref s.heap.objs.size, rawInt 0, .none, .none] })
      (s.heap.objs.size + 1) s.heap.objs.size 0 .none := by
    have := Heap.get?_push_size (s.heap.push { cls := .type "tuple_iterator", data := .fields #[.ref l, .int 0 0] }) (o := { cls := .type "enumerate", data := .fields #[.none, .bool false, .ref s.heap.objs.size, rawInt 0, .none, .none] }) rfl
    rw [hz] at this
    exact this
  refine ⟨⟨_, he, rfl⟩, h _ he ⟨_, Heap.get?_push_of_some _ (Heap.get?_push_size _ rfl), rfl, rfl⟩ (by rw [Heap.size_push, hz]) fun b o x => Heap.get?_push_of_some _ (Heap.get?_push_of_some _ x)⟩
end
def IteT (K : PySem.W.Frag) (a : Addr) : It :=
  ⟨fun i H => ∃ (xs : List V) (x : V), SqT K H a xs ∧ xs[i]? = some x, fun i H v H' => ∃ T x, v = .ref T ∧ H T = none ∧ H' = upd H T (.tup [.int (i : Nat), x]) ∧ ∀ xs, SqT K H a xs → xs[i]? = some x, fun i H => ∃ xs : List V, SqT K H a xs ∧ xs.length ≤ i⟩
theorem turn_enumT {P : Program} {w : World} {K : PySem.W.Frag} {elts : List Expr} {kk : Nat} {tpos : Pos} (a e it : Addr) :
    Turn P w K (.Tuple elts kk tpos) (IteT K a) [e, it] e (fun i h => (∃ old, IsEnum h e it ((i : Nat) : Int) old) ∧ h.IsTupleIter it a i ∧ e ≠ it ∧ a ≠ it ∧ e ≠ a) where
  mem := by simp
  obj := fun i h st b hb => by
    obtain ⟨⟨old, he⟩, ⟨o, ho, hc, hd⟩, _⟩ := st
    have e' : b = e ∨ b = it := by simpa using hb
    rcases e' with z | z
    · rw [z]; exact ⟨_, he, fun v q => nomatch q⟩
    · rw [z]; exact ⟨o, ho, fun v q => by rw [hd] at q; cases q⟩
  keep := fun i h h' st k => let ⟨⟨old, he⟩, hi, hne⟩ := st; ⟨⟨old, k e (by simp) _ he⟩, hi.at fun o q => k it (by simp) o q, hne⟩
  item := by
    intro X hP hw hK hc i pins s σ H E I hf st hg
    subst hP hw hK
    obtain ⟨⟨old, he⟩, hit, hne, hai, hea⟩ := st
    obtain ⟨xs, x, hq, hx⟩ := hg
    obtain ⟨its, rv, p, hz⟩ := I.tuple hq
    obtain ⟨u, hu, ru⟩ := rv.get hx
    have hel : e < s.heap.objs.size := Heap.lt_size he
    have hil : it < s.heap.objs.size := by obtain ⟨_, q, _⟩ := hit; exact Heap.lt_size q
    have pT : s.heap.IsTuple a its.toArray := p
    have hh : X.A.in1.handled = none := I.ok.hd hc
    have hlt : i < its.toArray.size := by
      have := (List.getElem?_eq_some_iff.mp hu).1
      simpa using this
    refine wpAny_pyNext_enum_itemC (Draws.tuple hh it a hai its.toArray) he ⟨hit, pT⟩ hlt hne (by simp [hne, hea]) fun u2 h' tk hPu ho hit' hT hsz hk => ?_
    have hu2 : its[i]? = some u2 := by simpa using hPu
    obtain rfl : u2 = u := by rw [hu] at hu2; exact (Option.some.inj hu2).symm
    refine ⟨_, rfl, wpAny_letOwnedTupleGo_enum (s := { s with heap := h', toks := tk + 1 }) ho fun h'' he' sb => ?_⟩
    have hT2 : h''.get? s.heap.objs.size = some { cls := .type "tuple", data := .seq #[.int i tk, u2] } := (sb.2 _ (Nat.ne_of_gt hel)).trans hT
    have new : ObjOk X.prog X.w (upd H s.heap.objs.size (.tup [.int (i : Nat), x])) h'' s.heap.objs.size (.tup [.int (i : Nat), x]) :=
      ⟨by show 2 ≤ sizeLine; decide, [.int i tk, u2], .cons ⟨_, rfl⟩ (.cons ru .nil), ⟨_, hT2, rfl, _, rfl⟩⟩
    have I1 : Inv X pins σ (upd H s.heap.objs.size (.tup [.int (i : Nat), x])) { s with heap := h'', toks := tk + 1 } :=
      I.turnedNew (ch := [e, it]) (fun b ob hb q => (sb.2 b (fun z => hb (by simp [z]))).trans (hk b ob (fun z => hb (by simp [z])) (fun z => hb (by simp [z])) q)) hf (Nat.le_refl _) new
    refine ⟨.ref s.heap.objs.size, _, I1, rfl, ⟨_, x, rfl, I.hok.fresh (Nat.le_refl _), rfl, fun ys hy => by rw [I.tuple_inj hy hq]; exact hx⟩, ⟨⟨u2, ?_⟩, hit'.1.at fun o q => (sb.2 it (Ne.symm hne)).trans q, hne, hai, hea⟩, fun b hb => ?_⟩
    · have e1 : ((i + 1 : Nat) : Int) = (i : Int) + 1 := by omega
      rw [e1]; exact he'
    · have hb' : b < s.heap.objs.size := by
        have e' : b = e ∨ b = it := by simpa using hb
        rcases e' with z | z
        · rw [z]; exact hel
        · rw [z]; exact hil
      rw [upd_ne (Nat.ne_of_lt hb')]
      exact (hf b hb).1
  done := by
    intro X hP hw hK hc i pins s σ H E I hf st hg
    subst hP hw hK
    obtain ⟨⟨old, he⟩, hit, hne, hai, hea⟩ := st
    obtain ⟨xs, hq, hx⟩ := hg
    obtain ⟨its, rv, p, hz⟩ := I.tuple hq
    obtain ⟨f0, f1, f2, f3, f4, f5⟩ := hf it (by simp)
    have hl := rv.length
    have pT : s.heap.IsTuple a its.toArray := p
    have hh : X.A.in1.handled = none := I.ok.hd hc
    have hT : s.TypeIs (.ref e) "enumerate" := ⟨_, he, rfl⟩
    have hnone : its.toArray[i]? = none := by simp; omega
    unfold pyNext
    refine wpAny_bind (wpAny_attempt (wpAny_callSpecial?_slot (name := Str.ofString "__next__") hT F.slot_enumerate_next
      (wpAny_call_entry F.slot_enumerate_next hT F.entry_enumerate_next ?_ (F.args_enumerate_next_1 _))))
    show wpAny _ _ (field (.ref e) 2 >>= _) _ _ _
    refine wpAny_bind (wpAny_field he rfl (x := .ref it) rfl ?_)
    refine wpAny_bind (wpAny_nextOf_tuple_end hh hit pT hnone fun h' x eb hx' => ?_)
    obtain ⟨o, ho, hc'⟩ := hx'
    refine wpAny_bind (wpAny_isInstance (T := "StopIteration") (b := true) ⟨o, ho, hc'⟩ isSubtype_stop ?_)
    exact wpAny_pure ⟨rfl, I.turned (t' := s.toks) (fun b o hb q => eb b o hb q) f0 f1 f3 f4 f5⟩
  self := fun A i s Q E st h => let ⟨⟨_, he⟩, _⟩ := st; wpAny_pyIter_enum he h
/-- enumerate(e), a list or a tuple -/
def iEnumB (K : PySem.W.Frag) (ta : TA) : TI := fun σ H R => ta σ H fun vs H1 => ∃ a, vs = [.ref a] ∧ ((∃ xs, SqL K H1 a xs ∧ R (Ite K a) H1) ∨ (∃ xs, SqT K H1 a xs ∧ R (IteT K a) H1))
theorem pi_enumB {X : Cx} {e : Expr} {ta : TA} {p pos tpos : Pos} {elts : List Expr} {kk : Nat} (hg : Gl X "enumerate") (hm : X.mg "enumerate" = none) (ha : PA X [e] ta) (hs : starEach [e] X.env = [(false, eval e X.env)] := by rfl) :
    PI X (.Tuple elts kk tpos) (.Call (.Name "enumerate" p) [e] [] pos) (iEnumB X.K ta) := by
  refine ⟨fun pins s σ H R I h => ?_⟩
  refine Call_ (ld_blt I hg hm boot_enumerate (PyProof.Rows.callWith_type1 (thn (ha.run pos pins s σ H _ I h) fun us s1 ⟨vs, H1, I1, r1, q1⟩ => ?_) hs rfl))
  obtain ⟨a, ex, q⟩ := q1
  subst ex
  cases r1 with
  | cons r rr =>
    cases rr
    cases r
    have fp : ∀ b ∈ [s1.heap.objs.size + 1, s1.heap.objs.size], FpOk X pins H1 b := fun b hb => by
      have e' : b = s1.heap.objs.size + 1 ∨ b = s1.heap.objs.size := by simpa using hb
      have hle : s1.heap.objs.size ≤ b := by
        rcases e' with z | z
        · rw [z]; exact Nat.le_add_right _ _
        · rw [z]; exact Nat.le_refl _
      exact I1.fpOk hle (I1.hok.fresh hle)
    rcases q with ⟨xs, hq, q⟩ | ⟨xs, hq, q⟩
    · obtain ⟨its, rv, p', hz⟩ := I1.list hq
      refine call_enumerate_list p'.isList fun h' he hit hsz hk => wpAny_pyIter_enum he ?_
      have I2 : Inv X pins σ H1 { s1 with heap := h' } := I1.kept (t' := s1.toks) hk
      exact ⟨s1.heap.objs.size + 1, [s1.heap.objs.size + 1, s1.heap.objs.size], _, _, H1, rfl, I2, turn_enum a (s1.heap.objs.size + 1) s1.heap.objs.size, ⟨⟨.none, he⟩, hit, Nat.succ_ne_self _⟩, fp, q⟩
    · obtain ⟨its, rv, p', hz⟩ := I1.tuple hq
      have pT : s1.heap.IsTuple a its.toArray := p'
      have hal : a < s1.heap.objs.size := by obtain ⟨o, e1, _⟩ := pT; exact Heap.lt_size e1
      refine call_enumT pT fun h' he hit hsz hk => wpAny_pyIter_enum he ?_
      have I2 : Inv X pins σ H1 { s1 with heap := h' } := I1.kept (t' := s1.toks) hk
      exact ⟨s1.heap.objs.size + 1, [s1.heap.objs.size + 1, s1.heap.objs.size], _, _, H1, rfl, I2, turn_enumT a (s1.heap.objs.size + 1) s1.heap.objs.size, ⟨⟨.none, he⟩, hit, Nat.succ_ne_self _, Nat.ne_of_lt hal, Nat.ne_of_gt (Nat.lt_succ_of_lt hal)⟩, fp, q⟩

theorem good_enumT {K : PySem.W.Frag} {w : World} {F : Hp} {a : Addr} {xs : List V} {ds : List D} (h : SqT K F a xs) (r : RepAll K w F ds xs) : GoodJ K w F (enumL ds) (IteT K a) := by
  unfold GoodJ
  have hl : (enumL ds).length = xs.length := by simp [enumL, r.length]
  rw [hl]
  refine ⟨fun i H hi e => ⟨xs, xs[i], Same.seqT e h, by simp [hi]⟩, fun H e => ⟨xs, Same.seqT e h, Nat.le_refl _⟩, fun i H x H' hi e ⟨T, v, h1, h2, h3, h5⟩ => ?_⟩
  obtain ⟨d, q1, q2⟩ := r.get' (h5 xs (Same.seqT e h))
  subst h1 h3
  exact ⟨.tup [.int (i : Int), d], by simp [enumL, q1], fun F2 e1 e2 => pair_step e2 h2 (.int _) (q2.mono e1)⟩
/-- the turns of a loop over what stands frozen -/
theorem for_good {K : PySem.W.Frag} {w : World} {W : WX} {t : TgM} {sl : List Nat} {body : SM} {ds : List D} {J : It} {B : Bs} {F' : Hp} {μ' : List Addr} {ρ : Fr} {S1 : Sto} {σ : L2.St} {H' : Hp} {En : Ends} (gj : GoodJ K w F' ds J) (y : StOk K w B F' μ' ρ S1 σ H') (fl0 : flowAt K w W (loopM t body ds ρ S1) B F' En) :
    ∃ Wt : Nat → Nat → L2.St → Hp → Prop, (∃ m, Wt 0 m σ H') ∧ ∀ i m σ H, Wt i m σ H → (J.stop i H ∧ En.nx σ H) ∨ (J.go i H ∧ ∃ N : L2.St → Hp → Prop, (∀ σ' H', N σ' H' → ∃ m', m' < m ∧ Wt (i + 1) m' σ' H') ∧ ∀ x H', J.yld i H x H' → gM K w sl t x σ H' fun σ2 H2 => tS K w W body { En with nx := N, ct := N, bk := En.nx } σ2 H2) := by
  refine for_it gj (fun i σ H => ∃ F2 μ2 ρ2 S2, StOk K w B F2 μ2 ρ2 S2 σ H ∧ Same F' F2 ∧ flowAt K w W (loopM t body (ds.drop i) ρ2 S2) B F2 En) ⟨F', μ', ρ, S1, y, Same.refl _, fl0⟩ (fun i σ H hi ⟨F2, μ2, ρ2, S2, k1, k2, k3⟩ => k2.trans k1.rel.le) ?_ ?_
  · rintro i x σ H H2 hi ⟨F2, μ2, ρ2, S2, k1, k2, k3⟩ ⟨d, hd, hF⟩
    obtain ⟨F3, st, rx⟩ := hF F2 k2 k1.rel.le
    have e : ds.drop i = d :: ds.drop (i + 1) := by
      rw [List.drop_eq_getElem_cons hi]
      congr 1
      rw [List.getElem?_eq_getElem hi] at hd
      exact Option.some.inj hd
    rw [e] at k3
    have y3 := k1.grow st.grow (k1.rel.step st)
    cases qt : t d ρ2 with
    | none =>
      obtain ⟨fl, _, _, h, _⟩ := k3
      unfold loopM at h
      simp [qt] at h
    | some ρ3 =>
      refine ⟨F3, μ2, ρ2, S2, d, ρ3, y3.rel, y3.fr, rx, qt, fun σ1 T => ?_⟩
      have ls := loop_step qt (flowAt.mono st.f k3)
      refine ⟨B, F3, μ2, ρ3, S2, y3.tok T, ?_⟩
      obtain ⟨f4, ρ4, S4, g1, g2⟩ := ls
      refine ⟨f4, ρ4, S4, g1, fun F5 μ5 σ5 H5 e x => ?_⟩
      have z := g2 F5 μ5 σ5 H5 e x
      cases f4 with
      | nx => obtain ⟨F6, μ6, ρ6, S6, a1, a2, a3⟩ := z; exact ⟨F6, μ6, ρ6, S6, a1, (k2.trans st.f).trans a2, a3⟩
      | ct => obtain ⟨F6, μ6, ρ6, S6, a1, a2, a3⟩ := z; exact ⟨F6, μ6, ρ6, S6, a1, (k2.trans st.f).trans a2, a3⟩
      | bk => exact z
      | rt r => exact z
      | ex c fs => exact z
  · rintro σ H ⟨F2, μ2, ρ2, S2, k1, k2, k3⟩
    rw [List.drop_length] at k3
    exact k3.nx k1
/-- a tuple -/
def enumT (as : List R) : Option (List D) := match as with
  | [.d (.tup ds)] => some ds
  | _ => none
theorem enumT_ok {K : PySem.W.Frag} {w : World} {F : Hp} {μ : List Addr} {σ : L2.St} {as : List R} {vs : List V} {ds : List D} (z : RepRs K w F μ σ as vs) (e : enumT as = some ds) : ∃ a xs, vs = [.ref a] ∧ SqT K F a xs ∧ RepAll K w F ds xs := by
  unfold enumT at e
  split at e
  · cases e
    cases z with
    | cons z1 z2 =>
      cases z2
      cases z1 with
      | tup hF ra => exact ⟨_, _, rfl, hF, ra⟩
  · cases e
/-- enumerate of a list, frozen or alive, or of a tuple -/
noncomputable def enumX (t : TgM) (body : SM) (as : List R) : SM := fun ρ S => match enumT as with
  | some ds => loopM t body (enumL ds) ρ S
  | none => match enumK as ρ S with
    | some (.ok p, S') => loopK p.2 p.1 t body (enumL p.1) ρ S'
    | some (.ex c fs, S') => some (.ex c fs, ρ, S')
    | none => none
noncomputable def forX (ms : AM) (t : TgM) (body : SM) : SM := thenM ms (enumX t body)
open Classical in
theorem ms_forK {X : Cx} {W : WX} {elts : List Expr} {e : Expr} {ms : AM} {sl : List Nat} {t : TgM} {bd : List Stmt} {body : SM} {pos p cpos tpos : Pos} {kk : Nat} (hp : PassesOwn (model X.prog X.w) X.A X.env X.xe) (hc : X.calm = true) (hm : X.mg "enumerate" = none) (ha : MA X W [e] ms) (hg : MG X (.Tuple elts kk tpos) sl t) (hb : MSs X W bd body)
    (hgl : Gl X "enumerate" := by rfl) (hst : starEach [e] X.env = [(false, eval e X.env)] := by rfl) (hs : ∀ x, foldedSetIterable (.Call (.Name "enumerate" p) [e] [] cpos) X.env x = pure x := by intro _; rfl) : MS X W (.For (.Tuple elts kk tpos) (.Call (.Name "enumerate" p) [e] [] cpos) bd [] pos) (forX ms t body) :=
  PS.imp (ps_for hp hc (pi_enumB hgl hm ha hst) hg hb hs) fun En σ H h => by
    unfold forX at h
    obtain ⟨B, F, μ, ρ, S, h1, fl, ρ', S', h2, h3⟩ := h
    unfold thenM at h2
    refine ⟨F, μ, ρ, S, h1.rel, h1.fr, ?_⟩
    cases q : ms ρ S with
    | none => simp [q] at h2
    | some r =>
      obtain ⟨o1, S1⟩ := r
      cases o1 with
      | ex c fs => simp only [q] at h2; cases h2; exact ⟨_, _, rfl, fun F' μ' H' d g r z => h3 F' μ' σ H' g.f (h1.grow g r) d z⟩
      | ok as =>
        simp only [q] at h2
        refine ⟨.ok as, S1, rfl, fun F1 μ1 H1 vs g r z => ?_⟩
        have y := h1.grow g r
        have key : ∀ (ds : List D) (k : Option Nat), enumK as ρ S1 = some (.ok (ds, k), S1) → ∃ a xs, vs = [.ref a] ∧ H1 a = some (.lst xs) ∧ RepAll X.K X.w F1 ds xs ∧ LiveV X.K X.w F1 μ1 S1 a k ds := fun ds k e => by
          unfold enumK at e
          split at e
          · cases e
            cases z with
            | cons z1 z2 =>
              cases z2
              cases z1 with
              | lst hF ra => exact ⟨_, _, rfl, r.le _ _ hF, ra, _, hF, ra⟩
          · rename_i n
            cases qn : S1[n]? with
            | none => simp [qn] at e
            | some cc =>
              cases cc with
              | lst es =>
                simp only [qn] at e
                cases e
                cases z with
                | cons z1 z2 =>
                  cases z2
                  obtain ⟨a, k1, rfl⟩ := z1
                  obtain ⟨_, xs, k2, k3⟩ := r.cell n a _ k1 qn
                  exact ⟨a, xs, rfl, k2, k3, k1, qn⟩
              | _ => simp [qn] at e
          · cases e
        have enumOut : ∀ {o S2}, enumK as ρ S1 = some (o, S2) → ∃ p, o = .ok p ∧ S2 = S1 := fun {o S2} e => by
          unfold enumK at e
          split at e
          · cases e; exact ⟨_, rfl, rfl⟩
          · split at e
            · cases e; exact ⟨_, rfl, rfl⟩
            · cases e
          · cases e
        cases qt0 : enumT as with
        | some ds =>
          simp only [enumX, qt0] at h2
          obtain ⟨a, xs, rfl, hx, ra⟩ := enumT_ok z qt0
          refine ⟨a, rfl, .inr ⟨xs, Same.seqT r.le hx, ?_⟩⟩
          exact for_good (good_enumT hx ra) y (flowAt.mono g.f ⟨fl, ρ', S', h2, h3⟩)
        | none =>
        simp only [enumX, qt0] at h2
        cases qe : enumK as ρ S1 with
        | none => simp [qe] at h2
        | some p =>
          obtain ⟨o2, S2⟩ := p
          obtain ⟨⟨ds, k⟩, rfl, rfl⟩ := enumOut qe
          simp only [qe] at h2
          obtain ⟨a, xs, rfl, hx, ra, lv⟩ := key ds k qe
          refine ⟨a, rfl, .inl ⟨xs, SqL.of hx, ?_⟩⟩
          have y0 := y.rebase
          have fl0 : flowAt X.K X.w W (loopK k ds t body (enumL ds) ρ S2) B F1 En := flowAt.mono g.f ⟨fl, ρ', S', h2, h3⟩
          have hlen : (enumL ds).length = ds.length := by simp [enumL]
          have wk : Walk (Ite X.K a) ds.length (fun H => ∃ xs, H a = some (.lst xs) ∧ xs.length = ds.length) (fun i H v H' => ∃ T x, v = .ref T ∧ H T = none ∧ H' = upd H T (.tup [.int (i : Nat), x]) ∧ ∀ xs, H a = some (.lst xs) → xs[i]? = some x) :=
            ⟨fun i H hi ⟨xs, e, hl⟩ => ⟨xs, xs[i]'(by omega), SqL.of e, by simp [hl, hi]⟩, fun H ⟨xs, e, hl⟩ => ⟨xs, SqL.of e, by omega⟩, fun i H v H' hi _ ⟨T, x, e1, e2, e3, e4⟩ => ⟨T, x, e1, e2, e3, fun xs q => e4 xs (SqL.of q)⟩⟩
          have ln : ∀ {F2 : Hp} {μ2 : List Addr} {ρ2 : Fr} {S3 : Sto} {τ : L2.St} {Hh : Hp}, StOk X.K X.w ⟨F1, baseH ρ σ H1, μ1⟩ F2 μ2 ρ2 S3 τ Hh → Same F1 F2 → liveAt S3 k ds → LiveV X.K X.w F2 μ2 S3 a k ds := fun {F2 μ2 ρ2 S3 τ Hh} z e la => by
            cases k with
            | none => obtain ⟨us, u1, u2⟩ := lv; exact ⟨us, e _ _ u1, u2.mono e⟩
            | some n => exact ⟨get_of_prefix z.gr.p lv.1, la⟩
          refine for_it wk (fun i τ Hh => ∃ F2 μ2 ρ2 S3, StOk X.K X.w ⟨F1, baseH ρ σ H1, μ1⟩ F2 μ2 ρ2 S3 τ Hh ∧ Same F1 F2 ∧ LiveV X.K X.w F2 μ2 S3 a k ds ∧ flowAt X.K X.w W (loopK k ds t body ((enumL ds).drop i) ρ2 S3) B F2 En) ⟨F1, μ1, ρ, S2, y0, Same.refl _, lv, fl0⟩ ?_ ?_ ?_
          · rintro i τ Hh hi ⟨F2, μ2, ρ2, S3, k1, k2, k3, k4⟩
            obtain ⟨us, u1, u2⟩ := k3.xs k1.rel
            exact ⟨us, u1, u2.length.symm⟩
          · rintro i x τ Hh H' hi ⟨F2, μ2, ρ2, S3, k1, k2, k3, k4⟩ ⟨T, v, rfl, e2, rfl, e4⟩
            obtain ⟨us, u1, u2⟩ := k3.xs k1.rel
            obtain ⟨di, v1, v2⟩ := u2.get' (e4 us u1)
            obtain ⟨F3, st, rx⟩ := pair_step (d := .int (i : Int)) k1.rel.le e2 (.int (i : Int)) v2
            have e : (enumL ds).drop i = .tup [.int (i : Int), di] :: (enumL ds).drop (i + 1) := by
              have hl : i < (enumL ds).length := by rw [hlen]; exact hi
              rw [List.drop_eq_getElem_cons hl]
              congr 1
              simp only [enumL, List.getElem_mapIdx]
              rw [List.getElem?_eq_getElem hi] at v1
              rw [Option.some.inj v1]
            rw [e] at k4
            have y3 := k1.grow st.grow (k1.rel.step st)
            obtain ⟨f4, ρ4, S4, g1, g2⟩ := k4
            unfold loopK at g1
            cases qt : t (.tup [.int (i : Int), di]) ρ2 with
            | none => simp [qt] at g1
            | some ρ3 =>
              simp only [qt] at g1
              refine ⟨F3, μ2, ρ2, S3, _, ρ3, y3.rel, y3.fr, rx, qt, fun σ1 Tk => ⟨_, F3, μ2, ρ3, S3, y3.tok Tk, ?_⟩⟩
              cases qb : body ρ3 S3 with
              | none => simp [qb] at g1
              | some rb =>
                obtain ⟨f5, ρ5, S5⟩ := rb
                simp only [qb] at g1
                refine ⟨f5, ρ5, S5, rfl, fun F5 μ5 σ5 H5 e5 x5 => ?_⟩
                have s5 : Same F2 F5 := st.f.trans e5
                have live : (if liveAt S5 k ds then loopK k ds t body ((enumL ds).drop (i + 1)) ρ5 S5 else none) = some (f4, ρ4, S4) → ∃ F2 μ2 ρ2 S3, StOk X.K X.w ⟨F1, baseH ρ σ H1, μ1⟩ F2 μ2 ρ2 S3 σ5 H5 ∧ Same F1 F2 ∧ LiveV X.K X.w F2 μ2 S3 a k ds ∧ flowAt X.K X.w W (loopK k ds t body ((enumL ds).drop (i + 1)) ρ2 S3) B F2 En := fun gg => by
                  by_cases la : liveAt S5 k ds
                  · rw [if_pos la] at gg
                    exact ⟨F5, μ5, ρ5, S5, x5, k2.trans s5, ln x5 (k2.trans s5) la, f4, ρ4, S4, gg, fun F6 μ6 σ6 H6 e6 => g2 F6 μ6 σ6 H6 (s5.trans e6)⟩
                  · rw [if_neg la] at gg; cases gg
                cases f5 with
                | nx => exact live g1
                | ct => exact live g1
                | bk => cases g1; exact g2 F5 μ5 σ5 H5 s5 (y.unbase x5)
                | rt r => cases g1; exact g2 F5 μ5 σ5 H5 s5 (y.unbase x5)
                | ex c fs => cases g1; exact g2 F5 μ5 σ5 H5 s5 (y.unbase x5)
          · rintro τ Hh ⟨F2, μ2, ρ2, S3, k1, k2, k3, k4⟩
            rw [← hlen, List.drop_length] at k4
            exact k4.nx (y.unbase k1)
end MM
namespace MM
open PySem PySem.Spec PyProof.Rows L2
/-! ### o.pop(i) -/
def popAtD (i : R) (ds : List D) : Option (D × List D) := match i with
  | .d (.int k) => if -(2 ^ 62) ≤ k ∧ k < 2 ^ 62 then match ixN ds.length k with
    | some j => match ds[j]? with
      | some x => some (x, ds.eraseIdx j)
      | none => none
    | none => none
    else none
  | _ => none
def popAtM (mo mi : EM) : SM := thenM (lstR mo) fun o => thenM mi fun i => mutL o fun ds => (popAtD i ds).map (·.2)
/-- as a value, of a list in a cell -/
def popC (o i : R) : EM := fun _ S => match o with
  | .loc n => match S[n]? with
    | some (.lst ds) => match popAtD i ds with
      | some (x, es) => some (.ok (.d x), S.set n (.lst es))
      | none => none
    | _ => none
  | _ => none
def popE (mo mi : EM) : EM := bindM (lstR mo) fun o => bindM mi fun i => popC o i

theorem popAt_ok {K : PySem.W.Frag} {w : World} {F : Hp} {μ : List Addr} {σ : L2.St} {i : R} {ds es : List D} {x : D} {xs : List V} {v : V} (h : popAtD i ds = some (x, es)) (hi : RepR K w F μ σ i v) (ra : RepAll K w F ds xs) :
    ∃ (k : Int) (j : Nat) (y : V), v = .int k ∧ -(2 ^ 63) ≤ k ∧ k < 2 ^ 63 ∧ seqIndex? k xs.length = some j ∧ xs[j]? = some y ∧ Rep K w F x y ∧ RepAll K w F es (xs.eraseIdx j) := by
  unfold popAtD at h
  split at h
  · rename_i k
    by_cases c : -(2 ^ 62) ≤ k ∧ k < 2 ^ 62
    · rw [if_pos c] at h
      cases q : ixN ds.length k with
      | none => simp [q] at h
      | some j =>
        cases q2 : ds[j]? with
        | none => simp [q, q2] at h
        | some y =>
          simp only [q, q2, Option.some.injEq, Prod.mk.injEq] at h
          obtain ⟨rfl, rfl⟩ := h
          cases hi
          obtain ⟨u, h1, h2⟩ := ra.get q2
          exact ⟨k, j, u, rfl, by omega, by omega, by rw [← ra.length]; exact (ixN_seq q).1, h1, h2, ra.eraseIdx j⟩
    · rw [if_neg c] at h; cases h
  · cases h
section
variable {X : Cx} {W : WX} {o i : Expr} {mo mi : EM} {pos apos cpos : Pos}
theorem ms_popAt (ho : ME X W o mo) (hi : ME X W i mi) (hbase : attributeBase o "pop" X.env (eval o X.env) = eval o X.env := by rfl)
    (hfew : ((backTo cpos (starEach [i] X.env)).all (fun x => !x.1) && (backToKw cpos (keywordEach [] X.env)).all (fun x => x.1.isSome) && decide ([i].length + ([] : List Keyword).length + (if ([] : List Keyword).isEmpty then 0 else 1) < 30)) = true := by rfl)
    (hline : (apos.endLine == cpos.line) = true := by rfl) (hs : starEach [i] X.env = (false, eval i X.env) :: starEach [] X.env := by rfl) (hplain : (backTo cpos (starEach [] X.env)).any (·.1) = false := by rfl)
    (hsw : swapsWith (.Call (.Attribute o "pop" apos) [i] [] cpos) none pos.line X.env = pure false := by rfl) : MS X W (.Expr (.Call (.Attribute o "pop" apos) [i] [] cpos) pos) (popAtM mo mi) :=
  PS.imp (ps_expr (pe_bm PySem.F.plainAttrs_list PySem.F.slot_list_pop PySem.F.type_list_pop mt_popAt ho (pa_cons hi pa_nil hs) hbase hfew hline hs hplain) hsw) fun En σ H h => by
    refine isLst_ok (flow_then2 (Rb := fun σ F μ => RepR X.K X.w F μ σ) h |>.imp fun x H1 h => ?_)
    exact core.imp h fun y H2 ⟨a, b, B, F, μ, ρ, S, h1, h2, h3, h4⟩ => by
      obtain ⟨p, xs, ds, es, rfl, hx, ra, hf, k⟩ := flow_mutL h1 h2 h4
      obtain ⟨⟨z, es'⟩, hp, rfl⟩ := Option.map_eq_some_iff.mp hf
      obtain ⟨kk, j, v, rfl, g1, g2, g3, g4, g5, g6⟩ := popAt_ok hp h3 ra
      exact ⟨p, xs, kk, j, v, rfl, rfl, hx, g1, g2, g3, g4, k _ g6⟩
theorem me_popAt (ho : ME X W o mo) (hi : ME X W i mi) (hbase : attributeBase o "pop" X.env (eval o X.env) = eval o X.env := by rfl)
    (hfew : ((backTo cpos (starEach [i] X.env)).all (fun x => !x.1) && (backToKw cpos (keywordEach [] X.env)).all (fun x => x.1.isSome) && decide ([i].length + ([] : List Keyword).length + (if ([] : List Keyword).isEmpty then 0 else 1) < 30)) = true := by rfl)
    (hline : (apos.endLine == cpos.line) = true := by rfl) (hs : starEach [i] X.env = (false, eval i X.env) :: starEach [] X.env := by rfl) (hplain : (backTo cpos (starEach [] X.env)).any (·.1) = false := by rfl) :
    ME X W (.Call (.Attribute o "pop" apos) [i] [] cpos) (popE mo mi) :=
  PE.imp (pe_bm PySem.F.plainAttrs_list PySem.F.slot_list_pop PySem.F.type_list_pop mt_popAt ho (pa_cons hi pa_nil hs) hbase hfew hline hs hplain) fun σ H Q h => by
    refine isLst_ok ((core_bin (Ra := fun σ F μ => RepR X.K X.w F μ σ) (Rb := fun σ F μ => RepR X.K X.w F μ σ) monoR h).imp fun x H1 h => ?_)
    exact core.imp h fun y H2 ⟨a, b, F, μ, ρ, S, h1, h2, h3, h4, h5⟩ => by
      unfold popC at h5
      cases a with
      | d z => exact h5.none_
      | slot n => exact h5.none_
      | loc n =>
        simp only at h5
        cases q : S[n]? with
        | none => simp only [q] at h5; exact h5.none_
        | some c =>
          cases c with
          | lst ds =>
            simp only [q] at h5
            cases q2 : popAtD b ds with
            | none => simp only [q2] at h5; exact h5.none_
            | some r =>
              obtain ⟨z, es⟩ := r
              simp only [q2] at h5
              obtain ⟨p, hp, rfl⟩ := h3
              obtain ⟨hF, xs, hx, ra⟩ := h1.cell n p _ hp q
              obtain ⟨kk, j, v, rfl, g1, g2, g3, g4, g5, g6⟩ := popAt_ok q2 h4 ra
              exact ⟨p, xs, kk, j, v, rfl, rfl, hx, g1, g2, g3, g4, h5.ok (Grow.put _ hp) (h1.put hp hF ⟨hF, _, upd_same, g6⟩) g5⟩
          | _ => simp only [q] at h5; exact h5.none_
end
end MM
namespace MM
open PySem PySem.Spec PyProof.Rows L2
section
variable {α β : Type} {ρ : Fr} {S : Sto} {m n : SM} {me mf mg : EM} {t u : TM} {ms : AM} {x y : D} {i j : Nat}
@[simp] theorem bindM_ap {e : GM α} {f : α → GM β} : bindM e f ρ S = match e ρ S with
  | none => none
  | some (.ex c fs, S') => some (.ex c fs, S')
  | some (.ok a, S') => f a ρ S' := rfl
@[simp] theorem thenM_ap {e : GM α} {f : α → SM} : thenM e f ρ S = match e ρ S with
  | none => none
  | some (.ex c fs, S') => some (.ex c fs, ρ, S')
  | some (.ok a, S') => f a ρ S' := rfl
@[simp] theorem varM_ap : varM i ρ S = match ρ[i]? with
  | some (some (.r x)) => some (.ok x, S)
  | some (some (.own _)) => some (.ok (.slot i), S)
  | _ => none := rfl
@[simp] theorem litM_ap : litM x ρ S = some (.ok (.d x), S) := rfl
@[simp] theorem nxM_ap : nxM ρ S = some (.nx, ρ, S) := rfl
@[simp] theorem seqM_ap : seqM m n ρ S = match m ρ S with
  | some (.nx, ρ', S') => n ρ' S'
  | r => r := rfl
@[simp] theorem setR_ap {r : R} : setR i r ρ S = if closedR r = true ∧ i < ρ.length then some (.nx, ρ.set i (some (.r r)), S) else none := rfl
@[simp] theorem setM_ap : setM i me ρ S = thenM me (setR i) ρ S := rfl
@[simp] theorem dropM_ap : dropM me ρ S = thenM me (fun _ => nxM) ρ S := rfl
@[simp] theorem retM_ap : retM me ρ S = thenM me (fun r ρ S => some (.rt r, ρ, S)) ρ S := rfl
@[simp] theorem retNM_ap : retNM ρ S = some (.rt (.d .non), ρ, S) := rfl
@[simp] theorem ifM_ap : ifM t m n ρ S = thenM t (fun b => if b = true then m else n) ρ S := rfl
@[simp] theorem brkM_ap : brkM ρ S = some (.bk, ρ, S) := rfl
@[simp] theorem cntM_ap : cntM ρ S = some (.ct, ρ, S) := rfl
@[simp] theorem closedR_d : closedR (.d x) = true := rfl
@[simp] theorem closedR_loc : closedR (.loc i) = true := rfl
@[simp] theorem closedRs_nil : closedRs [] = true := rfl
@[simp] theorem closedRs_cons {r : R} {rs : List R} : closedRs (r :: rs) = (closedR r && closedRs rs) := rfl
@[simp] theorem peek_d : peek ρ S (.d x) = some x := rfl
@[simp] theorem peek_loc : peek ρ S (.loc i) = match S[i]? with
  | some c => cellD c
  | none => none := rfl
@[simp] theorem peek_slot : peek ρ S (.slot i) = match ρ[i]? with
  | some (some (.own c)) => cellD c
  | _ => none := rfl
@[simp] theorem cellD_lst {ds : List D} : cellD (.lst ds) = some (.lst ds) := rfl
@[simp] theorem cellD_frz : cellD (.frz x) = some x := rfl
@[simp] theorem cellD_dic {ds : List (D × D)} : cellD (.dic ds) = some (.dic ds) := rfl
@[simp] theorem cellD_dit {ds : List (D × D)} : cellD (.dit ds) = some (.dit ds) := rfl
@[simp] theorem peeks_nil : peeks ρ S [] = some [] := rfl
@[simp] theorem peeks_cons {r : R} {rs : List R} : peeks ρ S (r :: rs) = match peek ρ S r, peeks ρ S rs with
  | some d, some ds => some (d :: ds)
  | _, _ => none := rfl
@[simp] theorem ret1_ap {f : D → Option D} {a : R} : ret1 f a ρ S = match peek ρ S a with
  | some d => match f d with
    | some g => some (.ok (.d g), S)
    | none => none
  | none => none := rfl
@[simp] theorem ret2_ap {f : D → D → Option D} {a b : R} : ret2 f a b ρ S = match peek ρ S a, peek ρ S b with
  | some d, some e => match f d e with
    | some g => some (.ok (.d g), S)
    | none => none
  | _, _ => none := rfl
@[simp] theorem retN_ap {f : List D → Option D} {as : List R} : retN f as ρ S = match peeks ρ S as with
  | some ds => match f ds with
    | some g => some (.ok (.d g), S)
    | none => none
  | none => none := rfl
@[simp] theorem retO_ap {f : D → List D → Option D} {a : R} {as : List R} : retO f a as ρ S = match peek ρ S a, peeks ρ S as with
  | some d, some ds => match f d ds with
    | some g => some (.ok (.d g), S)
    | none => none
  | _, _ => none := rfl
@[simp] theorem op1M_ap {f : D → Option D} : op1M f me ρ S = bindM me (ret1 f) ρ S := rfl
@[simp] theorem negM_ap : negM me ρ S = bindM me (ret1 negD) ρ S := rfl
@[simp] theorem op2M_ap {f : D → D → Option D} : op2M f me mf ρ S = bindM me (fun a => bindM mf fun b => ret2 f a b) ρ S := rfl
@[simp] theorem callM_ap {f : List D → Option D} : callM f ms ρ S = bindM ms (retN f) ρ S := rfl
@[simp] theorem methM_ap {f : D → List D → Option D} : methM f me ms ρ S = bindM me (fun o => bindM ms fun as => retO f o as) ρ S := rfl
@[simp] theorem nilA_ap : nilA ρ S = some (.ok [], S) := rfl
@[simp] theorem consA_ap : consA me ms ρ S = bindM me (fun a => bindM ms fun as => fun _ S => some (.ok (a :: as), S)) ρ S := rfl
@[simp] theorem dsOf_nil : dsOf [] = some [] := rfl
@[simp] theorem dsOf_cons {r : List R} : dsOf (.d x :: r) = (dsOf r).map (x :: ·) := rfl
@[simp] theorem mkTup_ap {as : List R} : mkTup as ρ S = match dsOf as with
  | some ds => if ds.length ≤ sizeLine then some (.ok (.d (.tup ds)), S) else none
  | none => none := rfl
@[simp] theorem mkLst_ap {as : List R} : mkLst as ρ S = match dsOf as with
  | some ds => if ds.length ≤ sizeLine then some (.ok (.d (.lst ds)), S) else none
  | none => none := rfl
@[simp] theorem tupM_ap : tupM ms ρ S = bindM ms mkTup ρ S := rfl
@[simp] theorem lstM_ap : lstM ms ρ S = bindM ms mkLst ρ S := rfl
@[simp] theorem newR_ap : newR ms ρ S = bindM ms (fun as _ S => match dsOf as with
  | some ds => if ds.length ≤ sizeLine then some (.ok ds, S) else none
  | none => none) ρ S := rfl
@[simp] theorem newLM_ap : newLM ms ρ S = bindM ms newLR ρ S := rfl
@[simp] theorem newLR_ap {as : List R} : newLR as ρ S = match peeks ρ S as with
  | some ds => match listF ds with
    | some (.lst es) => some (.ok es, S)
    | _ => none
  | none => none := rfl
@[simp] theorem catR_ap {a b : R} : catR a b ρ S = match peek ρ S a, peek ρ S b with
  | some (.lst x), some (.lst y) => if x.length + y.length ≤ sizeLine then some (.ok (x ++ y), S) else none
  | _, _ => none := rfl
@[simp] theorem catM_ap : catM me mf ρ S = bindM me (fun a => bindM mf fun b => catR a b) ρ S := rfl
@[simp] theorem splitR_ap {o : R} {as : List R} : splitR o as ρ S = match peek ρ S o, peeks ρ S as with
  | some d, some ds => match splitF d ds with
    | some (.lst es) => some (.ok es, S)
    | _ => none
  | _, _ => none := rfl
@[simp] theorem splitM_ap : splitM me ms ρ S = bindM (strR me) (fun o => bindM ms fun as => splitR o as) ρ S := rfl
@[simp] theorem tstB_ap {a : R} : tstB a ρ S = match a with
  | .d (.bl b) => some (.ok b, S)
  | _ => none := rfl
@[simp] theorem tstT_ap {a : R} : tstT a ρ S = match peek ρ S a with
  | some d => match truB d with
    | some b => some (.ok b, S)
    | none => none
  | none => none := rfl
@[simp] theorem bT_ap : bT me ρ S = bindM me tstB ρ S := rfl
@[simp] theorem truM_ap : truM me ρ S = bindM me tstT ρ S := rfl
@[simp] theorem notT_ap : notT t ρ S = bindM t (fun b _ S => some (.ok (!b), S)) ρ S := rfl
@[simp] theorem andT_ap : andT t u ρ S = bindM t (fun b => if b = true then u else fun _ S => some (.ok false, S)) ρ S := rfl
@[simp] theorem orT_ap : orT t u ρ S = bindM t (fun b => if b = true then fun _ S => some (.ok true, S) else u) ρ S := rfl
@[simp] theorem notV_ap : notV me ρ S = bindM (bT me) (fun b => litM (.bl (!b))) ρ S := rfl
@[simp] theorem andV_ap : andV me mf ρ S = bindM (bT me) (fun b => if b = true then mf else litM (.bl false)) ρ S := rfl
@[simp] theorem orV_ap : orV me mf ρ S = bindM (bT me) (fun b => if b = true then litM (.bl true) else mf) ρ S := rfl
@[simp] theorem ifV_ap : ifV t me mf ρ S = bindM t (fun b => if b = true then me else mf) ρ S := rfl
@[simp] theorem ite_ap {p : Prop} [Decidable p] {f g : Fr → Sto → α} : (if p then f else g) ρ S = if p then f ρ S else g ρ S := by split <;> rfl
@[simp] theorem noP_ap : noP ρ S = some (.ok none, S) := rfl
@[simp] theorem partR_ap {a : R} : partR a ρ S = match a with
  | .d (.int i) => some (.ok (some i), S)
  | _ => none := rfl
@[simp] theorem partM_ap : partM me ρ S = bindM me partR ρ S := rfl
@[simp] theorem retS_ap {a : R} {lo hi : Option Int} : retS a lo hi ρ S = match peek ρ S a with
  | some d => match slD d lo hi with
    | some g => some (.ok (.d g), S)
    | none => none
  | none => none := rfl
@[simp] theorem slM_ap {ml mh : OM} : slM me ml mh ρ S = bindM me (fun a => bindM ml fun l => bindM mh fun h => retS a l h) ρ S := rfl
@[simp] theorem chainM_ap {f g : D → D → Option D} : chainM f g me mf mg ρ S = bindM me (fun a => bindM mf fun b => bindM (bT (ret2 f a b)) fun k => if k = true then bindM mg fun c => ret2 g b c else litM (.bl false)) ρ S := rfl
@[simp] theorem cellAt_slot : cellAt ρ S (.slot i) = match ρ[i]? with
  | some (some (.own c)) => some c
  | _ => none := rfl
@[simp] theorem cellAt_loc : cellAt ρ S (.loc i) = S[i]? := rfl
@[simp] theorem cellAt_d : cellAt ρ S (.d x) = none := rfl
@[simp] theorem putFr_slot {c : Cell} : putFr ρ (.slot i) c = ρ.set i (some (.own c)) := rfl
@[simp] theorem putFr_loc {c : Cell} : putFr ρ (.loc i) c = ρ := rfl
@[simp] theorem putSto_slot {c : Cell} : putSto S (.slot i) c = S := rfl
@[simp] theorem putSto_loc {c : Cell} : putSto S (.loc i) c = S.set i c := rfl
@[simp] theorem mutL_ap {r : R} {f : List D → Option (List D)} : mutL r f ρ S = match cellAt ρ S r with
  | some (.lst ds) => match f ds with
    | some es => some (.nx, putFr ρ r (.lst es), putSto S r (.lst es))
    | none => none
  | _ => none := rfl
@[simp] theorem isLst_ap {r : R} : isLst r ρ S = match cellAt ρ S r with
  | some (.lst _) => some (.ok r, S)
  | _ => none := rfl
@[simp] theorem lstR_ap : lstR me ρ S = bindM me isLst ρ S := rfl
@[simp] theorem appM_ap : appM me mf ρ S = thenM (lstR me) (fun o => thenM mf fun a => mutL o (appD a)) ρ S := rfl
@[simp] theorem setIxM_ap : setIxM me mf mg ρ S = thenM me (fun a => thenM mf fun o => thenM mg fun i => mutL o (setD i a)) ρ S := rfl
@[simp] theorem popM_ap : popM me ρ S = thenM (lstR me) (fun o => mutL o popD) ρ S := rfl
@[simp] theorem insM_ap : insM me mf mg ρ S = thenM (lstR me) (fun o => thenM mf fun i => thenM mg fun a => mutL o (insD i a)) ρ S := rfl
@[simp] theorem ofNew_ap {e : NM} : ofNew e ρ S = bindM e (fun ds => litM (.lst ds)) ρ S := rfl
@[simp] theorem ownM_ap {e : NM} : ownM i e ρ S = thenM e (fun ds ρ S => if i < ρ.length then some (.nx, ρ.set i (some (.own (.lst ds))), S) else none) ρ S := rfl
@[simp] theorem locOf_ap {e : NM} : locOf e ρ S = match e ρ S with
  | some (.ok ds, S') => some (.ok (.loc S'.length), S' ++ [.lst ds])
  | some (.ex c fs, S') => some (.ex c fs, S')
  | none => none := rfl
@[simp] theorem seqR_ap {r : R} : seqR r ρ S = match r with
  | .d (.lst ds) => some (.ok ds, S)
  | .d (.tup ds) => some (.ok ds, S)
  | _ => none := rfl
@[simp] theorem iSeqM_ap : iSeqM me ρ S = bindM me seqR ρ S := rfl
@[simp] theorem rng1R_ap {as : List R} : rng1R as ρ S = match as with
  | [.d (.int j)] => if -(2 ^ 62) ≤ j ∧ j < 2 ^ 62 then some (.ok (rngL 0 j.toNat), S) else none
  | _ => none := rfl
@[simp] theorem iRng1M_ap : iRng1M ms ρ S = bindM ms rng1R ρ S := rfl
@[simp] theorem rng2R_ap {as : List R} : rng2R as ρ S = match as with
  | [.d (.int i), .d (.int j)] => if -(2 ^ 62) ≤ i ∧ i < 2 ^ 62 ∧ -(2 ^ 62) ≤ j ∧ j < 2 ^ 62 then some (.ok (rngL i (j - i).toNat), S) else none
  | _ => none := rfl
@[simp] theorem iRng2M_ap : iRng2M ms ρ S = bindM ms rng2R ρ S := rfl
@[simp] theorem enumR_ap {as : List R} : enumR as ρ S = match as with
  | [.d (.lst ds)] => some (.ok (enumL ds), S)
  | _ => none := rfl
@[simp] theorem iEnumM_ap : iEnumM ms ρ S = bindM ms enumR ρ S := rfl
@[simp] theorem zipR_ap {as : List R} : zipR as ρ S = match as with
  | [.d (.lst ds), .d (.lst es)] => some (.ok (zipL ds es), S)
  | [.d (.tup ds), .d (.tup es)] => some (.ok (zipL ds es), S)
  | _ => none := rfl
@[simp] theorem iZipM_ap : iZipM ms ρ S = bindM ms zipR ρ S := rfl
@[simp] theorem nameT_ap : nameT i x ρ = if i < ρ.length then some (ρ.set i (some (.r (.d x)))) else none := rfl
@[simp] theorem tgs_nil : tgs [] [] ρ = some ρ := rfl
@[simp] theorem tgs_cons {tt : TgM} {ts : List TgM} {ds : List D} : tgs (tt :: ts) (x :: ds) ρ = (tt x ρ).bind (tgs ts ds) := rfl
@[simp] theorem tupT_ap {ts : List TgM} : tupT ts x ρ = match x with
  | .tup ds => tgs ts ds ρ
  | _ => none := rfl
@[simp] theorem asgM_ap {tt : TgM} : asgM me tt ρ S = thenM me (fun r ρ S => match r with
  | .d d => match tt d ρ with
    | some ρ1 => some (.nx, ρ1, S)
    | none => none
  | _ => none) ρ S := rfl
@[simp] theorem forM_ap {e : NM} {tt : TgM} : forM e tt m ρ S = thenM e (loopM tt m) ρ S := rfl
@[simp] theorem loopM_nil {tt : TgM} : loopM tt m [] ρ S = some (.nx, ρ, S) := rfl
theorem loopM_cons {tt : TgM} {ds : List D} : loopM tt m (x :: ds) ρ S = match tt x ρ with
    | none => none
    | some ρ1 => match m ρ1 S with
      | some (.nx, ρ2, S2) => loopM tt m ds ρ2 S2
      | some (.ct, ρ2, S2) => loopM tt m ds ρ2 S2
      | some (.bk, ρ2, S2) => some (.nx, ρ2, S2)
      | some (.rt r, ρ2, S2) => some (.rt r, ρ2, S2)
      | some (.ex c fs, ρ2, S2) => some (.ex c fs, ρ2, S2)
      | none => none := rfl
@[simp] theorem lcM_ap {e : NM} {vs : List Nat} {tt : TgM} : lcM e vs tt t me ρ S = bindM e (fun ds => lcL vs tt t me ds []) ρ S := rfl
@[simp] theorem lcL_nil {vs : List Nat} {tt : TgM} {acc : List D} : lcL vs tt t me [] acc ρ S = some (.ok acc, S) := rfl
theorem lcL_cons {vs : List Nat} {tt : TgM} {acc ds : List D} : lcL vs tt t me (x :: ds) acc ρ S = match tt x (wipeF ρ vs) with
    | none => none
    | some ρ1 => match t ρ1 S with
      | some (.ok false, S1) => lcL vs tt t me ds acc ρ S1
      | some (.ok true, S1) => match me ρ1 S1 with
        | some (.ok (.d x), S2) => if acc.length < sizeLine then lcL vs tt t me ds (acc ++ [x]) ρ S2 else none
        | _ => none
      | _ => none := rfl
@[simp] theorem wipeF_nil : wipeF ρ [] = ρ := rfl
@[simp] theorem wipeF_cons {vs : List Nat} : wipeF ρ (i :: vs) = (wipeF ρ vs).set i none := rfl
@[simp] theorem yesT_ap : yesT ρ S = some (.ok true, S) := rfl
@[simp] theorem callN_ap {k : Nat} {f : FM} : callN k f ms ρ S = bindM ms (fun as => fun ρ S => if as.length = k then appF f as ρ S else none) ρ S := rfl
@[simp] theorem appF_ap {f : FM} {rs : List R} : appF f rs ρ S = if closedRs rs = true then f rs S else none := rfl
@[simp] theorem call0_ap {f : FM} : call0 f ρ S = match f [] S with
  | some (.ok r, S') => some (.ok r, S')
  | _ => none := rfl
@[simp] theorem frzM_ap : frzM me ρ S = bindM me frzR ρ S := rfl
@[simp] theorem frzR_d : frzR (.d x) ρ S = some (.ok (.d x), S) := rfl
@[simp] theorem frzR_loc : frzR (.loc i) ρ S = match S[i]? with
    | some (.frz x) => some (.ok (.d x), S)
    | some (.ins C fs) => match frzFs fs S with
      | some (gs, S') => some (.ok (.d (.obj C gs)), S'.set i (.frz (.obj C gs)))
      | none => none
    | some c => match frzCell c with
      | some d => some (.ok (.d d), S.set i (.frz d))
      | none => none
    | none => none := rfl
@[simp] theorem frzFs_nil : frzFs [] S = some ([], S) := rfl
@[simp] theorem frzFs_d {z : Str} {r : List (Str × R)} : frzFs ((z, .d x) :: r) S = (frzFs r S).map fun p => ((z, x) :: p.1, p.2) := rfl
@[simp] theorem frzCell_lst {ds : List D} : frzCell (.lst ds) = some (.lst ds) := rfl
@[simp] theorem frzS_ap : frzS i ρ S = match ρ[i]? with
  | some (some (.own c)) => match frzCell c with
    | some d => some (.nx, ρ.set i (some (.r (.d d))), S)
    | none => none
  | some (some (.r (.loc n))) => match frzR (.loc n) ρ S with
    | some (.ok y, S') => some (.nx, ρ.set i (some (.r y)), S')
    | _ => none
  | _ => none := rfl
@[simp] theorem thruM_ap : thruM m ρ S = match m ρ S with
  | some (.ex _ _, _, _) => none
  | r => r := rfl
@[simp] theorem isStrR_ap {r : R} : isStrR r ρ S = match r with
  | .d (.str x) => some (.ok (.d (.str x)), S)
  | _ => none := rfl
@[simp] theorem strR_ap : strR me ρ S = bindM me isStrR ρ S := rfl
@[simp] theorem fmtR_ap {r : R} : fmtR r ρ S = match r with
  | .d (.str y) => if y.length ≤ sizeLine then some (.ok (.d (.str y)), S) else none
  | .d (.int i) => if i.natAbs.log2 < 1920 then some (.ok (.d (.str (toString i))), S) else none
  | _ => none := rfl
@[simp] theorem fmtM_ap : fmtM me ρ S = bindM me fmtR ρ S := rfl
@[simp] theorem jsM_nil {acc : Str} : jsM [] acc ρ S = some (.ok (.d (.str acc)), S) := rfl
@[simp] theorem jsM_cons {ts : List EM} {acc : Str} : jsM (me :: ts) acc ρ S = match me ρ S with
  | none => none
  | some (.ex c fs, S') => some (.ex c fs, S')
  | some (.ok (.d (.str y)), S') => if (acc ++ y).length ≤ sizeLine then jsM ts (acc ++ y) ρ S' else none
  | some (.ok _, _) => none := by
  show bindM me _ ρ S = _
  rw [bindM_ap]
  cases h : me ρ S with
  | none => rfl
  | some p =>
    obtain ⟨o, S'⟩ := p
    cases o with
    | ex c fs => rfl
    | ok a =>
      cases a with
      | d d => cases d <;> rfl
      | loc n => rfl
      | slot n => rfl
@[simp] theorem makeM_ap {C : Str} {k : Nat} {f : FM} : makeM C k f ms ρ S = bindM ms (fun as => fun _ S => if closedRs as = true ∧ as.length + 1 = k then
    match f (.loc S.length :: as) (S ++ [.ins C []]) with
    | some (.ok (.d .non), S') => some (.ok (.loc S.length), S')
    | some (.ex c fs, S') => some (.ex c fs, S')
    | _ => none
  else none) ρ S := rfl
@[simp] theorem getFld_obj {C f E : Str} {fs : List (Str × D)} : getFld C f (.d (.obj E fs)) S = if E = C then (fs.lookup f).map .d else none := rfl
@[simp] theorem getFld_loc {C f : Str} : getFld C f (.loc i) S = match S[i]? with
    | some (.ins D fs) => if D = C then fs.lookup f else none
    | some (.frz (.obj D fs)) => if D = C then (fs.lookup f).map .d else none
    | _ => none := rfl
@[simp] theorem fldR_ap {C f : Str} {r : R} : fldR C f r ρ S = match getFld C f r S with
  | some x => if closedR x = true then some (.ok x, S) else none
  | none => none := rfl
@[simp] theorem fldM_ap {C f : Str} : fldM C f me ρ S = bindM me (fldR C f) ρ S := rfl
@[simp] theorem putFM_loc {C f : Str} {a : R} : putFM C f a (.loc i) ρ S = match S[i]? with
    | some (.ins D fs) => if D = C ∧ fs.length < 1000 ∧ closedR a = true then some (.nx, ρ, S.set i (.ins D (putR f a fs))) else none
    | _ => none := rfl
@[simp] theorem sfldM_ap {C f : Str} : sfldM C f me mf ρ S = thenM me (fun a => thenM mf fun o => putFM C f a o) ρ S := rfl
@[simp] theorem raiseM_ap {C : Str} : raiseM C ρ S = some (.ex C [], ρ, S) := rfl
@[simp] theorem finM_t {k : Nat} {r : R} : finM true k r S = if closedR r = true then some (.ok r, S) else none := rfl
@[simp] theorem finM_f {k : Nat} : finM false k (.d x) S = if ((S.take k).all (cellLoc k)) = true then some (.ok (.d x), S.take k) else none := rfl
@[simp] theorem raise1R_ap {c f : Str} {r : R} : raise1R c f r ρ S = match r with
  | .d x => some (.ex c [(f, x)], ρ, S)
  | _ => none := rfl
@[simp] theorem raise1M_ap {c f : Str} : raise1M c f me ρ S = thenM me (raise1R c f) ρ S := rfl
@[simp] theorem finX_t {k : Nat} {c : Str} {fs : List (Str × D)} : finX true k c fs S = some (.ex c fs, S) := rfl
@[simp] theorem forX_ap {tt : TgM} : forX ms tt m ρ S = thenM ms (enumX tt m) ρ S := rfl
@[simp] theorem enumX_tup {tt : TgM} {ds : List D} : enumX tt m [.d (.tup ds)] ρ S = loopM tt m (enumL ds) ρ S := rfl
theorem loopK_none {tt : TgM} {ds0 : List D} : ∀ (ds : List D) (ρ : Fr) (S : Sto), loopK none ds0 tt m ds ρ S = loopM tt m ds ρ S
  | [], _, _ => rfl
  | d :: ds, ρ, S => by
    have ih : ∀ ρ S, loopK none ds0 tt m ds ρ S = loopM tt m ds ρ S := fun ρ S => loopK_none ds ρ S
    unfold loopK
    rw [loopM_cons]
    cases h : tt d ρ with
    | none => rfl
    | some ρ1 =>
      cases h2 : m ρ1 S with
      | none => simp only [h2]
      | some r =>
        obtain ⟨fl, ρ2, S2⟩ := r
        have lt : liveAt S2 none ds0 := trivial
        cases fl <;> simp only [h2, lt, if_true, ih]
@[simp] theorem enumX_lst {tt : TgM} {ds : List D} : enumX tt m [.d (.lst ds)] ρ S = loopM tt m (enumL ds) ρ S := loopK_none _ _ _
theorem enumX_loc {tt : TgM} {ds : List D} (h : S[i]? = some (.lst ds)) : enumX tt m [.loc i] ρ S = loopK (some i) ds tt m (enumL ds) ρ S := by
  unfold enumX enumK
  simp [enumT, h]
@[simp] theorem popAtM_ap : popAtM me mf ρ S = thenM (lstR me) (fun o => thenM mf fun i => mutL o fun ds => (popAtD i ds).map (·.2)) ρ S := rfl
@[simp] theorem popC_loc {r : R} : popC (.loc i) r ρ S = match S[i]? with
    | some (.lst ds) => match popAtD r ds with
      | some (x, es) => some (.ok (.d x), S.set i (.lst es))
      | none => none
    | _ => none := rfl
@[simp] theorem popE_ap : popE me mf ρ S = bindM (lstR me) (fun o => bindM mf fun i => popC o i) ρ S := rfl
theorem funM_ap {keep : Bool} {np nl : Nat} {rs : List R} : funM keep np nl m rs S = if rs.length = np ∧ closedRs rs = true then match m (frame0 rs nl) S with
  | some (.nx, _, S') => finM keep S.length (.d .non) S'
  | some (.rt r, _, S') => finM keep S.length r S'
  | some (.ex c fs, _, S') => finX keep S.length c fs S'
  | _ => none
  else none := rfl
theorem methO_ap {C z : Str} {k : Nat} {f : FM} : methO C z k f me ms ρ S = bindM (bindM me (isIns C z)) (fun o => bindM ms fun as => fun ρ S => if as.length + 1 = k then appF f (o :: as) ρ S else none) ρ S := rfl
end
@[simp] theorem addD_int {i j : Int} : addD (.int i) (.int j) = some (.int (i + j)) := rfl
@[simp] theorem addD_lst {a b : List D} : addD (.lst a) (.lst b) = if a.length + b.length ≤ sizeLine then some (.lst (a ++ b)) else none := rfl
@[simp] theorem addD_tup {a b : List D} : addD (.tup a) (.tup b) = if a.length + b.length ≤ sizeLine then some (.tup (a ++ b)) else none := rfl
@[simp] theorem addD_str {a b : Str} : addD (.str a) (.str b) = if a.length + b.length ≤ sizeLine then some (.str (a ++ b)) else none := rfl
@[simp] theorem subD_int {i j : Int} : subD (.int i) (.int j) = some (.int (i - j)) := rfl
@[simp] theorem mulD_int {i j : Int} : mulD (.int i) (.int j) = if CMul i j then some (.int (i * j)) else none := rfl
@[simp] theorem divD_int {i j : Int} : divD (.int i) (.int j) = if CDiv i j then some (.int (i / j)) else none := rfl
@[simp] theorem modD_int {i j : Int} : modD (.int i) (.int j) = if 0 < j then some (.int (i % j)) else none := rfl
@[simp] theorem powD_int {i j : Int} : powD (.int i) (.int j) = if CPow i j then some (.int (i ^ j.toNat)) else none := rfl
@[simp] theorem ltD_int {i j : Int} : ltD (.int i) (.int j) = some (.bl (decide (i < j))) := rfl
@[simp] theorem leD_int {i j : Int} : leD (.int i) (.int j) = some (.bl (decide (i ≤ j))) := rfl
@[simp] theorem gtD_int {i j : Int} : gtD (.int i) (.int j) = some (.bl (decide (j < i))) := rfl
@[simp] theorem geD_int {i j : Int} : geD (.int i) (.int j) = some (.bl (decide (j ≤ i))) := rfl
@[simp] theorem eqB_int {i j : Int} : eqB (.int i) (.int j) = some (decide (i = j)) := by
  have h1 : ∀ k : Int, SeqAt.shaped (.int k) = true := fun _ => rfl
  unfold eqB toPy
  simp only [h1, and_self, if_true]
  show some (i == j) = _
  by_cases h : i = j <;> simp [h]
@[simp] theorem eqD_eq {x y : D} : eqD x y = (eqB x y).map .bl := rfl
@[simp] theorem neD_eq {x y : D} : neD x y = (eqB x y).map fun b => .bl (!b) := rfl
@[simp] theorem inD_eq {x y : D} : inD x y = (inB x y).map .bl := rfl
@[simp] theorem ninD_eq {x y : D} : ninD x y = (inB x y).map fun b => .bl (!b) := rfl
@[simp] theorem isD_non {x : D} : isD x .non = some (.bl (isN x)) := rfl
@[simp] theorem isnD_non {x : D} : isnD x .non = some (.bl (!isN x)) := rfl
@[simp] theorem ixD_lst {ds : List D} {i : Int} : ixD (.lst ds) (.int i) = atI ds i := rfl
@[simp] theorem ixD_tup {ds : List D} {i : Int} : ixD (.tup ds) (.int i) = atI ds i := rfl
@[simp] theorem lenF_lst {ds : List D} : lenF [.lst ds] = some (.int ds.length) := rfl
@[simp] theorem lenF_tup {ds : List D} : lenF [.tup ds] = some (.int ds.length) := rfl
@[simp] theorem lenF_scr {ds : List Int} : lenF [.scr ds] = some (.int ds.length) := rfl
@[simp] theorem intF_int {i : Int} : intF [.int i] = some (.int i) := rfl
@[simp] theorem intF_bl {b : Bool} : intF [.bl b] = some (.int (if b then 1 else 0)) := rfl
@[simp] theorem listF_scr {ds : List Int} : listF [.scr ds] = some (.lst (ds.map .int)) := rfl
@[simp] theorem listF_lst {ds : List D} : listF [.lst ds] = some (.lst ds) := rfl
@[simp] theorem listF_tup {ds : List D} : listF [.tup ds] = some (.lst ds) := rfl
@[simp] theorem tupleF_lst {ds : List D} : tupleF [.lst ds] = some (.tup ds) := rfl
@[simp] theorem tupleF_tup {ds : List D} : tupleF [.tup ds] = some (.tup ds) := rfl
@[simp] theorem setD_int {k : Int} {x : D} {ds : List D} : setD (.d (.int k)) (.d x) ds = (ixN ds.length k).map fun j => ds.set j x := rfl
@[simp] theorem appD_d {x : D} {ds : List D} : appD (.d x) ds = if ds.length < sizeLine then some (ds ++ [x]) else none := rfl
@[simp] theorem truB_bl {b : Bool} : truB (.bl b) = some b := rfl
@[simp] theorem truB_int {i : Int} : truB (.int i) = some (i != 0) := rfl
@[simp] theorem truB_non : truB .non = some false := rfl
@[simp] theorem truB_lst {ds : List D} : truB (.lst ds) = some (!ds.isEmpty) := rfl
@[simp] theorem truB_tup {ds : List D} : truB (.tup ds) = some (!ds.isEmpty) := rfl
@[simp] theorem isN_non : isN .non = true := rfl
@[simp] theorem isN_int {i : Int} : isN (.int i) = false := rfl
@[simp] theorem isN_tup {i : List D} : isN (.tup i) = false := rfl
@[simp] theorem isN_obj {C : Str} {fs : List (Str × D)} : isN (.obj C fs) = false := rfl
@[simp] theorem isCF_obj {C E G : Str} {fs : List (Str × D)} : isCF C [.obj E fs, .gl G] = if E = C ∧ G = C then some (.bl true) else none := rfl
end MM
namespace MM
open PySem PySem.Spec PyProof.Rows L2

/-! ### equality of data -/
mutual
def okD : D → Bool
  | .non => true
  | .bl _ => true
  | .int _ => true
  | .str x => PyData.strOk x
  | .tup ds => okDs ds
  | .lst ds => okDs ds
  | _ => false
def okDs : List D → Bool
  | [] => true
  | d :: ds => okD d && okDs ds
end
mutual
def dpD : D → Nat
  | .tup ds => dpDs ds + 1
  | .lst ds => dpDs ds + 1
  | _ => 0
def dpDs : List D → Nat
  | [] => 0
  | d :: ds => max (dpD d) (dpDs ds)
end
mutual
def pyD : D → PyData
  | .bl b => .bool b
  | .int i => .int i
  | .str x => .str x
  | .tup ds => .tuple (pyDs ds)
  | .lst ds => .list (pyDs ds)
  | _ => .none
def pyDs : List D → List PyData
  | [] => []
  | d :: ds => pyD d :: pyDs ds
end
mutual
theorem toPy_ok : ∀ {d : D}, okD d = true → toPy d = some (pyD d) ∧ (pyD d).canLay0 = true ∧ (pyD d).depth = dpD d
  | .non, _ => ⟨rfl, rfl, rfl⟩
  | .bl _, _ => ⟨rfl, rfl, rfl⟩
  | .int _, _ => ⟨rfl, rfl, rfl⟩
  | .str _, h => ⟨rfl, h, rfl⟩
  | .tup ds, h => by
    obtain ⟨h1, h2, h3⟩ := toPys_ok (ds := ds) h
    refine ⟨?_, h2, ?_⟩
    · unfold toPy; rw [h1]; rfl
    · show PyData.depthAll (pyDs ds) + 1 = _; rw [h3]; rfl
  | .lst ds, h => by
    obtain ⟨h1, h2, h3⟩ := toPys_ok (ds := ds) h
    refine ⟨?_, h2, ?_⟩
    · unfold toPy; rw [h1]; rfl
    · show PyData.depthAll (pyDs ds) + 1 = _; rw [h3]; rfl
  | .dic _, h => by cases h
  | .dit _, h => by cases h
  | .obj _ _, h => by cases h
  | .gl _, h => by cases h
  | .scr _, h => by cases h
  | .ty _, h => by cases h
theorem toPys_ok : ∀ {ds : List D}, okDs ds = true → toPys ds = some (pyDs ds) ∧ PyData.canLayAll0 (pyDs ds) = true ∧ PyData.depthAll (pyDs ds) = dpDs ds
  | [], _ => ⟨rfl, rfl, rfl⟩
  | d :: ds, h => by
    have h' : (okD d && okDs ds) = true := h
    rw [Bool.and_eq_true] at h'
    obtain ⟨a1, a2, a3⟩ := toPy_ok h'.1
    obtain ⟨b1, b2, b3⟩ := toPys_ok h'.2
    refine ⟨?_, ?_, ?_⟩
    · unfold toPys; rw [a1, b1]; rfl
    · show (PyData.canLay0 (pyD d) && PyData.canLayAll0 (pyDs ds)) = true; rw [a2, b2]; rfl
    · show max (PyData.depth (pyD d)) (PyData.depthAll (pyDs ds)) = _; rw [a3, b3]; rfl
end
def eqvD (x y : D) : Bool := PyData.eqv (pyD x) (pyD y)
def eqvDs (x y : List D) : Bool := PyData.eqvAll (pyDs x) (pyDs y)
theorem shaped_ok {d : D} (h : okD d = true) (k : dpD d ≤ 64) : SeqAt.shaped (pyD d) = true := by
  obtain ⟨_, h2, h3⟩ := toPy_ok h
  show (PyData.canLay0 (pyD d) && decide (PyData.depth (pyD d) ≤ 64)) = true
  rw [h2, h3]
  exact decide_eq_true k
theorem eqB_ok {x y : D} (h1 : okD x = true) (h2 : okD y = true) (k1 : dpD x ≤ 64) (k2 : dpD y ≤ 64) : eqB x y = some (eqvD x y) := by
  unfold eqB
  rw [(toPy_ok h1).1, (toPy_ok h2).1]
  simp only [shaped_ok h1 k1, shaped_ok h2 k2, and_self, if_true]
  rfl
mutual
theorem eqv_refl : ∀ p : PyData, p.canLay0 = true → PyData.eqv p p = true
  | .none, _ => rfl
  | .bool b, _ => by simp [PyData.eqv]
  | .int i, _ => by simp [PyData.eqv]
  | .str x, _ => by simp [PyData.eqv]
  | .list xs, h => eqvAll_refl xs h
  | .tuple xs, h => eqvAll_refl xs h
  | .dict _, h => by cases h
theorem eqvAll_refl : ∀ ps : List PyData, PyData.canLayAll0 ps = true → PyData.eqvAll ps ps = true
  | [], _ => rfl
  | p :: ps, h => by
    have h' : (PyData.canLay0 p && PyData.canLayAll0 ps) = true := h
    rw [Bool.and_eq_true] at h'
    show (PyData.eqv p p && PyData.eqvAll ps ps) = true
    rw [eqv_refl p h'.1, eqvAll_refl ps h'.2]; rfl
end
theorem eqvD_refl {x : D} (h : okD x = true) : eqvD x x = true := eqv_refl _ (toPy_ok h).2.1
theorem eqB_self {x : D} (h : okD x = true) (k : dpD x ≤ 64) : eqB x x = some true := by rw [eqB_ok h h k k, eqvD_refl h]
@[simp] theorem eqvD_str {a b : Str} : eqvD (.str a) (.str b) = (a == b) := rfl
@[simp] theorem eqvD_int {a b : Int} : eqvD (.int a) (.int b) = (a == b) := rfl
@[simp] theorem eqvD_bl {a b : Bool} : eqvD (.bl a) (.bl b) = (a == b) := rfl
@[simp] theorem eqvD_non : eqvD .non .non = true := rfl
@[simp] theorem eqvD_tup {a b : List D} : eqvD (.tup a) (.tup b) = eqvDs a b := rfl
@[simp] theorem eqvD_lst {a b : List D} : eqvD (.lst a) (.lst b) = eqvDs a b := rfl
@[simp] theorem eqvDs_nil : eqvDs [] [] = true := rfl
@[simp] theorem eqvDs_cons {x y : D} {a b : List D} : eqvDs (x :: a) (y :: b) = (eqvD x y && eqvDs a b) := rfl
theorem eqB_str {a b : Str} (h1 : PyData.strOk a = true) (h2 : PyData.strOk b = true) : eqB (.str a) (.str b) = some (decide (a = b)) := by
  rw [eqB_ok (x := .str a) (y := .str b) h1 h2 (Nat.zero_le _) (Nat.zero_le _), eqvD_str]
  by_cases h : a = b <;> simp [h]
theorem okDs_all {ds : List D} : okDs ds = true ↔ ∀ d ∈ ds, okD d = true := by
  induction ds with
  | nil => exact ⟨fun _ d h => by simp at h, fun _ => rfl⟩
  | cons d ds ih =>
    show (okD d && okDs ds) = true ↔ _
    rw [Bool.and_eq_true, ih]
    simp
theorem dpDs_le {ds : List D} {n : Nat} : dpDs ds ≤ n ↔ ∀ d ∈ ds, dpD d ≤ n := by
  induction ds with
  | nil => exact ⟨fun _ d h => by simp at h, fun _ => Nat.zero_le _⟩
  | cons d ds ih =>
    show max (dpD d) (dpDs ds) ≤ n ↔ _
    rw [Nat.max_le, ih]
    simp
theorem inB_lst {d : D} {ds : List D} (h1 : okD d = true) (h2 : okDs ds = true) (k1 : dpD d ≤ 64) (k2 : dpDs ds ≤ 63) : inB d (.lst ds) = some (ds.any fun z => eqvD z d) := by
  have h3 : okD (.lst ds) = true := h2
  have e : pyD (.lst ds) = .list (pyDs ds) := rfl
  have s := shaped_ok h3 (by show dpDs ds + 1 ≤ 64; omega)
  rw [e] at s
  unfold inB
  simp only [(toPy_ok h1).1, (toPys_ok h2).1, shaped_ok h1 k1, s, and_self, if_true]
  congr 1
  clear h2 k2 h3 e s
  induction ds with
  | nil => rfl
  | cons x xs ih =>
    show (PyData.eqv (pyD x) (pyD d) || (pyDs xs).any fun z => PyData.eqv z (pyD d)) = _
    rw [List.any_cons]
    unfold eqvD at ih ⊢
    rw [ih]

/-! ### loops -/
/-- a comprehension without a test, by an invariant of what is gathered and the store -/
theorem lc_inv {ρ : Fr} {vs : List Nat} {t : TgM} {te : EM} (I : List D → Sto → Prop) : ∀ (ds acc : List D) (S : Sto), I acc S → acc.length + ds.length ≤ sizeLine →
    (∀ d ∈ ds, ∀ acc S, I acc S → ∃ ρ1 x S2, t d (wipeF ρ vs) = some ρ1 ∧ te ρ1 S = some (.ok (.d x), S2) ∧ I (acc ++ [x]) S2) →
    ∃ res S', lcL vs t yesT te ds acc ρ S = some (.ok res, S') ∧ I res S' ∧ res.length = acc.length + ds.length
  | [], acc, S, h, _, _ => ⟨acc, S, rfl, h, rfl⟩
  | d :: ds, acc, S, h, hl, st => by
    obtain ⟨ρ1, x, S2, h1, h2, h3⟩ := st d List.mem_cons_self acc S h
    have hl' : acc.length + (ds.length + 1) ≤ sizeLine := hl
    obtain ⟨res, S', k1, k2, k3⟩ := lc_inv I ds (acc ++ [x]) S2 h3 (by simp; omega) (fun d hd => st d (List.mem_cons_of_mem _ hd))
    refine ⟨res, S', ?_, k2, by rw [k3]; simp; omega⟩
    rw [lcL_cons, h1]
    simp only [yesT_ap, h2]
    rw [if_pos (by omega), k1]
/-- .. whose parts leave the store alone -/
theorem lc_map {ρ : Fr} {vs : List Nat} {t : TgM} {te : EM} {S : Sto} (g : D → D) : ∀ (ds acc : List D), acc.length + ds.length ≤ sizeLine →
    (∀ d ∈ ds, ∃ ρ1, t d (wipeF ρ vs) = some ρ1 ∧ te ρ1 S = some (.ok (.d (g d)), S)) → lcL vs t yesT te ds acc ρ S = some (.ok (acc ++ ds.map g), S)
  | [], acc, _, _ => by simp
  | d :: ds, acc, hl, st => by
    obtain ⟨ρ1, h1, h2⟩ := st d List.mem_cons_self
    have hl' : acc.length + (ds.length + 1) ≤ sizeLine := hl
    rw [lcL_cons, h1]
    simp only [yesT_ap, h2]
    rw [if_pos (by omega), lc_map g ds (acc ++ [g d]) (by simp; omega) (fun d hd => st d (List.mem_cons_of_mem _ hd))]
    simp
theorem lc_pairs {ρ : Fr} {vs : List Nat} {t : TgM} {te : EM} {S : Sto} : ∀ (ps : List (D × D)) (acc : List D), acc.length + ps.length ≤ sizeLine →
    (∀ p ∈ ps, ∃ ρ1, t p.1 (wipeF ρ vs) = some ρ1 ∧ te ρ1 S = some (.ok (.d p.2), S)) → lcL vs t yesT te (ps.map (·.1)) acc ρ S = some (.ok (acc ++ ps.map (·.2)), S)
  | [], acc, _, _ => by simp
  | d :: ds, acc, hl, st => by
    obtain ⟨ρ1, h1, h2⟩ := st d List.mem_cons_self
    have hl' : acc.length + (ds.length + 1) ≤ sizeLine := hl
    rw [List.map_cons, lcL_cons, h1]
    simp only [yesT_ap, h2]
    rw [if_pos (by omega), lc_pairs ds (acc ++ [d.2]) (by simp; omega) (fun d hd => st d (List.mem_cons_of_mem _ hd))]
    simp
/-- a for loop by an invariant -/
theorem loop_inv {t : TgM} {body : SM} (I : Nat → Fr → Sto → Prop) (ds : List D) (st : ∀ (i : Nat) (d : D) (ρ : Fr) (S : Sto), ds[i]? = some d → I i ρ S → ∃ ρ1, t d ρ = some ρ1 ∧ ∃ ρ2 S2, (body ρ1 S = some (.nx, ρ2, S2) ∨ body ρ1 S = some (.ct, ρ2, S2)) ∧ I (i + 1) ρ2 S2) :
    ∀ (k i : Nat), i + k = ds.length → ∀ (ρ : Fr) (S : Sto), I i ρ S → ∃ ρ' S', loopM t body (ds.drop i) ρ S = some (.nx, ρ', S') ∧ I ds.length ρ' S'
  | 0, i, hk, ρ, S, h => by
    have e : i = ds.length := by omega
    subst e
    rw [List.drop_length]
    exact ⟨ρ, S, rfl, h⟩
  | k + 1, i, hk, ρ, S, h => by
    have hi : i < ds.length := by omega
    rw [List.drop_eq_getElem_cons hi, loopM_cons]
    obtain ⟨ρ1, h1, ρ2, S2, h2, h3⟩ := st i ds[i] ρ S (List.getElem?_eq_getElem hi) h
    obtain ⟨ρ', S', k1, k2⟩ := loop_inv I ds st k (i + 1) (by omega) ρ2 S2 h3
    refine ⟨ρ', S', ?_, k2⟩
    rw [h1]
    rcases h2 with h2 | h2 <;> simp only [h2, k1]
theorem loop_inv0 {t : TgM} {body : SM} (I : Nat → Fr → Sto → Prop) (ds : List D) {ρ : Fr} {S : Sto} (h : I 0 ρ S) (st : ∀ (i : Nat) (d : D) (ρ : Fr) (S : Sto), ds[i]? = some d → I i ρ S → ∃ ρ1, t d ρ = some ρ1 ∧ ∃ ρ2 S2, (body ρ1 S = some (.nx, ρ2, S2) ∨ body ρ1 S = some (.ct, ρ2, S2)) ∧ I (i + 1) ρ2 S2) :
    ∃ ρ' S', loopM t body ds ρ S = some (.nx, ρ', S') ∧ I ds.length ρ' S' := by
  have := loop_inv I ds st ds.length 0 (by omega) ρ S h
  simpa using this

/-! ### the draws -/
/-- the law's draws: its numbers, the place, the great number, the small one -/
structure Drw where
  ns : List Int
  pos : Nat
  big : Int
  acc : Int
def Drw.cell (d : Drw) : Cell := .lst [.lst (d.ns.map .int), .int d.pos, .int d.big, .int d.acc]
def Drw.ok (d : Drw) : Prop := 0 ≤ d.big
/-- at the place n stand draws -/
def DrwAt (S : Sto) (n : Nat) : Prop := ∃ d : Drw, d.ok ∧ S[n]? = some d.cell
def drawB : SM := seqM (ifM (bT (op2M eqD (op2M ixD (varM 0) (litM (.int 2))) (litM (.int 0)))) (ifM (bT (op2M ltD (op2M ixD (varM 0) (litM (.int 1))) (callM lenF (consA (op2M ixD (varM 0) (litM (.int 0))) (nilA))))) (seqM (setM 2 (op2M ixD (op2M ixD (varM 0) (litM (.int 0))) (op2M ixD (varM 0) (litM (.int 1))))) (seqM (setIxM (op2M addD (op2M ixD (varM 0) (litM (.int 1))) (litM (.int 1))) (varM 0) (litM (.int 1))) (ifM (bT (op2M geD (varM 2) (op2M powD (litM (.int 10)) (litM (.int 18))))) (setIxM (varM 2) (varM 0) (litM (.int 2))) (setIxM (op2M modD (callM intF (consA (op2M addD (op2M addD (op2M mulD (op2M ixD (varM 0) (litM (.int 3))) (litM (.int 48271))) (op2M mulD (varM 2) (litM (.int 69621)))) (litM (.int 11))) (nilA))) (litM (.int 2147483647))) (varM 0) (litM (.int 3)))))) (setIxM (op2M modD (callM intF (consA (op2M addD (op2M mulD (op2M ixD (varM 0) (litM (.int 3))) (litM (.int 48271))) (litM (.int 7))) (nilA))) (litM (.int 2147483647))) (varM 0) (litM (.int 3)))) (nxM)) (seqM (ifM (bT (op2M gtD (op2M ixD (varM 0) (litM (.int 2))) (litM (.int 0)))) (seqM (setM 3 (op2M modD (callM intF (consA (op2M ixD (varM 0) (litM (.int 2))) (nilA))) (varM 1))) (seqM (setIxM (op2M divD (op2M ixD (varM 0) (litM (.int 2))) (varM 1)) (varM 0) (litM (.int 2))) (retM (varM 3)))) (nxM)) (retM (op2M modD (op2M modD (callM intF (consA (op2M mulD (op2M ixD (varM 0) (litM (.int 3))) (litM (.int 16807))) (nilA))) (litM (.int 2147483629))) (varM 1))))
def drawF : FM := funM true 2 2 drawB
@[simp] theorem atI_0 {α : Type} {a : α} {l : List α} : atI (a :: l) 0 = some a := by simp [atI, ixN]
@[simp] theorem atI_1 {α : Type} {a b : α} {l : List α} : atI (a :: b :: l) 1 = some b := by
  unfold atI ixN
  rw [if_pos (by decide), if_pos (by simp; omega)]; rfl
@[simp] theorem atI_2 {α : Type} {a b c : α} {l : List α} : atI (a :: b :: c :: l) 2 = some c := by
  unfold atI ixN
  rw [if_pos (by decide), if_pos (by simp; omega)]; rfl
@[simp] theorem atI_3 {α : Type} {a b c d : α} {l : List α} : atI (a :: b :: c :: d :: l) 3 = some d := by
  unfold atI ixN
  rw [if_pos (by decide), if_pos (by simp; omega)]; rfl
theorem atI_nat {α : Type} {l : List α} {i : Nat} (h : i < l.length) : atI l (i : Int) = l[i]? := by
  unfold atI ixN
  rw [if_pos (by omega), if_pos (by omega)]; rfl
theorem ixN_nat {n i : Nat} (h : i < n) : ixN n (i : Int) = some i := by
  unfold ixN
  rw [if_pos (by omega), if_pos (by omega)]; rfl
def lcmN (d : Drw) : Drw := { d with acc := (d.acc * 48271 + 7) % 2147483647 }
/-- the first half of a draw -/
theorem draw_head {S : Sto} {n : Nat} {d : Drw} {ρ : Fr} {many : Int} (hok : d.ok) (hc : S[n]? = some d.cell) :
    ∃ d' : Drw, d'.ok ∧ ∃ y, (ifM (bT (op2M eqD (op2M ixD (varM 0) (litM (.int 2))) (litM (.int 0)))) (ifM (bT (op2M ltD (op2M ixD (varM 0) (litM (.int 1))) (callM lenF (consA (op2M ixD (varM 0) (litM (.int 0))) (nilA))))) (seqM (setM 2 (op2M ixD (op2M ixD (varM 0) (litM (.int 0))) (op2M ixD (varM 0) (litM (.int 1))))) (seqM (setIxM (op2M addD (op2M ixD (varM 0) (litM (.int 1))) (litM (.int 1))) (varM 0) (litM (.int 1))) (ifM (bT (op2M geD (varM 2) (op2M powD (litM (.int 10)) (litM (.int 18))))) (setIxM (varM 2) (varM 0) (litM (.int 2))) (setIxM (op2M modD (callM intF (consA (op2M addD (op2M addD (op2M mulD (op2M ixD (varM 0) (litM (.int 3))) (litM (.int 48271))) (op2M mulD (varM 2) (litM (.int 69621)))) (litM (.int 11))) (nilA))) (litM (.int 2147483647))) (varM 0) (litM (.int 3)))))) (setIxM (op2M modD (callM intF (consA (op2M addD (op2M mulD (op2M ixD (varM 0) (litM (.int 3))) (litM (.int 48271))) (litM (.int 7))) (nilA))) (litM (.int 2147483647))) (varM 0) (litM (.int 3)))) (nxM)) [some (.r (.loc n)), some (.r (.d (.int many))), none, none] S = some (.nx, [some (.r (.loc n)), some (.r (.d (.int many))), y, none], S.set n d'.cell) := by
  have hn : n < S.length := (List.getElem?_eq_some_iff.mp hc).1
  have hset : ∀ c : Cell, (S.set n c)[n]? = some c := fun c => List.getElem?_set_self hn
  have h48 : ∀ i : Int, CMul i 48271 := fun i => .inr (by decide)
  have h69 : ∀ i : Int, CMul i 69621 := fun i => .inr (by decide)
  have hp : CPow 10 18 := by decide
  by_cases hb : d.big = 0
  · by_cases hl : d.pos < d.ns.length
    · have hx : (d.ns.map D.int)[d.pos]? = some (.int d.ns[d.pos]) := by simp [hl]
      have hat : atI (d.ns.map D.int) (d.pos : Int) = some (.int d.ns[d.pos]) := by rw [atI_nat (by simpa using hl), hx]
      by_cases hg : (1000000000000000000 : Int) ≤ d.ns[d.pos]
      · refine ⟨⟨d.ns, d.pos + 1, d.ns[d.pos], d.acc⟩, by unfold Drw.ok; simp; omega, some (.r (.d (.int d.ns[d.pos]))), ?_⟩
        simp [hc, Drw.cell, hb, hl, hat, hset, hp, hg, ixN]
      · refine ⟨⟨d.ns, d.pos + 1, 0, (d.acc * 48271 + d.ns[d.pos] * 69621 + 11) % 2147483647⟩, by unfold Drw.ok; simp, some (.r (.d (.int d.ns[d.pos]))), ?_⟩
        simp [hc, Drw.cell, hb, hl, hat, hset, hp, hg, ixN, h48, h69]
    · refine ⟨⟨d.ns, d.pos, 0, (d.acc * 48271 + 7) % 2147483647⟩, by unfold Drw.ok; simp, none, ?_⟩
      simp [hc, Drw.cell, hb, hl, hset, ixN, h48]
  · refine ⟨d, hok, none, ?_⟩
    have : S.set n d.cell = S := by
      apply List.ext_getElem?
      intro j
      by_cases hj : n = j
      · subst hj; rw [hset, hc]
      · rw [List.getElem?_set_ne hj]
    rw [this]
    simp [hc, Drw.cell, hb]

theorem draw_ok {S : Sto} {n : Nat} {many : Int} (h : DrwAt S n) (h0 : 0 < many) (h1 : many < 1073741824) : ∃ (v : Int) (c : Cell), drawF [.loc n, .d (.int many)] S = some (.ok (.d (.int v)), S.set n c) ∧ 0 ≤ v ∧ v < many ∧ DrwAt (S.set n c) n := by
  obtain ⟨d, hok, hc⟩ := h
  have hn : n < S.length := (List.getElem?_eq_some_iff.mp hc).1
  obtain ⟨d', hok', y, e⟩ := draw_head (ρ := []) (many := many) hok hc
  have hset : ∀ c : Cell, (S.set n c)[n]? = some c := fun c => List.getElem?_set_self hn
  have h16 : ∀ i : Int, CMul i 16807 := fun i => .inr (by decide)
  have hd : CDiv d'.big many := ⟨h0, h1⟩
  by_cases hb : d'.big > 0
  · refine ⟨d'.big % many, (Drw.mk d'.ns d'.pos (d'.big / many) d'.acc).cell, ?_, Int.emod_nonneg _ (by omega), Int.emod_lt_of_pos _ h0, ⟨_, ?_, hset _⟩⟩
    · unfold drawF
      rw [funM_ap, if_pos (by simp)]
      unfold drawB
      rw [seqM_ap]
      show (match (match (ifM _ _ _ [some (.r (.loc n)), some (.r (.d (.int many))), none, none] S) with | some (.nx, ρ', S') => _ | r => r) with | some (.nx, _, S') => _ | some (.rt r, _, S') => _ | some (.ex c fs, _, S') => _ | _ => none) = _
      rw [e]
      simp [Drw.cell, hset, hb, h0, ixN, hd]
    · exact Int.ediv_nonneg hok' (by omega)
  · refine ⟨(d'.acc * 16807) % 2147483629 % many, d'.cell, ?_, Int.emod_nonneg _ (by omega), Int.emod_lt_of_pos _ h0, ⟨d', hok', hset _⟩⟩
    unfold drawF
    rw [funM_ap, if_pos (by simp)]
    unfold drawB
    rw [seqM_ap]
    show (match (match (ifM _ _ _ [some (.r (.loc n)), some (.r (.d (.int many))), none, none] S) with | some (.nx, ρ', S') => _ | r => r) with | some (.nx, _, S') => _ | some (.rt r, _, S') => _ | some (.ex c fs, _, S') => _ | _ => none) = _
    rw [e]
    simp [Drw.cell, hset, hb, h0, ixN, h16]
end MM
namespace MM
open PySem PySem.Spec PyProof.Rows L2
theorem law_sp {K : PySem.W.Frag} {w : World} {m : FM} {H : Hp} {a : Addr} {ns : List Int} {E : XK} (h : ∃ S', m [.d (.scr ns)] [] = some (.ok (.d (.bl true)), S')) (hS : SqL K H a (ns.map V.int)) : spM K w 1 m [.ref a] H (fun v _ => v = .bl true) E := by
  obtain ⟨S', e⟩ := h
  have rel0 : Rel K w H [] [] H := ⟨Same.refl _, List.nodup_nil, rfl, fun _ h => by simp at h, fun n a c h => by simp at h⟩
  refine ⟨H, [], [], [.d (.scr ns)], rel0, .cons (r := .d (.scr ns)) (Rep.scr hS) .nil, rfl, _, _, e, fun F' μ' H' v g r z => ?_⟩
  cases z
  rfl
theorem cx_none {P : Program} {w : World} (H : Hp) (s : Shared) (e : Value) (s' : Shared) (h : L2.CX P w [] H s (fun _ _ _ => False) e s') : False := by
  obtain ⟨_, _, _, _, _, _, _, _, _, _, _, _, z⟩ := h
  exact z
theorem walk_m {l : PySem.W.OpenLaw} {n k : Nat} {q : Program} {loose : List Str} {XP : (Str → Option Value) → Heap → Prop} {YP : World → Heap → Prop} {d : DefRec} {x : Str} {m : FM}
    (hn : l.most = some n) (hn2 : n ≤ sizeLine) (hdf : d.params.defaults = []) (hr : Room k callerA) (hm : ∀ ns : List Int, ns.length ≤ n → ∃ S', m [.d (.scr ns)] [] = some (.ok (.d (.bl true)), S'))
    (F : ∀ (w : World) (mg : Str → Option Value) (fa : Addr) (h : Heap), YP w h → h.Ns mainGlobals mg → mg d.name = some (.ref fa) →
      ∃ (K : PySem.W.Frag) (fd : FuncData), K.In h ∧ (∀ (s : Shared) (u : Value), BindsTo s fd ⟨[u], []⟩ [(x, u)]) ∧ ∀ base : Heap, FnOk l.prog w K mg base (L2.CX l.prog w) k fa fd [x] (spM K w 1 m)) :
    PySem.W.WalkO q loose XP YP l.row.toRowW d [] (fun f vs => PySem.call f vs) := by
  refine Att.attach_call hn hdf fun w s₀ s₁ mg mb fa o pm cd doc a vs ns G Y ho hd hcd hmg hobj hints hlen hg => ?_
  obtain ⟨K, fd, KX, hb, hF⟩ := F w mg fa _ Y G.T.g hmg
  exact law_call KX G.T.g G.T.b G.T.builtins G.T.nolimit hg hobj hints (Nat.le_trans hlen hn2) hr (fun base _ _ => hF base) hb (fun H hO hS => law_sp (hm ns hlen) hS) fun H e s' => cx_none H s₁ e s'
end MM
namespace K14
open PySem PySem.Spec PyProof.Rows L2 MM
noncomputable section
def top (i : Nat) : Stmt := PySem.Challenge.pw_trylocks_k14_texts_refused.main.body.getD i (.Pass ⟨0, 0, 0, 0⟩)
def kid (st : Stmt) (j : Nat) : Stmt := match st with
  | .ClassDef _ _ _ b _ _ _ _ _ _ _ => b.getD j (.Pass ⟨0, 0, 0, 0⟩)
  | _ => .Pass ⟨0, 0, 0, 0⟩
structure Zf (K : PySem.W.Frag) (mg : Str → Option Value) : Prop where
  d_BadRule_init : ∃ fd, FunD K "__init__" "BadRule.__init__" (defArgs (kid (top 4) 0)) (defBody (kid (top 4) 0)) (defScope (kid (top 4) 0)) [] [] (He.fAd K ("BadRule", some "__init__")) fd
  o_BadRule : OexC K (He.ga K "BadRule")
  g_BadRule : mg "BadRule" = some (.ref (He.ga K "BadRule"))
  xi_BadRule : PySem.W.findIn K (.ref (He.ga K "BadRule")) "__init__" = some (some (.ref (He.fAd K ("BadRule", some "__init__")))) ∧ PySem.W.typeIn K (.ref (He.fAd K ("BadRule", some "__init__"))) = some (.type "function")
  n_BadRule_index : NoAttr K (He.ga K "BadRule") "index"
  d_BadLine_init : ∃ fd, FunD K "__init__" "BadLine.__init__" (defArgs (kid (top 5) 0)) (defBody (kid (top 5) 0)) (defScope (kid (top 5) 0)) [] [] (He.fAd K ("BadLine", some "__init__")) fd
  o_BadLine : OexC K (He.ga K "BadLine")
  g_BadLine : mg "BadLine" = some (.ref (He.ga K "BadLine"))
  xi_BadLine : PySem.W.findIn K (.ref (He.ga K "BadLine")) "__init__" = some (some (.ref (He.fAd K ("BadLine", some "__init__")))) ∧ PySem.W.typeIn K (.ref (He.fAd K ("BadLine", some "__init__"))) = some (.type "function")
  n_BadLine_line : NoAttr K (He.ga K "BadLine") "line"
  f_int : mg "int" = none
  f_isinstance : mg "isinstance" = none
  f_bool : mg "bool" = none
  d_is_number : ∃ fd, FunD K "is_number" "is_number" (defArgs (top 9)) (defBody (top 9)) (defScope (top 9)) [] [] (He.ga K "is_number") fd
  g_is_number : mg "is_number" = some (.ref (He.ga K "is_number"))
  f_tuple : mg "tuple" = none
  f_len : mg "len" = none
  f_str : mg "str" = none
  k_KEYS : ∃ v u, mg "KEYS" = some u ∧ RelV v u ∧ ∀ (w : World) (F : Hp), Rep K w F (.tup [(.str "account"), (.str "place"), (.str "both")]) v
  f_all : mg "all" = none
  d_is_rule : ∃ fd, FunD K "is_rule" "is_rule" (defArgs (top 10)) (defBody (top 10)) (defScope (top 10)) [] [] (He.ga K "is_rule") fd
  g_is_rule : mg "is_rule" = some (.ref (He.ga K "is_rule"))
  k_MOST_RULES : ∃ v u, mg "MOST_RULES" = some u ∧ RelV v u ∧ ∀ (w : World) (F : Hp), Rep K w F (.int 3) v
  f_enumerate : mg "enumerate" = none
  g_BadCount : mg "BadCount" = some (.ref (He.ga K "BadCount"))
  x_BadCount : ExcF K mg "BadCount"
  c_Book : Cls K (He.ga K "Book")
  n_Book_rules : NoAttr K (He.ga K "Book") "rules"
  n_Book_accounts : NoAttr K (He.ga K "Book") "accounts"
  n_Book_places : NoAttr K (He.ga K "Book") "places"
  d_Book_init : ∃ fd, FunD K "__init__" "Book.__init__" (defArgs (kid (top 11) 0)) (defBody (kid (top 11) 0)) (defScope (kid (top 11) 0)) [] [] (He.fAd K ("Book", some "__init__")) fd
  g_Book : mg "Book" = some (.ref (He.ga K "Book"))
  mk_Book : Mk K (He.ga K "Book") (He.fAd K ("Book", some "__init__"))
  k_WORDS : ∃ v u, mg "WORDS" = some u ∧ RelV v u ∧ ∀ (w : World) (F : Hp), Rep K w F (.tup [(.str "clears"), (.str "grows"), (.str "strict")]) v
  f_zip : mg "zip" = none
  d_rule_line : ∃ fd, FunD K "rule_line" "rule_line" (defArgs (top 15)) (defBody (top 15)) (defScope (top 15)) [] [] (He.ga K "rule_line") fd
  g_rule_line : mg "rule_line" = some (.ref (He.ga K "rule_line"))
  d_write : ∃ fd, FunD K "write" "write" (defArgs (top 16)) (defBody (top 16)) (defScope (top 16)) [] [] (He.ga K "write") fd
  g_write : mg "write" = some (.ref (He.ga K "write"))
  k_FIGURES : ∃ v u, mg "FIGURES" = some u ∧ RelV v u ∧ ∀ (w : World) (F : Hp), Rep K w F (.str "012345") v
  d_number_of : ∃ fd, FunD K "number_of" "number_of" (defArgs (top 17)) (defBody (top 17)) (defScope (top 17)) [] [] (He.ga K "number_of") fd
  g_number_of : mg "number_of" = some (.ref (He.ga K "number_of"))
  d_rule_of : ∃ fd, FunD K "rule_of" "rule_of" (defArgs (top 18)) (defBody (top 18)) (defScope (top 18)) [] [] (He.ga K "rule_of") fd
  g_rule_of : mg "rule_of" = some (.ref (He.ga K "rule_of"))
  t_BadLine_LockError : exmB K "BadLine" "LockError" true = true
  t_BadCount_LockError : exmB K "BadCount" "LockError" true = true
  t_BadRule_LockError : exmB K "BadRule" "LockError" true = true
  g_LockError : mg "LockError" = some (.ref (He.ga K "LockError"))
  d_read : ∃ fd, FunD K "read" "read" (defArgs (top 19)) (defBody (top 19)) (defScope (top 19)) [] [] (He.ga K "read") fd
  g_read : mg "read" = some (.ref (He.ga K "read"))
  f_list : mg "list" = none
  d__law_begin : ∃ fd, FunD K "_law_begin" "_law_begin" (defArgs (top 21)) (defBody (top 21)) (defScope (top 21)) [] [] (He.ga K "_law_begin") fd
  g__law_begin : mg "_law_begin" = some (.ref (He.ga K "_law_begin"))
  d__law_draw : ∃ fd, FunD K "_law_draw" "_law_draw" (defArgs (top 22)) (defBody (top 22)) (defScope (top 22)) [] [] (He.ga K "_law_draw") fd
  g__law_draw : mg "_law_draw" = some (.ref (He.ga K "_law_draw"))
  d__law_flag : ∃ fd, FunD K "_law_flag" "_law_flag" (defArgs (top 23)) (defBody (top 23)) (defScope (top 23)) [] [] (He.ga K "_law_flag") fd
  g__law_flag : mg "_law_flag" = some (.ref (He.ga K "_law_flag"))
  d__law_rule : ∃ fd, FunD K "_law_rule" "_law_rule" (defArgs (top 24)) (defBody (top 24)) (defScope (top 24)) [] [] (He.ga K "_law_rule") fd
  g__law_rule : mg "_law_rule" = some (.ref (He.ga K "_law_rule"))
  d__law_sizes : ∃ fd, FunD K "_law_sizes" "_law_sizes" (defArgs (top 25)) (defBody (top 25)) (defScope (top 25)) [] [] (He.ga K "_law_sizes") fd
  g__law_sizes : mg "_law_sizes" = some (.ref (He.ga K "_law_sizes"))
  f_range : mg "range" = none
  d__law_rules : ∃ fd, FunD K "_law_rules" "_law_rules" (defArgs (top 26)) (defBody (top 26)) (defScope (top 26)) [] [] (He.ga K "_law_rules") fd
  g__law_rules : mg "_law_rules" = some (.ref (He.ga K "_law_rules"))
  d__law_line : ∃ fd, FunD K "_law_line" "_law_line" (defArgs (top 29)) (defBody (top 29)) (defScope (top 29)) [] [] (He.ga K "_law_line") fd
  g__law_line : mg "_law_line" = some (.ref (He.ga K "_law_line"))
  d__law_lines : ∃ fd, FunD K "_law_lines" "_law_lines" (defArgs (top 30)) (defBody (top 30)) (defScope (top 30)) [] [] (He.ga K "_law_lines") fd
  g__law_lines : mg "_law_lines" = some (.ref (He.ga K "_law_lines"))
  d__law_in : ∃ fd, FunD K "_law_in" "_law_in" (defArgs (top 31)) (defBody (top 31)) (defScope (top 31)) [] [] (He.ga K "_law_in") fd
  g__law_in : mg "_law_in" = some (.ref (He.ga K "_law_in"))
  d__law_rule_good : ∃ fd, FunD K "_law_rule_good" "_law_rule_good" (defArgs (top 32)) (defBody (top 32)) (defScope (top 32)) [] [] (He.ga K "_law_rule_good") fd
  g__law_rule_good : mg "_law_rule_good" = some (.ref (He.ga K "_law_rule_good"))
  d__law_wrong : ∃ fd, FunD K "_law_wrong" "_law_wrong" (defArgs (top 33)) (defBody (top 33)) (defScope (top 33)) [] [] (He.ga K "_law_wrong") fd
  g__law_wrong : mg "_law_wrong" = some (.ref (He.ga K "_law_wrong"))
  d__law_spoil : ∃ fd, FunD K "_law_spoil" "_law_spoil" (defArgs (top 34)) (defBody (top 34)) (defScope (top 34)) [] [] (He.ga K "_law_spoil") fd
  g__law_spoil : mg "_law_spoil" = some (.ref (He.ga K "_law_spoil"))
  t_BadLine_BadLine : exmB K "BadLine" "BadLine" true = true
  t_BadCount_BadLine : exmB K "BadCount" "BadLine" false = true
  t_BadRule_BadLine : exmB K "BadRule" "BadLine" false = true
  xf_BadLine : XfC K (He.ga K "BadLine")
  d_law : ∃ fd, FunD K "law" "law" (defArgs (top 35)) (defBody (top 35)) (defScope (top 35)) [] [] (He.ga K "law") fd
  g_law : mg "law" = some (.ref (He.ga K "law"))
abbrev s_BadRule_init : Stmt := (kid (top 4) 0)
theorem sc_BadRule_init : FnScope ["self", "index"] ["self", "index"] (defScope s_BadRule_init) := ⟨rfl, rfl, rfl, by decide +kernel, rfl, by decide +kernel, by decide +kernel⟩
abbrev s_BadLine_init : Stmt := (kid (top 5) 0)
theorem sc_BadLine_init : FnScope ["self", "line"] ["self", "line"] (defScope s_BadLine_init) := ⟨rfl, rfl, rfl, by decide +kernel, rfl, by decide +kernel, by decide +kernel⟩
abbrev s_is_number : Stmt := (top 9)
theorem sc_is_number : FnScope ["value", "least", "most"] ["value", "least", "most"] (defScope s_is_number) := ⟨rfl, rfl, rfl, by decide +kernel, rfl, by decide +kernel, by decide +kernel⟩
def b_is_number : SM := retM (andV (callM isiF (consA (varM 0) (consA (litM (.ty "int")) (nilA)))) (andV (notV (callM isiF (consA (varM 0) (consA (litM (.ty "bool")) (nilA))))) (chainM leD leD (varM 1) (varM 0) (varM 2))))
def m_is_number : FM := funM true 3 0 b_is_number
abbrev s_is_rule : Stmt := (top 10)
theorem sc_is_rule : FnScope ["value", "one"] ["value"] (defScope s_is_rule) := ⟨rfl, rfl, rfl, by decide +kernel, rfl, by decide +kernel, by decide +kernel⟩
def b_is_rule : SM := seqM (ifM (orT (notT (truM (callM isiF (consA (varM 0) (consA (litM (.ty "tuple")) (nilA)))))) (orT (bT (op2M neD (callM lenF (consA (varM 0) (nilA))) (litM (.int 7)))) (orT (notT (truM (callM isiF (consA (op2M ixD (varM 0) (litM (.int 0))) (consA (litM (.ty "str")) (nilA)))))) (bT (op2M ninD (op2M ixD (varM 0) (litM (.int 0))) (litM (.tup [(.str "account"), (.str "place"), (.str "both")]))))))) (retM (litM (.bl false))) (nxM)) (seqM (ifM (orT (notT (truM (callN 3 m_is_number (consA (op2M ixD (varM 0) (litM (.int 1))) (consA (litM (.int 1)) (consA (litM (.int 3)) (nilA))))))) (orT (notT (truM (callN 3 m_is_number (consA (op2M ixD (varM 0) (litM (.int 2))) (consA (litM (.int 1)) (consA (litM (.int 4)) (nilA))))))) (notT (truM (callN 3 m_is_number (consA (op2M ixD (varM 0) (litM (.int 3))) (consA (litM (.int 0)) (consA (litM (.int 5)) (nilA))))))))) (retM (litM (.bl false))) (nxM)) (retM (callM allF (consA (ofNew (lcM (iSeqM (slM (varM 0) (partM (litM (.int 4))) (noP))) [1] (nameT 1) (yesT) (callM isiF (consA (varM 1) (consA (litM (.ty "bool")) (nilA)))))) (nilA)))))
def m_is_rule : FM := funM true 1 1 b_is_rule
abbrev s_Book_init : Stmt := (kid (top 11) 0)
theorem sc_Book_init : FnScope ["self", "rules", "accounts", "places", "index", "rule"] ["self", "rules", "accounts", "places"] (defScope s_Book_init) := ⟨rfl, rfl, rfl, by decide +kernel, rfl, by decide +kernel, by decide +kernel⟩
def b_Book_init : SM := seqM (ifM (bT (op2M gtD (callM lenF (consA (varM 1) (nilA))) (litM (.int 3)))) (raise1M "BadRule" "index" (litM (.int 3))) (nxM)) (seqM (forM (iEnumM (consA (varM 1) (nilA))) (tupT [nameT 4, nameT 5]) (ifM (notT (truM (callN 1 m_is_rule (consA (varM 5) (nilA))))) (raise1M "BadRule" "index" (varM 4)) (nxM))) (seqM (ifM (orT (notT (truM (callN 3 m_is_number (consA (varM 2) (consA (litM (.int 1)) (consA (litM (.int 2)) (nilA))))))) (orT (notT (truM (callN 3 m_is_number (consA (varM 3) (consA (litM (.int 1)) (consA (litM (.int 2)) (nilA))))))) (bT (op2M gtD (op2M mulD (varM 2) (varM 3)) (litM (.int 2)))))) (raiseM "BadCount") (nxM)) (seqM (sfldM "Book" "rules" (callM tupleF (consA (varM 1) (nilA))) (varM 0)) (seqM (sfldM "Book" "accounts" (varM 2) (varM 0)) (sfldM "Book" "places" (varM 3) (varM 0))))))
def m_Book_init : FM := funM true 4 2 b_Book_init
abbrev s_rule_line : Stmt := (top 15)
theorem sc_rule_line : FnScope ["rule", "words", "number", "word", "one"] ["rule"] (defScope s_rule_line) := ⟨rfl, rfl, rfl, by decide +kernel, rfl, by decide +kernel, by decide +kernel⟩
def b_rule_line : SM := seqM (setM 1 (op2M addD (lstM (consA (op2M ixD (varM 0) (litM (.int 0))) (nilA))) (ofNew (lcM (iSeqM (slM (varM 0) (partM (litM (.int 1))) (partM (litM (.int 4))))) [2] (nameT 2) (yesT) (callM strF (consA (varM 2) (nilA))))))) (retM (methM joinF (strR (litM (.str " "))) (consA (op2M addD (varM 1) (ofNew (lcM (iZipM (consA (litM (.tup [(.str "clears"), (.str "grows"), (.str "strict")])) (consA (slM (varM 0) (partM (litM (.int 4))) (noP)) (nilA)))) [3, 4] (tupT [nameT 3, nameT 4]) (yesT) (ifV (truM (varM 4)) (varM 3) (litM (.str "-")))))) (nilA))))
def m_rule_line : FM := funM true 1 4 b_rule_line
abbrev s_write : Stmt := (top 16)
theorem sc_write : FnScope ["book", "rule"] ["book"] (defScope s_write) := ⟨rfl, rfl, rfl, by decide +kernel, rfl, by decide +kernel, by decide +kernel⟩
def b_write : SM := retM (methM joinF (strR (litM (.str "\n"))) (consA (op2M addD (lstM (consA (jsM [litM (.str "door "), fmtM (fldM "Book" "accounts" (varM 0)), litM (.str " "), fmtM (fldM "Book" "places" (varM 0))] Str.empty) (nilA))) (ofNew (lcM (iSeqM (fldM "Book" "rules" (varM 0))) [1] (nameT 1) (yesT) (callN 1 m_rule_line (consA (varM 1) (nilA)))))) (nilA)))
def m_write : FM := funM true 1 1 b_write
abbrev s_number_of : Stmt := (top 17)
theorem sc_number_of : FnScope ["word"] ["word"] (defScope s_number_of) := ⟨rfl, rfl, rfl, by decide +kernel, rfl, by decide +kernel, by decide +kernel⟩
def b_number_of : SM := retM (ifV (andT (bT (op2M eqD (callM lenF (consA (varM 0) (nilA))) (litM (.int 1)))) (bT (op2M inD (varM 0) (litM (.str "012345"))))) (callM intF (consA (varM 0) (nilA))) (litM .non))
def m_number_of : FM := funM true 1 0 b_number_of
abbrev s_rule_of : Stmt := (top 18)
theorem sc_rule_of : FnScope ["line", "words", "rule", "word"] ["line"] (defScope s_rule_of) := ⟨rfl, rfl, rfl, by decide +kernel, rfl, by decide +kernel, by decide +kernel⟩
def b_rule_of : SM := seqM (setM 1 (methM splitF (strR (varM 0)) (consA (litM (.str " ")) (nilA)))) (seqM (ifM (bT (op2M neD (callM lenF (consA (varM 1) (nilA))) (litM (.int 7)))) (retM (litM .non)) (nxM)) (seqM (setM 2 (op2M addD (op2M addD (tupM (consA (op2M ixD (varM 1) (litM (.int 0))) (nilA))) (callM tupleF (consA (ofNew (lcM (iSeqM (slM (varM 1) (partM (litM (.int 1))) (partM (litM (.int 4))))) [3] (nameT 3) (yesT) (callN 1 m_number_of (consA (varM 3) (nilA))))) (nilA)))) (callM tupleF (consA (ofNew (lcM (iSeqM (slM (varM 1) (partM (litM (.int 4))) (noP))) [3] (nameT 3) (yesT) (op2M neD (varM 3) (litM (.str "-"))))) (nilA))))) (retM (ifV (andT (truM (callN 1 m_is_rule (consA (varM 2) (nilA)))) (bT (op2M eqD (callN 1 m_rule_line (consA (varM 2) (nilA))) (varM 0)))) (varM 2) (litM .non)))))
def m_rule_of : FM := funM true 1 3 b_rule_of
abbrev s_read : Stmt := (top 19)
theorem sc_read : FnScope ["text", "lines", "words", "made", "rules", "at", "rule", "line"] ["text"] (defScope s_read) := ⟨rfl, rfl, rfl, by decide +kernel, rfl, by decide +kernel, by decide +kernel⟩
def b_read : SM := seqM (setM 1 (methM splitF (strR (varM 0)) (consA (litM (.str "\n")) (nilA)))) (seqM (setM 2 (methM splitF (strR (op2M ixD (varM 1) (litM (.int 0)))) (consA (litM (.str " ")) (nilA)))) (seqM (setM 3 (litM .non)) (seqM (ifM (andT (bT (op2M eqD (callM lenF (consA (varM 2) (nilA))) (litM (.int 3)))) (bT (op2M eqD (op2M ixD (varM 2) (litM (.int 0))) (litM (.str "door"))))) (tryM [("BadRule", "LockError", true), ("BadCount", "LockError", true), ("BadLine", "LockError", true)] (setM 3 (frzM (makeM "Book" 4 m_Book_init (consA (lstM (nilA)) (consA (callN 1 m_number_of (consA (op2M ixD (varM 2) (litM (.int 1))) (nilA))) (consA (callN 1 m_number_of (consA (op2M ixD (varM 2) (litM (.int 2))) (nilA))) (nilA))))))) [⟨"LockError", none, (fun _ _ => setM 3 (litM .non))⟩]) (nxM)) (seqM (ifM (bT (op2M isD (varM 3) (litM .non))) (raise1M "BadLine" "line" (litM (.int 1))) (nxM)) (seqM (setM 4 (ofNew (lcM (iSeqM (slM (varM 1) (partM (litM (.int 1))) (noP))) [7] (nameT 7) (yesT) (callN 1 m_rule_of (consA (varM 7) (nilA)))))) (seqM (forM (iEnumM (consA (varM 4) (nilA))) (tupT [nameT 5, nameT 6]) (ifM (orT (bT (op2M isD (varM 6) (litM .non))) (bT (op2M geD (varM 5) (litM (.int 3))))) (raise1M "BadLine" "line" (op2M addD (varM 5) (litM (.int 2)))) (nxM))) (retM (frzM (makeM "Book" 4 m_Book_init (consA (varM 4) (consA (fldM "Book" "accounts" (varM 3)) (consA (fldM "Book" "places" (varM 3)) (nilA)))))))))))))
def m_read : FM := funM true 1 7 b_read
abbrev s__law_begin : Stmt := (top 21)
theorem sc__law_begin : FnScope ["_law_script"] ["_law_script"] (defScope s__law_begin) := ⟨rfl, rfl, rfl, by decide +kernel, rfl, by decide +kernel, by decide +kernel⟩
def b__law_begin : SM := retM (locOf (newR (consA (callM listF (consA (varM 0) (nilA))) (consA (litM (.int 0)) (consA (litM (.int 0)) (consA (litM (.int 7)) (nilA)))))))
def m__law_begin : FM := funM true 1 0 b__law_begin
abbrev s__law_draw : Stmt := (top 22)
theorem sc__law_draw : FnScope ["_law_draws", "_law_many", "_law_cell", "_law_found"] ["_law_draws", "_law_many"] (defScope s__law_draw) := ⟨rfl, rfl, rfl, by decide +kernel, rfl, by decide +kernel, by decide +kernel⟩
def b__law_draw : SM := seqM (ifM (bT (op2M eqD (op2M ixD (varM 0) (litM (.int 2))) (litM (.int 0)))) (ifM (bT (op2M ltD (op2M ixD (varM 0) (litM (.int 1))) (callM lenF (consA (op2M ixD (varM 0) (litM (.int 0))) (nilA))))) (seqM (setM 2 (op2M ixD (op2M ixD (varM 0) (litM (.int 0))) (op2M ixD (varM 0) (litM (.int 1))))) (seqM (setIxM (op2M addD (op2M ixD (varM 0) (litM (.int 1))) (litM (.int 1))) (varM 0) (litM (.int 1))) (ifM (bT (op2M geD (varM 2) (op2M powD (litM (.int 10)) (litM (.int 18))))) (setIxM (varM 2) (varM 0) (litM (.int 2))) (setIxM (op2M modD (callM intF (consA (op2M addD (op2M addD (op2M mulD (op2M ixD (varM 0) (litM (.int 3))) (litM (.int 48271))) (op2M mulD (varM 2) (litM (.int 69621)))) (litM (.int 11))) (nilA))) (litM (.int 2147483647))) (varM 0) (litM (.int 3)))))) (setIxM (op2M modD (callM intF (consA (op2M addD (op2M mulD (op2M ixD (varM 0) (litM (.int 3))) (litM (.int 48271))) (litM (.int 7))) (nilA))) (litM (.int 2147483647))) (varM 0) (litM (.int 3)))) (nxM)) (seqM (ifM (bT (op2M gtD (op2M ixD (varM 0) (litM (.int 2))) (litM (.int 0)))) (seqM (setM 3 (op2M modD (callM intF (consA (op2M ixD (varM 0) (litM (.int 2))) (nilA))) (varM 1))) (seqM (setIxM (op2M divD (op2M ixD (varM 0) (litM (.int 2))) (varM 1)) (varM 0) (litM (.int 2))) (retM (varM 3)))) (nxM)) (retM (op2M modD (op2M modD (callM intF (consA (op2M mulD (op2M ixD (varM 0) (litM (.int 3))) (litM (.int 16807))) (nilA))) (litM (.int 2147483629))) (varM 1))))
def m__law_draw : FM := funM true 2 2 b__law_draw
abbrev s__law_flag : Stmt := (top 23)
theorem sc__law_flag : FnScope ["_law_draws"] ["_law_draws"] (defScope s__law_flag) := ⟨rfl, rfl, rfl, by decide +kernel, rfl, by decide +kernel, by decide +kernel⟩
def b__law_flag : SM := retM (op2M eqD (callN 2 m__law_draw (consA (varM 0) (consA (litM (.int 2)) (nilA)))) (litM (.int 1)))
def m__law_flag : FM := funM true 1 0 b__law_flag
abbrev s__law_rule : Stmt := (top 24)
theorem sc__law_rule : FnScope ["_law_draws", "_law_key", "_law_most", "_law_lock", "_law_fade"] ["_law_draws"] (defScope s__law_rule) := ⟨rfl, rfl, rfl, by decide +kernel, rfl, by decide +kernel, by decide +kernel⟩
def b__law_rule : SM := seqM (setM 1 (op2M ixD (lstM (consA (litM (.str "account")) (consA (litM (.str "place")) (consA (litM (.str "both")) (nilA))))) (callN 2 m__law_draw (consA (varM 0) (consA (litM (.int 3)) (nilA)))))) (seqM (setM 2 (op2M addD (litM (.int 1)) (callN 2 m__law_draw (consA (varM 0) (consA (litM (.int 3)) (nilA)))))) (seqM (setM 3 (op2M addD (litM (.int 1)) (callN 2 m__law_draw (consA (varM 0) (consA (litM (.int 4)) (nilA)))))) (seqM (setM 4 (op2M ixD (lstM (consA (litM (.int 0)) (consA (litM (.int 1)) (consA (litM (.int 2)) (consA (litM (.int 3)) (consA (litM (.int 5)) (nilA))))))) (callN 2 m__law_draw (consA (varM 0) (consA (litM (.int 5)) (nilA)))))) (retM (tupM (consA (varM 1) (consA (varM 2) (consA (varM 3) (consA (varM 4) (consA (callN 1 m__law_flag (consA (varM 0) (nilA))) (consA (callN 1 m__law_flag (consA (varM 0) (nilA))) (consA (callN 1 m__law_flag (consA (varM 0) (nilA))) (nilA)))))))))))))
def m__law_rule : FM := funM true 1 4 b__law_rule
abbrev s__law_sizes : Stmt := (top 25)
theorem sc__law_sizes : FnScope ["_law_draws"] ["_law_draws"] (defScope s__law_sizes) := ⟨rfl, rfl, rfl, by decide +kernel, rfl, by decide +kernel, by decide +kernel⟩
def b__law_sizes : SM := retM (op2M ixD (lstM (consA (tupM (consA (litM (.int 1)) (consA (litM (.int 1)) (nilA)))) (consA (tupM (consA (litM (.int 2)) (consA (litM (.int 1)) (nilA)))) (consA (tupM (consA (litM (.int 1)) (consA (litM (.int 2)) (nilA)))) (consA (tupM (consA (litM (.int 2)) (consA (litM (.int 1)) (nilA)))) (nilA)))))) (callN 2 m__law_draw (consA (varM 0) (consA (litM (.int 4)) (nilA)))))
def m__law_sizes : FM := funM true 1 0 b__law_sizes
abbrev s__law_rules : Stmt := (top 26)
theorem sc__law_rules : FnScope ["_law_draws", "_law_most", "_law_k"] ["_law_draws", "_law_most"] (defScope s__law_rules) := ⟨rfl, rfl, rfl, by decide +kernel, rfl, by decide +kernel, by decide +kernel⟩
def b__law_rules : SM := retM (ofNew (lcM (iRng1M (consA (callN 2 m__law_draw (consA (varM 0) (consA (op2M addD (varM 1) (litM (.int 1))) (nilA)))) (nilA))) [2] (nameT 2) (yesT) (callN 1 m__law_rule (consA (varM 0) (nilA)))))
def m__law_rules : FM := funM true 2 1 b__law_rules
abbrev s__law_line : Stmt := (top 29)
theorem sc__law_line : FnScope ["_law_rule_here", "_law_words", "_law_k", "_law_number"] ["_law_rule_here"] (defScope s__law_line) := ⟨rfl, rfl, rfl, by decide +kernel, rfl, by decide +kernel, by decide +kernel⟩
def b__law_line : SM := seqM (ownM 1 (catM (lstM (consA (op2M ixD (varM 0) (litM (.int 0))) (nilA))) (ofNew (lcM (iSeqM (slM (varM 0) (partM (litM (.int 1))) (partM (litM (.int 4))))) [3] (nameT 3) (yesT) (callM strF (consA (varM 3) (nilA))))))) (seqM (forM (iRng1M (consA (litM (.int 3)) (nilA))) (nameT 2) (appM (varM 1) (op2M ixD (lstM (consA (litM (.str "-")) (consA (op2M ixD (lstM (consA (litM (.str "clears")) (consA (litM (.str "grows")) (consA (litM (.str "strict")) (nilA))))) (varM 2)) (nilA)))) (callM intF (consA (op2M ixD (varM 0) (op2M addD (litM (.int 4)) (varM 2))) (nilA)))))) (retM (methM joinF (strR (litM (.str " "))) (consA (varM 1) (nilA)))))
def m__law_line : FM := funM true 1 3 b__law_line
abbrev s__law_lines : Stmt := (top 30)
theorem sc__law_lines : FnScope ["_law_rules_here", "_law_accounts", "_law_places", "_law_rule_here"] ["_law_rules_here", "_law_accounts", "_law_places"] (defScope s__law_lines) := ⟨rfl, rfl, rfl, by decide +kernel, rfl, by decide +kernel, by decide +kernel⟩
def b__law_lines : SM := retM (locOf (catM (lstM (consA (op2M addD (op2M addD (op2M addD (litM (.str "door ")) (callM strF (consA (varM 1) (nilA)))) (litM (.str " "))) (callM strF (consA (varM 2) (nilA)))) (nilA))) (ofNew (lcM (iSeqM (varM 0)) [3] (nameT 3) (yesT) (callN 1 m__law_line (consA (varM 3) (nilA)))))))
def m__law_lines : FM := funM true 3 1 b__law_lines
abbrev s__law_in : Stmt := (top 31)
theorem sc__law_in : FnScope ["_law_word", "_law_low", "_law_high", "_law_number"] ["_law_word", "_law_low", "_law_high"] (defScope s__law_in) := ⟨rfl, rfl, rfl, by decide +kernel, rfl, by decide +kernel, by decide +kernel⟩
def b__law_in : SM := retM (op2M inD (varM 0) (ofNew (lcM (iRng2M (consA (varM 1) (consA (op2M addD (varM 2) (litM (.int 1))) (nilA)))) [3] (nameT 3) (yesT) (callM strF (consA (varM 3) (nilA))))))
def m__law_in : FM := funM true 3 1 b__law_in
abbrev s__law_rule_good : Stmt := (top 32)
theorem sc__law_rule_good : FnScope ["_law_line_here", "_law_words", "_law_k"] ["_law_line_here"] (defScope s__law_rule_good) := ⟨rfl, rfl, rfl, by decide +kernel, rfl, by decide +kernel, by decide +kernel⟩
def b__law_rule_good : SM := seqM (setM 1 (methM splitF (strR (varM 0)) (consA (litM (.str " ")) (nilA)))) (seqM (ifM (orT (bT (op2M neD (callM lenF (consA (varM 1) (nilA))) (litM (.int 7)))) (bT (op2M ninD (op2M ixD (varM 1) (litM (.int 0))) (lstM (consA (litM (.str "account")) (consA (litM (.str "place")) (consA (litM (.str "both")) (nilA)))))))) (retM (litM (.bl false))) (nxM)) (seqM (ifM (orT (notT (truM (callN 3 m__law_in (consA (op2M ixD (varM 1) (litM (.int 1))) (consA (litM (.int 1)) (consA (litM (.int 3)) (nilA))))))) (orT (notT (truM (callN 3 m__law_in (consA (op2M ixD (varM 1) (litM (.int 2))) (consA (litM (.int 1)) (consA (litM (.int 4)) (nilA))))))) (notT (truM (callN 3 m__law_in (consA (op2M ixD (varM 1) (litM (.int 3))) (consA (litM (.int 0)) (consA (litM (.int 5)) (nilA))))))))) (retM (litM (.bl false))) (nxM)) (retM (callM allF (consA (ofNew (lcM (iRng1M (consA (litM (.int 3)) (nilA))) [2] (nameT 2) (yesT) (op2M inD (op2M ixD (varM 1) (op2M addD (litM (.int 4)) (varM 2))) (lstM (consA (litM (.str "-")) (consA (op2M ixD (lstM (consA (litM (.str "clears")) (consA (litM (.str "grows")) (consA (litM (.str "strict")) (nilA))))) (varM 2)) (nilA))))))) (nilA))))))
def m__law_rule_good : FM := funM true 1 2 b__law_rule_good
abbrev s__law_wrong : Stmt := (top 33)
theorem sc__law_wrong : FnScope ["_law_lines_here", "_law_k"] ["_law_lines_here"] (defScope s__law_wrong) := ⟨rfl, rfl, rfl, by decide +kernel, rfl, by decide +kernel, by decide +kernel⟩
def b__law_wrong : SM := seqM (ifM (bT (op2M ninD (op2M ixD (varM 0) (litM (.int 0))) (lstM (consA (litM (.str "door 1 1")) (consA (litM (.str "door 1 2")) (consA (litM (.str "door 2 1")) (nilA))))))) (retM (litM (.int 1))) (nxM)) (seqM (forM (iRng2M (consA (litM (.int 1)) (consA (callM lenF (consA (varM 0) (nilA))) (nilA)))) (nameT 1) (ifM (orT (bT (op2M gtD (varM 1) (litM (.int 3)))) (notT (truM (callN 1 m__law_rule_good (consA (op2M ixD (varM 0) (varM 1)) (nilA)))))) (retM (op2M addD (varM 1) (litM (.int 1)))) (nxM))) (retM (litM (.int 0))))
def m__law_wrong : FM := funM true 1 1 b__law_wrong
abbrev s__law_spoil : Stmt := (top 34)
theorem sc__law_spoil : FnScope ["_law_draws", "_law_lines_here", "_law_at", "_law_words", "_law_where", "_law_odd", "_law_way", "_law_held"] ["_law_draws", "_law_lines_here"] (defScope s__law_spoil) := ⟨rfl, rfl, rfl, by decide +kernel, rfl, by decide +kernel, by decide +kernel⟩
def b__law_spoil : SM := seqM (setM 2 (callN 2 m__law_draw (consA (varM 0) (consA (callM lenF (consA (varM 1) (nilA))) (nilA))))) (seqM (ownM 3 (splitM (op2M ixD (varM 1) (varM 2)) (consA (litM (.str " ")) (nilA)))) (seqM (setM 4 (callN 2 m__law_draw (consA (varM 0) (consA (callM lenF (consA (varM 3) (nilA))) (nilA))))) (seqM (setM 5 (lstM (consA (litM (.str "")) (consA (litM (.str "-")) (consA (litM (.str "0")) (consA (litM (.str "1")) (consA (litM (.str "2")) (consA (litM (.str "4")) (consA (litM (.str "5")) (consA (litM (.str "6")) (consA (litM (.str "01")) (consA (litM (.str "door")) (consA (litM (.str "account")) (consA (litM (.str "both")) (consA (litM (.str "clears")) (consA (litM (.str "strict")) (consA (litM (.str "grows")) (nilA)))))))))))))))))) (seqM (setM 6 (callN 2 m__law_draw (consA (varM 0) (consA (litM (.int 8)) (nilA))))) (seqM (ifM (bT (op2M leD (varM 6) (litM (.int 1)))) (setIxM (op2M ixD (varM 5) (callN 2 m__law_draw (consA (varM 0) (consA (callM lenF (consA (varM 5) (nilA))) (nilA))))) (varM 3) (varM 4)) (nxM)) (seqM (ifM (bT (op2M eqD (varM 6) (litM (.int 2)))) (popAtM (varM 3) (varM 4)) (nxM)) (seqM (ifM (bT (op2M eqD (varM 6) (litM (.int 3)))) (insM (varM 3) (varM 4) (op2M ixD (varM 5) (callN 2 m__law_draw (consA (varM 0) (consA (callM lenF (consA (varM 5) (nilA))) (nilA)))))) (nxM)) (seqM (setIxM (methM joinF (strR (litM (.str " "))) (consA (varM 3) (nilA))) (varM 1) (varM 2)) (seqM (ifM (bT (op2M eqD (varM 6) (litM (.int 4)))) (insM (varM 1) (varM 2) (op2M ixD (lstM (consA (litM (.str "")) (consA (litM (.str "door 1 1")) (consA (litM (.str "both 1 1 0 - - -")) (consA (litM (.str "place 3 4 5 clears grows strict")) (nilA)))))) (callN 2 m__law_draw (consA (varM 0) (consA (litM (.int 4)) (nilA)))))) (nxM)) (seqM (ifM (bT (op2M eqD (varM 6) (litM (.int 5)))) (setIxM (op2M addD (op2M ixD (varM 1) (varM 2)) (litM (.str " "))) (varM 1) (varM 2)) (nxM)) (seqM (ifM (bT (op2M eqD (varM 6) (litM (.int 6)))) (seqM (setM 7 (popE (varM 1) (varM 2))) (insM (varM 1) (callN 2 m__law_draw (consA (varM 0) (consA (op2M addD (callM lenF (consA (varM 1) (nilA))) (litM (.int 1))) (nilA)))) (varM 7))) (nxM)) (ifM (andT (bT (op2M eqD (varM 6) (litM (.int 7)))) (bT (op2M gtD (callM lenF (consA (varM 1) (nilA))) (litM (.int 1))))) (popAtM (varM 1) (varM 2)) (nxM)))))))))))))
def m__law_spoil : FM := funM true 2 6 b__law_spoil
abbrev s_law : Stmt := (top 35)
theorem sc_law : FnScope ["_law_script", "_law_draws", "_law_accounts", "_law_places", "_law_lines_here", "_law_k", "_law_told", "_law_book", "e"] ["_law_script"] (defScope s_law) := ⟨rfl, rfl, rfl, by decide +kernel, rfl, by decide +kernel, by decide +kernel⟩
def b_law : SM := seqM (setM 1 (callN 1 m__law_begin (consA (varM 0) (nilA)))) (seqM (asgM (callN 1 m__law_sizes (consA (varM 1) (nilA))) (tupT [nameT 2, nameT 3])) (seqM (setM 4 (callN 3 m__law_lines (consA (callN 2 m__law_rules (consA (varM 1) (consA (litM (.int 3)) (nilA)))) (consA (varM 2) (consA (varM 3) (nilA)))))) (seqM (forM (iRng1M (consA (callN 2 m__law_draw (consA (varM 1) (consA (litM (.int 4)) (nilA)))) (nilA))) (nameT 5) (dropM (callN 2 m__law_spoil (consA (varM 1) (consA (varM 4) (nilA)))))) (seqM (setM 6 (litM (.int 0))) (seqM (setM 7 (litM .non)) (seqM (tryM [("BadRule", "BadLine", false), ("BadCount", "BadLine", false), ("BadLine", "BadLine", true)] (setM 7 (callN 1 m_read (consA (methM joinF (strR (litM (.str "\n"))) (consA (varM 4) (nilA))) (nilA)))) [⟨"BadLine", some 8, xfM "BadLine" "line" 6⟩]) (retM (andV (op2M eqD (varM 6) (callN 1 m__law_wrong (consA (varM 4) (nilA)))) (orV (op2M gtD (varM 6) (litM (.int 0))) (op2M eqD (callN 1 m_write (consA (varM 7) (nilA))) (methM joinF (strR (litM (.str "\n"))) (consA (varM 4) (nilA)))))))))))))
def m_law : FM := funM true 1 8 b_law
section
variable {P : Program} {w : World} {K : PySem.W.Frag} {mg : Str → Option Value} {base : Heap}
theorem kx_BadRule (Z : Zf K mg) : ClX P w K mg base 1 "BadRule" "index" := by
  obtain ⟨fd, F⟩ := Z.d_BadRule_init
  exact ⟨_, fd, _, fn_x F sc_BadRule_init rfl Z.o_BadRule Z.n_BadRule_index rfl rfl (by rfl) (by rfl) (by decide) (by decide) (by decide) (by decide) (fun _ _ _ _ _ _ => rfl), Z.g_BadRule, Z.o_BadRule, Z.xi_BadRule.1, Z.xi_BadRule.2, F.bindsN (ps := ["self", "index"]) fun _ _ _ _ _ _ us hl => match us, hl with | [_, _], _ => rfl⟩
theorem kx_BadLine (Z : Zf K mg) : ClX P w K mg base 1 "BadLine" "line" := by
  obtain ⟨fd, F⟩ := Z.d_BadLine_init
  exact ⟨_, fd, _, fn_x F sc_BadLine_init rfl Z.o_BadLine Z.n_BadLine_line rfl rfl (by rfl) (by rfl) (by decide) (by decide) (by decide) (by decide) (fun _ _ _ _ _ _ => rfl), Z.g_BadLine, Z.o_BadLine, Z.xi_BadLine.1, Z.xi_BadLine.2, F.bindsN (ps := ["self", "line"]) fun _ _ _ _ _ _ us hl => match us, hl with | [_, _], _ => rfl⟩
theorem okF_is_number (Z : Zf K mg) {fd : FuncData} (F : FunD K "is_number" "is_number" (defArgs (top 9)) (defBody (top 9)) (defScope (top 9)) [] [] (He.ga K "is_number") fd) : FnOk P w K mg base (L2.CX P w) 1 (He.ga K "is_number") fd ["value", "least", "most"] (spM K w 3 m_is_number) := fn_m (keep := true) F sc_is_number rfl fun cdv A outer s H E hr tk hp => mss_one (ms_ret (me_and (me_callB cm_isi Z.f_isinstance rfl MM.boot_isinstance (ma_cons (me_var 0) (ma_cons (me_ty Z.f_int rfl MM.boot_int) (ma_nil)))) (me_and (me_not (me_callB cm_isi Z.f_isinstance rfl MM.boot_isinstance (ma_cons (me_var 0) (ma_cons (me_ty Z.f_bool rfl MM.boot_bool) (ma_nil))))) (me_one (me_chain om_le om_le (me_var 1) (me_var 0) (me_var 2))))))
theorem ok_is_number (Z : Zf K mg) : ∃ fd, FnOk P w K mg base (L2.CX P w) 1 (He.ga K "is_number") fd ["value", "least", "most"] (spM K w 3 m_is_number) ∧ PySem.W.keepIn K (.ref (He.ga K "is_number")) = true ∧ Binds K fd ["value", "least", "most"] [] := by
  obtain ⟨fd, F⟩ := Z.d_is_number
  exact ⟨fd, okF_is_number Z F, F.kp, (F.bindsN (ps := ["value", "least", "most"]) fun _ _ _ _ _ _ us hl => match us, hl with | [_, _, _], _ => rfl)⟩
theorem cl_is_number (Z : Zf K mg) : Cl P w K mg base 1 "is_number" 3 m_is_number := by
  obtain ⟨fd, F, kp, b⟩ := ok_is_number (P := P) (w := w) (base := base) Z
  exact ⟨_, fd, _, F, Z.g_is_number, kp, b⟩
theorem okF_is_rule (Z : Zf K mg) {fd : FuncData} (F : FunD K "is_rule" "is_rule" (defArgs (top 10)) (defBody (top 10)) (defScope (top 10)) [] [] (He.ga K "is_rule") fd) : FnOk P w K mg base (L2.CX P w) 2 (He.ga K "is_rule") fd ["value"] (spM K w 1 m_is_rule) := fn_m (keep := true) F sc_is_rule rfl fun cdv A outer s H E hr tk hp => mss_cons (ms_if (PW.pt (mw_or (mt_not (mt_tru (me_callB cm_isi Z.f_isinstance rfl MM.boot_isinstance (ma_cons (me_var 0) (ma_cons (me_ty Z.f_tuple rfl MM.boot_tuple) (ma_nil)))))) (mw_or (mt_cmp (om_ne hr.units) (me_callB cm_len Z.f_len rfl MM.boot_len (ma_cons (me_var 0) (ma_nil))) (me_int) (nomark _)) (mw_or (mt_not (mt_tru (me_callB cm_isi Z.f_isinstance rfl MM.boot_isinstance (ma_cons (me_ix om_ix (me_var 0) (me_int) (plainIx _)) (ma_cons (me_ty Z.f_str rfl MM.boot_str) (ma_nil)))))) (mw_or1 (mt_cmp (om_nin (un65 hr)) (me_ix om_ix (me_var 0) (me_int) (plainIx _)) (me_glob (glb Z.k_KEYS) rfl) (by with_unfolding_all rfl))))))) (mss_one (ms_ret (me_bl))) (mss_nil)) (mss_cons (ms_if (PW.pt (mw_or (mt_not (mt_tru (me_call (cl_is_number Z) hr (by decide) tk (ma_cons (me_ix om_ix (me_var 0) (me_int) (plainIx _)) (ma_cons (me_int) (ma_cons (me_int) (ma_nil))))))) (mw_or (mt_not (mt_tru (me_call (cl_is_number Z) hr (by decide) tk (ma_cons (me_ix om_ix (me_var 0) (me_int) (plainIx _)) (ma_cons (me_int) (ma_cons (me_int) (ma_nil))))))) (mw_or1 (mt_not (mt_tru (me_call (cl_is_number Z) hr (by decide) tk (ma_cons (me_ix om_ix (me_var 0) (me_int) (plainIx _)) (ma_cons (me_int) (ma_cons (me_int) (ma_nil))))))))))) (mss_one (ms_ret (me_bl))) (mss_nil)) (mss_one (ms_ret (me_callB (cm_all rfl) Z.f_all rfl MM.boot_all (ma_cons (me_new (mn_lc (own := [("one", 1)]) rfl sc_is_rule.nd (mi_seq (me_sl (me_var 0) (mo_some (me_int)) (mo_none))) (blk_of (by rfl)) (by decide) (fun _ _ _ _ _ => mg_name 1 sc_is_rule.nd) (fun _ _ _ _ _ => MTs_nil) (fun _ _ _ _ _ => me_callB cm_isi Z.f_isinstance rfl MM.boot_isinstance (ma_cons (me_var 1) (ma_cons (me_ty Z.f_bool rfl MM.boot_bool) (ma_nil)))))) (ma_nil))))))
theorem ok_is_rule (Z : Zf K mg) : ∃ fd, FnOk P w K mg base (L2.CX P w) 2 (He.ga K "is_rule") fd ["value"] (spM K w 1 m_is_rule) ∧ PySem.W.keepIn K (.ref (He.ga K "is_rule")) = true ∧ Binds K fd ["value"] [] := by
  obtain ⟨fd, F⟩ := Z.d_is_rule
  exact ⟨fd, okF_is_rule Z F, F.kp, (F.bindsN (ps := ["value"]) fun _ _ _ _ _ _ us hl => match us, hl with | [_], _ => rfl)⟩
theorem cl_is_rule (Z : Zf K mg) : Cl P w K mg base 2 "is_rule" 1 m_is_rule := by
  obtain ⟨fd, F, kp, b⟩ := ok_is_rule (P := P) (w := w) (base := base) Z
  exact ⟨_, fd, _, F, Z.g_is_rule, kp, b⟩
theorem okF_Book_init (Z : Zf K mg) {fd : FuncData} (F : FunD K "__init__" "Book.__init__" (defArgs (kid (top 11) 0)) (defBody (kid (top 11) 0)) (defScope (kid (top 11) 0)) [] [] (He.fAd K ("Book", some "__init__")) fd) : FnOk P w K mg base (L2.CX P w) 3 (He.fAd K ("Book", some "__init__")) fd ["self", "rules", "accounts", "places"] (spM K w 4 m_Book_init) := fn_m (keep := true) F sc_Book_init rfl fun cdv A outer s H E hr tk hp => mss_cons (ms_if (mt_cmp om_gt (me_callB cm_len Z.f_len rfl MM.boot_len (ma_cons (me_var 1) (ma_nil))) (me_glob (glb Z.k_MOST_RULES) rfl) (nomark _)) (mss_one (ms_raise1 (kx_BadRule Z) hr (by decide) tk (me_glob (glb Z.k_MOST_RULES) rfl))) (mss_nil)) (mss_cons (ms_for hp rfl (mi_enum Z.f_enumerate (ma_cons (me_var 1) (ma_nil))) (mg_tup rfl (mgs_cons (mg_name 4 sc_Book_init.nd) (mgs_cons (mg_name 5 sc_Book_init.nd) (mgs_nil)))) (mss_one (ms_if (mt_not (mt_tru (me_call (cl_is_rule Z) hr (by decide) tk (ma_cons (me_var 5) (ma_nil))))) (mss_one (ms_raise1 (kx_BadRule Z) hr (by decide) tk (me_var 4))) (mss_nil)))) (mss_cons (ms_if (PW.pt (mw_or (mt_not (mt_tru (me_call (cl_is_number Z) hr (by decide) tk (ma_cons (me_var 2) (ma_cons (me_int) (ma_cons (me_int) (ma_nil))))))) (mw_or (mt_not (mt_tru (me_call (cl_is_number Z) hr (by decide) tk (ma_cons (me_var 3) (ma_cons (me_int) (ma_cons (me_int) (ma_nil))))))) (mw_or1 (mt_cmp om_gt (me_op om_mul (me_var 2) (me_var 3)) (me_int) (nomark _)))))) (mss_one (ms_raise (ExcF.to Z.x_BadCount) tk)) (mss_nil)) (mss_cons (ms_fld ⟨Z.c_Book, Z.n_Book_rules⟩ (me_var 0) (me_callT cm_tuple Z.f_tuple rfl MM.boot_tuple (ma_cons (me_var 1) (ma_nil)))) (mss_cons (ms_fld ⟨Z.c_Book, Z.n_Book_accounts⟩ (me_var 0) (me_var 2)) (mss_one (ms_fld ⟨Z.c_Book, Z.n_Book_places⟩ (me_var 0) (me_var 3)))))))
theorem ok_Book_init (Z : Zf K mg) : ∃ fd, FnOk P w K mg base (L2.CX P w) 3 (He.fAd K ("Book", some "__init__")) fd ["self", "rules", "accounts", "places"] (spM K w 4 m_Book_init) ∧ PySem.W.keepIn K (.ref (He.fAd K ("Book", some "__init__"))) = true ∧ Binds K fd ["self", "rules", "accounts", "places"] [] := by
  obtain ⟨fd, F⟩ := Z.d_Book_init
  exact ⟨fd, okF_Book_init Z F, F.kp, (F.bindsN (ps := ["self", "rules", "accounts", "places"]) fun _ _ _ _ _ _ us hl => match us, hl with | [_, _, _, _], _ => rfl)⟩
theorem cm_Book (Z : Zf K mg) : ClM P w K mg base 3 "Book" 4 m_Book_init := by
  obtain ⟨fd, F, kp, b⟩ := ok_Book_init (P := P) (w := w) (base := base) Z
  exact ⟨_, fd, _, F, Z.g_Book, Z.mk_Book, b⟩
theorem okF_rule_line (Z : Zf K mg) {fd : FuncData} (F : FunD K "rule_line" "rule_line" (defArgs (top 15)) (defBody (top 15)) (defScope (top 15)) [] [] (He.ga K "rule_line") fd) : FnOk P w K mg base (L2.CX P w) 1 (He.ga K "rule_line") fd ["rule"] (spM K w 1 m_rule_line) := fn_m (keep := true) F sc_rule_line rfl fun cdv A outer s H E hr tk hp => mss_cons (ms_set 1 sc_rule_line.nd (me_op om_add (me_lst (ma_cons (me_ix om_ix (me_var 0) (me_int) (plainIx _)) (ma_nil))) (me_new (mn_lc (own := [("number", 2)]) rfl sc_rule_line.nd (mi_seq (me_sl (me_var 0) (mo_some (me_int)) (mo_some (me_int)))) (blk_of (by rfl)) (by decide) (fun _ _ _ _ _ => mg_name 2 sc_rule_line.nd) (fun _ _ _ _ _ => MTs_nil) (fun _ _ _ _ _ => me_callT cm_str Z.f_str rfl MM.boot_str (ma_cons (me_var 2) (ma_nil))))))) (mss_one (ms_ret (me_join (me_str) (ma_cons (me_op om_add (me_var 1) (me_new (mn_lc (own := [("word", 3), ("one", 4)]) rfl sc_rule_line.nd (mi_zip Z.f_zip (ma_cons (me_glob (glb Z.k_WORDS) rfl) (ma_cons (me_sl (me_var 0) (mo_some (me_int)) (mo_none)) (ma_nil)))) (blk_of (by rfl)) (by decide) (fun _ _ _ _ _ => mg_tup rfl (mgs_cons (mg_name 3 sc_rule_line.nd) (mgs_cons (mg_name 4 sc_rule_line.nd) (mgs_nil)))) (fun _ _ _ _ _ => MTs_nil) (fun _ _ _ _ _ => me_if (mt_tru (me_var 4)) (me_var 3) (me_str))))) (ma_nil)))))
theorem ok_rule_line (Z : Zf K mg) : ∃ fd, FnOk P w K mg base (L2.CX P w) 1 (He.ga K "rule_line") fd ["rule"] (spM K w 1 m_rule_line) ∧ PySem.W.keepIn K (.ref (He.ga K "rule_line")) = true ∧ Binds K fd ["rule"] [] := by
  obtain ⟨fd, F⟩ := Z.d_rule_line
  exact ⟨fd, okF_rule_line Z F, F.kp, (F.bindsN (ps := ["rule"]) fun _ _ _ _ _ _ us hl => match us, hl with | [_], _ => rfl)⟩
theorem cl_rule_line (Z : Zf K mg) : Cl P w K mg base 1 "rule_line" 1 m_rule_line := by
  obtain ⟨fd, F, kp, b⟩ := ok_rule_line (P := P) (w := w) (base := base) Z
  exact ⟨_, fd, _, F, Z.g_rule_line, kp, b⟩
theorem okF_write (Z : Zf K mg) {fd : FuncData} (F : FunD K "write" "write" (defArgs (top 16)) (defBody (top 16)) (defScope (top 16)) [] [] (He.ga K "write") fd) : FnOk P w K mg base (L2.CX P w) 2 (He.ga K "write") fd ["book"] (spM K w 1 m_write) := fn_m (keep := true) F sc_write rfl fun cdv A outer s H E hr tk hp => mss_one (ms_ret (me_join (me_str) (ma_cons (me_op om_add (me_lst (ma_cons (me_joined (.cons (me_str) (.cons (me_fmt (me_fld ⟨Z.c_Book, Z.n_Book_accounts⟩ (me_var 0))) (.cons (me_str) (.cons (me_fmt (me_fld ⟨Z.c_Book, Z.n_Book_places⟩ (me_var 0))) (.nil)))))) (ma_nil))) (me_new (mn_lc (own := [("rule", 1)]) rfl sc_write.nd (mi_seq (me_fld ⟨Z.c_Book, Z.n_Book_rules⟩ (me_var 0))) (blk_of (by rfl)) (by decide) (fun _ _ _ _ _ => mg_name 1 sc_write.nd) (fun _ _ _ _ _ => MTs_nil) (fun _ _ _ _ _ => me_call (cl_rule_line Z) hr (by decide) takesBlk (ma_cons (me_var 1) (ma_nil)))))) (ma_nil))))
theorem ok_write (Z : Zf K mg) : ∃ fd, FnOk P w K mg base (L2.CX P w) 2 (He.ga K "write") fd ["book"] (spM K w 1 m_write) ∧ PySem.W.keepIn K (.ref (He.ga K "write")) = true ∧ Binds K fd ["book"] [] := by
  obtain ⟨fd, F⟩ := Z.d_write
  exact ⟨fd, okF_write Z F, F.kp, (F.bindsN (ps := ["book"]) fun _ _ _ _ _ _ us hl => match us, hl with | [_], _ => rfl)⟩
theorem cl_write (Z : Zf K mg) : Cl P w K mg base 2 "write" 1 m_write := by
  obtain ⟨fd, F, kp, b⟩ := ok_write (P := P) (w := w) (base := base) Z
  exact ⟨_, fd, _, F, Z.g_write, kp, b⟩
theorem okF_number_of (Z : Zf K mg) {fd : FuncData} (F : FunD K "number_of" "number_of" (defArgs (top 17)) (defBody (top 17)) (defScope (top 17)) [] [] (He.ga K "number_of") fd) : FnOk P w K mg base (L2.CX P w) 1 (He.ga K "number_of") fd ["word"] (spM K w 1 m_number_of) := fn_m (keep := true) F sc_number_of rfl fun cdv A outer s H E hr tk hp => mss_one (ms_ret (me_if (PW.pt (mw_and (mt_cmp (om_eq hr.units) (me_callB cm_len Z.f_len rfl MM.boot_len (ma_cons (me_var 0) (ma_nil))) (me_int) (nomark _)) (mw_and1 (mt_cmp (om_in (un65 hr)) (me_var 0) (me_glob (glb Z.k_FIGURES) rfl) (by with_unfolding_all rfl))))) (me_callT cm_int Z.f_int rfl MM.boot_int (ma_cons (me_var 0) (ma_nil))) (me_non)))
theorem ok_number_of (Z : Zf K mg) : ∃ fd, FnOk P w K mg base (L2.CX P w) 1 (He.ga K "number_of") fd ["word"] (spM K w 1 m_number_of) ∧ PySem.W.keepIn K (.ref (He.ga K "number_of")) = true ∧ Binds K fd ["word"] [] := by
  obtain ⟨fd, F⟩ := Z.d_number_of
  exact ⟨fd, okF_number_of Z F, F.kp, (F.bindsN (ps := ["word"]) fun _ _ _ _ _ _ us hl => match us, hl with | [_], _ => rfl)⟩
theorem cl_number_of (Z : Zf K mg) : Cl P w K mg base 1 "number_of" 1 m_number_of := by
  obtain ⟨fd, F, kp, b⟩ := ok_number_of (P := P) (w := w) (base := base) Z
  exact ⟨_, fd, _, F, Z.g_number_of, kp, b⟩
theorem okF_rule_of (Z : Zf K mg) {fd : FuncData} (F : FunD K "rule_of" "rule_of" (defArgs (top 18)) (defBody (top 18)) (defScope (top 18)) [] [] (He.ga K "rule_of") fd) : FnOk P w K mg base (L2.CX P w) 3 (He.ga K "rule_of") fd ["line"] (spM K w 1 m_rule_of) := fn_m (keep := true) F sc_rule_of rfl fun cdv A outer s H E hr tk hp => mss_cons (ms_set 1 sc_rule_of.nd (me_split (me_var 0) (ma_cons (me_str) (ma_nil)))) (mss_cons (ms_if (mt_cmp (om_ne hr.units) (me_callB cm_len Z.f_len rfl MM.boot_len (ma_cons (me_var 1) (ma_nil))) (me_int) (nomark _)) (mss_one (ms_ret (me_non))) (mss_nil)) (mss_cons (ms_set 2 sc_rule_of.nd (me_op om_add (me_op om_add (me_tup (ma_cons (me_ix om_ix (me_var 1) (me_int) (plainIx _)) (ma_nil))) (me_callT cm_tuple Z.f_tuple rfl MM.boot_tuple (ma_cons (me_new (mn_lc (own := [("word", 3)]) rfl sc_rule_of.nd (mi_seq (me_sl (me_var 1) (mo_some (me_int)) (mo_some (me_int)))) (blk_of (by rfl)) (by decide) (fun _ _ _ _ _ => mg_name 3 sc_rule_of.nd) (fun _ _ _ _ _ => MTs_nil) (fun _ _ _ _ _ => me_call (cl_number_of Z) hr (by decide) takesBlk (ma_cons (me_var 3) (ma_nil))))) (ma_nil)))) (me_callT cm_tuple Z.f_tuple rfl MM.boot_tuple (ma_cons (me_new (mn_lc (own := [("word", 3)]) rfl sc_rule_of.nd (mi_seq (me_sl (me_var 1) (mo_some (me_int)) (mo_none))) (blk_of (by rfl)) (by decide) (fun _ _ _ _ _ => mg_name 3 sc_rule_of.nd) (fun _ _ _ _ _ => MTs_nil) (fun _ _ _ _ _ => me_cmp (om_ne hr.units) (me_var 3) (me_str) (nomark _)))) (ma_nil))))) (mss_one (ms_ret (me_if (PW.pt (mw_and (mt_tru (me_call (cl_is_rule Z) hr (by decide) tk (ma_cons (me_var 2) (ma_nil)))) (mw_and1 (mt_cmp (om_eq hr.units) (me_call (cl_rule_line Z) hr (by decide) tk (ma_cons (me_var 2) (ma_nil))) (me_var 0) (nomark _))))) (me_var 2) (me_non))))))
theorem ok_rule_of (Z : Zf K mg) : ∃ fd, FnOk P w K mg base (L2.CX P w) 3 (He.ga K "rule_of") fd ["line"] (spM K w 1 m_rule_of) ∧ PySem.W.keepIn K (.ref (He.ga K "rule_of")) = true ∧ Binds K fd ["line"] [] := by
  obtain ⟨fd, F⟩ := Z.d_rule_of
  exact ⟨fd, okF_rule_of Z F, F.kp, (F.bindsN (ps := ["line"]) fun _ _ _ _ _ _ us hl => match us, hl with | [_], _ => rfl)⟩
theorem cl_rule_of (Z : Zf K mg) : Cl P w K mg base 3 "rule_of" 1 m_rule_of := by
  obtain ⟨fd, F, kp, b⟩ := ok_rule_of (P := P) (w := w) (base := base) Z
  exact ⟨_, fd, _, F, Z.g_rule_of, kp, b⟩
theorem okF_read (Z : Zf K mg) {fd : FuncData} (F : FunD K "read" "read" (defArgs (top 19)) (defBody (top 19)) (defScope (top 19)) [] [] (He.ga K "read") fd) : FnOk P w K mg base (L2.CX P w) 5 (He.ga K "read") fd ["text"] (spM K w 1 m_read) := fn_m (keep := true) F sc_read rfl fun cdv A outer s H E hr tk hp => mss_cons (ms_set 1 sc_read.nd (me_split (me_var 0) (ma_cons (me_str) (ma_nil)))) (mss_cons (ms_set 2 sc_read.nd (me_split (me_ix om_ix (me_var 1) (me_int) (plainIx _)) (ma_cons (me_str) (ma_nil)))) (mss_cons (ms_set 3 sc_read.nd (me_non)) (mss_cons (ms_if (PW.pt (mw_and (mt_cmp (om_eq hr.units) (me_callB cm_len Z.f_len rfl MM.boot_len (ma_cons (me_var 2) (ma_nil))) (me_int) (nomark _)) (mw_and1 (mt_cmp (om_eq hr.units) (me_ix om_ix (me_var 2) (me_int) (plainIx _)) (me_str) (nomark _))))) (mss_one (ms_try [("BadRule", "LockError", true), ("BadCount", "LockError", true), ("BadLine", "LockError", true)] sc_read.nd tk (tab_cons Z.t_BadRule_LockError (tab_cons Z.t_BadCount_LockError (tab_cons Z.t_BadLine_LockError (tab_nil)))) (fun W2 pn2 xe2 tk2 hp2 => mss_one (ms_set 3 sc_read.nd (me_frz (me_make (cm_Book Z) hr (by decide) tk2 (ma_cons (me_lst (ma_nil)) (ma_cons (me_call (cl_number_of Z) hr (by decide) tk2 (ma_cons (me_ix om_ix (me_var 2) (me_int) (plainIx _)) (ma_nil))) (ma_cons (me_call (cl_number_of Z) hr (by decide) tk2 (ma_cons (me_ix om_ix (me_var 2) (me_int) (plainIx _)) (ma_nil))) (ma_nil)))))))) (.cons (names_of Z.g_LockError) (fun a oe cls dd pn hz hf => hs_plain (mss_one (ms_set 3 sc_read.nd (me_non)))) (.nil)))) (mss_nil)) (mss_cons (ms_if (mt_cmp om_is (me_var 3) (me_non) (nomark _)) (mss_one (ms_raise1 (kx_BadLine Z) hr (by decide) tk (me_int))) (mss_nil)) (mss_cons (ms_lcG (own := [("line", 7)]) rfl sc_read.nd (mi_seq (me_sl (me_var 1) (mo_some (me_int)) (mo_none))) (blk_of (by rfl)) (by decide) (fun _ _ _ _ _ => mg_name 7 sc_read.nd) (fun _ _ _ _ _ => MTs_nil) (fun _ _ _ _ _ => me_call (cl_rule_of Z) hr (by decide) takesBlk (ma_cons (me_var 7) (ma_nil))) (fun _ _ _ h => setNew h)) (mss_cons (ms_for hp rfl (mi_enum Z.f_enumerate (ma_cons (me_var 4) (ma_nil))) (mg_tup rfl (mgs_cons (mg_name 5 sc_read.nd) (mgs_cons (mg_name 6 sc_read.nd) (mgs_nil)))) (mss_one (ms_if (PW.pt (mw_or (mt_cmp om_is (me_var 6) (me_non) (nomark _)) (mw_or1 (mt_cmp om_ge (me_var 5) (me_int) (nomark _))))) (mss_one (ms_raise1 (kx_BadLine Z) hr (by decide) tk (me_op om_add (me_var 5) (me_int)))) (mss_nil)))) (mss_one (ms_ret (me_frz (me_make (cm_Book Z) hr (by decide) tk (ma_cons (me_var 4) (ma_cons (me_fld ⟨Z.c_Book, Z.n_Book_accounts⟩ (me_var 3)) (ma_cons (me_fld ⟨Z.c_Book, Z.n_Book_places⟩ (me_var 3)) (ma_nil))))))))))))))
theorem ok_read (Z : Zf K mg) : ∃ fd, FnOk P w K mg base (L2.CX P w) 5 (He.ga K "read") fd ["text"] (spM K w 1 m_read) ∧ PySem.W.keepIn K (.ref (He.ga K "read")) = true ∧ Binds K fd ["text"] [] := by
  obtain ⟨fd, F⟩ := Z.d_read
  exact ⟨fd, okF_read Z F, F.kp, (F.bindsN (ps := ["text"]) fun _ _ _ _ _ _ us hl => match us, hl with | [_], _ => rfl)⟩
theorem cl_read (Z : Zf K mg) : Cl P w K mg base 5 "read" 1 m_read := by
  obtain ⟨fd, F, kp, b⟩ := ok_read (P := P) (w := w) (base := base) Z
  exact ⟨_, fd, _, F, Z.g_read, kp, b⟩
theorem okF__law_begin (Z : Zf K mg) {fd : FuncData} (F : FunD K "_law_begin" "_law_begin" (defArgs (top 21)) (defBody (top 21)) (defScope (top 21)) [] [] (He.ga K "_law_begin") fd) : FnOk P w K mg base (L2.CX P w) 1 (He.ga K "_law_begin") fd ["_law_script"] (spM K w 1 m__law_begin) := fn_m (keep := true) F sc__law_begin rfl fun cdv A outer s H E hr tk hp => mss_one (ms_ret (me_loc (mn_lst (ma_cons (me_callT cm_list Z.f_list rfl MM.boot_list (ma_cons (me_var 0) (ma_nil))) (ma_cons (me_int) (ma_cons (me_int) (ma_cons (me_int) (ma_nil))))))))
theorem ok__law_begin (Z : Zf K mg) : ∃ fd, FnOk P w K mg base (L2.CX P w) 1 (He.ga K "_law_begin") fd ["_law_script"] (spM K w 1 m__law_begin) ∧ PySem.W.keepIn K (.ref (He.ga K "_law_begin")) = true ∧ Binds K fd ["_law_script"] [] := by
  obtain ⟨fd, F⟩ := Z.d__law_begin
  exact ⟨fd, okF__law_begin Z F, F.kp, (F.bindsN (ps := ["_law_script"]) fun _ _ _ _ _ _ us hl => match us, hl with | [_], _ => rfl)⟩
theorem cl__law_begin (Z : Zf K mg) : Cl P w K mg base 1 "_law_begin" 1 m__law_begin := by
  obtain ⟨fd, F, kp, b⟩ := ok__law_begin (P := P) (w := w) (base := base) Z
  exact ⟨_, fd, _, F, Z.g__law_begin, kp, b⟩
theorem okF__law_draw (Z : Zf K mg) {fd : FuncData} (F : FunD K "_law_draw" "_law_draw" (defArgs (top 22)) (defBody (top 22)) (defScope (top 22)) [] [] (He.ga K "_law_draw") fd) : FnOk P w K mg base (L2.CX P w) 1 (He.ga K "_law_draw") fd ["_law_draws", "_law_many"] (spM K w 2 m__law_draw) := fn_m (keep := true) F sc__law_draw rfl fun cdv A outer s H E hr tk hp => mss_cons (ms_if (mt_cmp (om_eq hr.units) (me_ix om_ix (me_var 0) (me_int) (plainIx _)) (me_int) (nomark _)) (mss_one (ms_if (mt_cmp om_lt (me_ix om_ix (me_var 0) (me_int) (plainIx _)) (me_callB cm_len Z.f_len rfl MM.boot_len (ma_cons (me_ix om_ix (me_var 0) (me_int) (plainIx _)) (ma_nil))) (nomark _)) (mss_cons (ms_set 2 sc__law_draw.nd (me_ix om_ix (me_ix om_ix (me_var 0) (me_int) (plainIx _)) (me_ix om_ix (me_var 0) (me_int) (plainIx _)) (plainIx _))) (mss_cons (ms_setIx (me_op om_add (me_ix om_ix (me_var 0) (me_int) (plainIx _)) (me_int)) (me_var 0) (me_int)) (mss_one (ms_if (mt_cmp om_ge (me_var 2) (me_op om_pow (me_int) (me_int)) (nomark _)) (mss_one (ms_setIx (me_var 2) (me_var 0) (me_int))) (mss_one (ms_setIx (me_op om_mod (me_callT cm_int Z.f_int rfl MM.boot_int (ma_cons (me_op om_add (me_op om_add (me_op om_mul (me_ix om_ix (me_var 0) (me_int) (plainIx _)) (me_int)) (me_op om_mul (me_var 2) (me_int))) (me_int)) (ma_nil))) (me_int)) (me_var 0) (me_int))))))) (mss_one (ms_setIx (me_op om_mod (me_callT cm_int Z.f_int rfl MM.boot_int (ma_cons (me_op om_add (me_op om_mul (me_ix om_ix (me_var 0) (me_int) (plainIx _)) (me_int)) (me_int)) (ma_nil))) (me_int)) (me_var 0) (me_int))))) (mss_nil)) (mss_cons (ms_if (mt_cmp om_gt (me_ix om_ix (me_var 0) (me_int) (plainIx _)) (me_int) (nomark _)) (mss_cons (ms_set 3 sc__law_draw.nd (me_op om_mod (me_callT cm_int Z.f_int rfl MM.boot_int (ma_cons (me_ix om_ix (me_var 0) (me_int) (plainIx _)) (ma_nil))) (me_var 1))) (mss_cons (ms_setIx (me_op om_div (me_ix om_ix (me_var 0) (me_int) (plainIx _)) (me_var 1)) (me_var 0) (me_int)) (mss_one (ms_ret (me_var 3))))) (mss_nil)) (mss_one (ms_ret (me_op om_mod (me_op om_mod (me_callT cm_int Z.f_int rfl MM.boot_int (ma_cons (me_op om_mul (me_ix om_ix (me_var 0) (me_int) (plainIx _)) (me_int)) (ma_nil))) (me_int)) (me_var 1)))))
theorem ok__law_draw (Z : Zf K mg) : ∃ fd, FnOk P w K mg base (L2.CX P w) 1 (He.ga K "_law_draw") fd ["_law_draws", "_law_many"] (spM K w 2 m__law_draw) ∧ PySem.W.keepIn K (.ref (He.ga K "_law_draw")) = true ∧ Binds K fd ["_law_draws", "_law_many"] [] := by
  obtain ⟨fd, F⟩ := Z.d__law_draw
  exact ⟨fd, okF__law_draw Z F, F.kp, (F.bindsN (ps := ["_law_draws", "_law_many"]) fun _ _ _ _ _ _ us hl => match us, hl with | [_, _], _ => rfl)⟩
theorem cl__law_draw (Z : Zf K mg) : Cl P w K mg base 1 "_law_draw" 2 m__law_draw := by
  obtain ⟨fd, F, kp, b⟩ := ok__law_draw (P := P) (w := w) (base := base) Z
  exact ⟨_, fd, _, F, Z.g__law_draw, kp, b⟩
theorem okF__law_flag (Z : Zf K mg) {fd : FuncData} (F : FunD K "_law_flag" "_law_flag" (defArgs (top 23)) (defBody (top 23)) (defScope (top 23)) [] [] (He.ga K "_law_flag") fd) : FnOk P w K mg base (L2.CX P w) 2 (He.ga K "_law_flag") fd ["_law_draws"] (spM K w 1 m__law_flag) := fn_m (keep := true) F sc__law_flag rfl fun cdv A outer s H E hr tk hp => mss_one (ms_ret (me_cmp (om_eq hr.units) (me_call (cl__law_draw Z) hr (by decide) tk (ma_cons (me_var 0) (ma_cons (me_int) (ma_nil)))) (me_int) (nomark _)))
theorem ok__law_flag (Z : Zf K mg) : ∃ fd, FnOk P w K mg base (L2.CX P w) 2 (He.ga K "_law_flag") fd ["_law_draws"] (spM K w 1 m__law_flag) ∧ PySem.W.keepIn K (.ref (He.ga K "_law_flag")) = true ∧ Binds K fd ["_law_draws"] [] := by
  obtain ⟨fd, F⟩ := Z.d__law_flag
  exact ⟨fd, okF__law_flag Z F, F.kp, (F.bindsN (ps := ["_law_draws"]) fun _ _ _ _ _ _ us hl => match us, hl with | [_], _ => rfl)⟩
theorem cl__law_flag (Z : Zf K mg) : Cl P w K mg base 2 "_law_flag" 1 m__law_flag := by
  obtain ⟨fd, F, kp, b⟩ := ok__law_flag (P := P) (w := w) (base := base) Z
  exact ⟨_, fd, _, F, Z.g__law_flag, kp, b⟩
theorem okF__law_rule (Z : Zf K mg) {fd : FuncData} (F : FunD K "_law_rule" "_law_rule" (defArgs (top 24)) (defBody (top 24)) (defScope (top 24)) [] [] (He.ga K "_law_rule") fd) : FnOk P w K mg base (L2.CX P w) 3 (He.ga K "_law_rule") fd ["_law_draws"] (spM K w 1 m__law_rule) := fn_m (keep := true) F sc__law_rule rfl fun cdv A outer s H E hr tk hp => mss_cons (ms_set 1 sc__law_rule.nd (me_ix om_ix (me_lst (ma_cons (me_str) (ma_cons (me_str) (ma_cons (me_str) (ma_nil))))) (me_call (cl__law_draw Z) hr (by decide) tk (ma_cons (me_var 0) (ma_cons (me_int) (ma_nil)))) (plainIx _))) (mss_cons (ms_set 2 sc__law_rule.nd (me_op om_add (me_int) (me_call (cl__law_draw Z) hr (by decide) tk (ma_cons (me_var 0) (ma_cons (me_int) (ma_nil)))))) (mss_cons (ms_set 3 sc__law_rule.nd (me_op om_add (me_int) (me_call (cl__law_draw Z) hr (by decide) tk (ma_cons (me_var 0) (ma_cons (me_int) (ma_nil)))))) (mss_cons (ms_set 4 sc__law_rule.nd (me_ix om_ix (me_lst (ma_cons (me_int) (ma_cons (me_int) (ma_cons (me_int) (ma_cons (me_int) (ma_cons (me_int) (ma_nil))))))) (me_call (cl__law_draw Z) hr (by decide) tk (ma_cons (me_var 0) (ma_cons (me_int) (ma_nil)))) (plainIx _))) (mss_one (ms_ret (me_tup (ma_cons (me_var 1) (ma_cons (me_var 2) (ma_cons (me_var 3) (ma_cons (me_var 4) (ma_cons (me_call (cl__law_flag Z) hr (by decide) tk (ma_cons (me_var 0) (ma_nil))) (ma_cons (me_call (cl__law_flag Z) hr (by decide) tk (ma_cons (me_var 0) (ma_nil))) (ma_cons (me_call (cl__law_flag Z) hr (by decide) tk (ma_cons (me_var 0) (ma_nil))) (ma_nil))))))))))))))
theorem ok__law_rule (Z : Zf K mg) : ∃ fd, FnOk P w K mg base (L2.CX P w) 3 (He.ga K "_law_rule") fd ["_law_draws"] (spM K w 1 m__law_rule) ∧ PySem.W.keepIn K (.ref (He.ga K "_law_rule")) = true ∧ Binds K fd ["_law_draws"] [] := by
  obtain ⟨fd, F⟩ := Z.d__law_rule
  exact ⟨fd, okF__law_rule Z F, F.kp, (F.bindsN (ps := ["_law_draws"]) fun _ _ _ _ _ _ us hl => match us, hl with | [_], _ => rfl)⟩
theorem cl__law_rule (Z : Zf K mg) : Cl P w K mg base 3 "_law_rule" 1 m__law_rule := by
  obtain ⟨fd, F, kp, b⟩ := ok__law_rule (P := P) (w := w) (base := base) Z
  exact ⟨_, fd, _, F, Z.g__law_rule, kp, b⟩
theorem okF__law_sizes (Z : Zf K mg) {fd : FuncData} (F : FunD K "_law_sizes" "_law_sizes" (defArgs (top 25)) (defBody (top 25)) (defScope (top 25)) [] [] (He.ga K "_law_sizes") fd) : FnOk P w K mg base (L2.CX P w) 2 (He.ga K "_law_sizes") fd ["_law_draws"] (spM K w 1 m__law_sizes) := fn_m (keep := true) F sc__law_sizes rfl fun cdv A outer s H E hr tk hp => mss_one (ms_ret (me_ix om_ix (me_lst (ma_cons (me_tup (ma_cons (me_int) (ma_cons (me_int) (ma_nil)))) (ma_cons (me_tup (ma_cons (me_int) (ma_cons (me_int) (ma_nil)))) (ma_cons (me_tup (ma_cons (me_int) (ma_cons (me_int) (ma_nil)))) (ma_cons (me_tup (ma_cons (me_int) (ma_cons (me_int) (ma_nil)))) (ma_nil)))))) (me_call (cl__law_draw Z) hr (by decide) tk (ma_cons (me_var 0) (ma_cons (me_int) (ma_nil)))) (plainIx _)))
theorem ok__law_sizes (Z : Zf K mg) : ∃ fd, FnOk P w K mg base (L2.CX P w) 2 (He.ga K "_law_sizes") fd ["_law_draws"] (spM K w 1 m__law_sizes) ∧ PySem.W.keepIn K (.ref (He.ga K "_law_sizes")) = true ∧ Binds K fd ["_law_draws"] [] := by
  obtain ⟨fd, F⟩ := Z.d__law_sizes
  exact ⟨fd, okF__law_sizes Z F, F.kp, (F.bindsN (ps := ["_law_draws"]) fun _ _ _ _ _ _ us hl => match us, hl with | [_], _ => rfl)⟩
theorem cl__law_sizes (Z : Zf K mg) : Cl P w K mg base 2 "_law_sizes" 1 m__law_sizes := by
  obtain ⟨fd, F, kp, b⟩ := ok__law_sizes (P := P) (w := w) (base := base) Z
  exact ⟨_, fd, _, F, Z.g__law_sizes, kp, b⟩
theorem okF__law_rules (Z : Zf K mg) {fd : FuncData} (F : FunD K "_law_rules" "_law_rules" (defArgs (top 26)) (defBody (top 26)) (defScope (top 26)) [] [] (He.ga K "_law_rules") fd) : FnOk P w K mg base (L2.CX P w) 4 (He.ga K "_law_rules") fd ["_law_draws", "_law_most"] (spM K w 2 m__law_rules) := fn_m (keep := true) F sc__law_rules rfl fun cdv A outer s H E hr tk hp => mss_one (ms_ret (me_new (mn_lc (own := [("_law_k", 2)]) rfl sc__law_rules.nd (mi_range1 Z.f_range (ma_cons (me_call (cl__law_draw Z) hr (by decide) tk (ma_cons (me_var 0) (ma_cons (me_op om_add (me_var 1) (me_int)) (ma_nil)))) (ma_nil))) (blk_of (by rfl)) (by decide) (fun _ _ _ _ _ => mg_name 2 sc__law_rules.nd) (fun _ _ _ _ _ => MTs_nil) (fun _ _ _ _ _ => me_call (cl__law_rule Z) hr (by decide) takesBlk (ma_cons (me_var 0) (ma_nil))))))
theorem ok__law_rules (Z : Zf K mg) : ∃ fd, FnOk P w K mg base (L2.CX P w) 4 (He.ga K "_law_rules") fd ["_law_draws", "_law_most"] (spM K w 2 m__law_rules) ∧ PySem.W.keepIn K (.ref (He.ga K "_law_rules")) = true ∧ Binds K fd ["_law_draws", "_law_most"] [] := by
  obtain ⟨fd, F⟩ := Z.d__law_rules
  exact ⟨fd, okF__law_rules Z F, F.kp, (F.bindsN (ps := ["_law_draws", "_law_most"]) fun _ _ _ _ _ _ us hl => match us, hl with | [_, _], _ => rfl)⟩
theorem cl__law_rules (Z : Zf K mg) : Cl P w K mg base 4 "_law_rules" 2 m__law_rules := by
  obtain ⟨fd, F, kp, b⟩ := ok__law_rules (P := P) (w := w) (base := base) Z
  exact ⟨_, fd, _, F, Z.g__law_rules, kp, b⟩
theorem okF__law_line (Z : Zf K mg) {fd : FuncData} (F : FunD K "_law_line" "_law_line" (defArgs (top 29)) (defBody (top 29)) (defScope (top 29)) [] [] (He.ga K "_law_line") fd) : FnOk P w K mg base (L2.CX P w) 1 (He.ga K "_law_line") fd ["_law_rule_here"] (spM K w 1 m__law_line) := fn_m (keep := true) F sc__law_line rfl fun cdv A outer s H E hr tk hp => mss_cons (ms_own 1 sc__law_line.nd (mn_add (me_lst (ma_cons (me_ix om_ix (me_var 0) (me_int) (plainIx _)) (ma_nil))) (me_new (mn_lc (own := [("_law_number", 3)]) rfl sc__law_line.nd (mi_seq (me_sl (me_var 0) (mo_some (me_int)) (mo_some (me_int)))) (blk_of (by rfl)) (by decide) (fun _ _ _ _ _ => mg_name 3 sc__law_line.nd) (fun _ _ _ _ _ => MTs_nil) (fun _ _ _ _ _ => me_callT cm_str Z.f_str rfl MM.boot_str (ma_cons (me_var 3) (ma_nil))))))) (mss_cons (ms_for hp rfl (mi_range1 Z.f_range (ma_cons (me_int) (ma_nil))) (mg_name 2 sc__law_line.nd) (mss_one (ms_app (me_var 1) (me_ix om_ix (me_lst (ma_cons (me_str) (ma_cons (me_ix om_ix (me_lst (ma_cons (me_str) (ma_cons (me_str) (ma_cons (me_str) (ma_nil))))) (me_var 2) (plainIx _)) (ma_nil)))) (me_callT cm_int Z.f_int rfl MM.boot_int (ma_cons (me_ix om_ix (me_var 0) (me_op om_add (me_int) (me_var 2)) (plainIx _)) (ma_nil))) (plainIx _))))) (mss_one (ms_ret (me_join (me_str) (ma_cons (me_var 1) (ma_nil))))))
theorem ok__law_line (Z : Zf K mg) : ∃ fd, FnOk P w K mg base (L2.CX P w) 1 (He.ga K "_law_line") fd ["_law_rule_here"] (spM K w 1 m__law_line) ∧ PySem.W.keepIn K (.ref (He.ga K "_law_line")) = true ∧ Binds K fd ["_law_rule_here"] [] := by
  obtain ⟨fd, F⟩ := Z.d__law_line
  exact ⟨fd, okF__law_line Z F, F.kp, (F.bindsN (ps := ["_law_rule_here"]) fun _ _ _ _ _ _ us hl => match us, hl with | [_], _ => rfl)⟩
theorem cl__law_line (Z : Zf K mg) : Cl P w K mg base 1 "_law_line" 1 m__law_line := by
  obtain ⟨fd, F, kp, b⟩ := ok__law_line (P := P) (w := w) (base := base) Z
  exact ⟨_, fd, _, F, Z.g__law_line, kp, b⟩
theorem okF__law_lines (Z : Zf K mg) {fd : FuncData} (F : FunD K "_law_lines" "_law_lines" (defArgs (top 30)) (defBody (top 30)) (defScope (top 30)) [] [] (He.ga K "_law_lines") fd) : FnOk P w K mg base (L2.CX P w) 2 (He.ga K "_law_lines") fd ["_law_rules_here", "_law_accounts", "_law_places"] (spM K w 3 m__law_lines) := fn_m (keep := true) F sc__law_lines rfl fun cdv A outer s H E hr tk hp => mss_one (ms_ret (me_loc (mn_add (me_lst (ma_cons (me_op om_add (me_op om_add (me_op om_add (me_str) (me_callT cm_str Z.f_str rfl MM.boot_str (ma_cons (me_var 1) (ma_nil)))) (me_str)) (me_callT cm_str Z.f_str rfl MM.boot_str (ma_cons (me_var 2) (ma_nil)))) (ma_nil))) (me_new (mn_lc (own := [("_law_rule_here", 3)]) rfl sc__law_lines.nd (mi_seq (me_var 0)) (blk_of (by rfl)) (by decide) (fun _ _ _ _ _ => mg_name 3 sc__law_lines.nd) (fun _ _ _ _ _ => MTs_nil) (fun _ _ _ _ _ => me_call (cl__law_line Z) hr (by decide) takesBlk (ma_cons (me_var 3) (ma_nil))))))))
theorem ok__law_lines (Z : Zf K mg) : ∃ fd, FnOk P w K mg base (L2.CX P w) 2 (He.ga K "_law_lines") fd ["_law_rules_here", "_law_accounts", "_law_places"] (spM K w 3 m__law_lines) ∧ PySem.W.keepIn K (.ref (He.ga K "_law_lines")) = true ∧ Binds K fd ["_law_rules_here", "_law_accounts", "_law_places"] [] := by
  obtain ⟨fd, F⟩ := Z.d__law_lines
  exact ⟨fd, okF__law_lines Z F, F.kp, (F.bindsN (ps := ["_law_rules_here", "_law_accounts", "_law_places"]) fun _ _ _ _ _ _ us hl => match us, hl with | [_, _, _], _ => rfl)⟩
theorem cl__law_lines (Z : Zf K mg) : Cl P w K mg base 2 "_law_lines" 3 m__law_lines := by
  obtain ⟨fd, F, kp, b⟩ := ok__law_lines (P := P) (w := w) (base := base) Z
  exact ⟨_, fd, _, F, Z.g__law_lines, kp, b⟩
theorem okF__law_in (Z : Zf K mg) {fd : FuncData} (F : FunD K "_law_in" "_law_in" (defArgs (top 31)) (defBody (top 31)) (defScope (top 31)) [] [] (He.ga K "_law_in") fd) : FnOk P w K mg base (L2.CX P w) 1 (He.ga K "_law_in") fd ["_law_word", "_law_low", "_law_high"] (spM K w 3 m__law_in) := fn_m (keep := true) F sc__law_in rfl fun cdv A outer s H E hr tk hp => mss_one (ms_ret (me_cmp (om_in (un65 hr)) (me_var 0) (me_new (mn_lc (own := [("_law_number", 3)]) rfl sc__law_in.nd (mi_range2 Z.f_range (ma_cons (me_var 1) (ma_cons (me_op om_add (me_var 2) (me_int)) (ma_nil)))) (blk_of (by rfl)) (by decide) (fun _ _ _ _ _ => mg_name 3 sc__law_in.nd) (fun _ _ _ _ _ => MTs_nil) (fun _ _ _ _ _ => me_callT cm_str Z.f_str rfl MM.boot_str (ma_cons (me_var 3) (ma_nil))))) (by with_unfolding_all rfl)))
theorem ok__law_in (Z : Zf K mg) : ∃ fd, FnOk P w K mg base (L2.CX P w) 1 (He.ga K "_law_in") fd ["_law_word", "_law_low", "_law_high"] (spM K w 3 m__law_in) ∧ PySem.W.keepIn K (.ref (He.ga K "_law_in")) = true ∧ Binds K fd ["_law_word", "_law_low", "_law_high"] [] := by
  obtain ⟨fd, F⟩ := Z.d__law_in
  exact ⟨fd, okF__law_in Z F, F.kp, (F.bindsN (ps := ["_law_word", "_law_low", "_law_high"]) fun _ _ _ _ _ _ us hl => match us, hl with | [_, _, _], _ => rfl)⟩
theorem cl__law_in (Z : Zf K mg) : Cl P w K mg base 1 "_law_in" 3 m__law_in := by
  obtain ⟨fd, F, kp, b⟩ := ok__law_in (P := P) (w := w) (base := base) Z
  exact ⟨_, fd, _, F, Z.g__law_in, kp, b⟩
theorem okF__law_rule_good (Z : Zf K mg) {fd : FuncData} (F : FunD K "_law_rule_good" "_law_rule_good" (defArgs (top 32)) (defBody (top 32)) (defScope (top 32)) [] [] (He.ga K "_law_rule_good") fd) : FnOk P w K mg base (L2.CX P w) 2 (He.ga K "_law_rule_good") fd ["_law_line_here"] (spM K w 1 m__law_rule_good) := fn_m (keep := true) F sc__law_rule_good rfl fun cdv A outer s H E hr tk hp => mss_cons (ms_set 1 sc__law_rule_good.nd (me_split (me_var 0) (ma_cons (me_str) (ma_nil)))) (mss_cons (ms_if (PW.pt (mw_or (mt_cmp (om_ne hr.units) (me_callB cm_len Z.f_len rfl MM.boot_len (ma_cons (me_var 1) (ma_nil))) (me_int) (nomark _)) (mw_or1 (mt_cmp (om_nin (un65 hr)) (me_ix om_ix (me_var 1) (me_int) (plainIx _)) (me_lst (ma_cons (me_str) (ma_cons (me_str) (ma_cons (me_str) (ma_nil))))) (by with_unfolding_all rfl))))) (mss_one (ms_ret (me_bl))) (mss_nil)) (mss_cons (ms_if (PW.pt (mw_or (mt_not (mt_tru (me_call (cl__law_in Z) hr (by decide) tk (ma_cons (me_ix om_ix (me_var 1) (me_int) (plainIx _)) (ma_cons (me_int) (ma_cons (me_int) (ma_nil))))))) (mw_or (mt_not (mt_tru (me_call (cl__law_in Z) hr (by decide) tk (ma_cons (me_ix om_ix (me_var 1) (me_int) (plainIx _)) (ma_cons (me_int) (ma_cons (me_int) (ma_nil))))))) (mw_or1 (mt_not (mt_tru (me_call (cl__law_in Z) hr (by decide) tk (ma_cons (me_ix om_ix (me_var 1) (me_int) (plainIx _)) (ma_cons (me_int) (ma_cons (me_int) (ma_nil))))))))))) (mss_one (ms_ret (me_bl))) (mss_nil)) (mss_one (ms_ret (me_callB (cm_all rfl) Z.f_all rfl MM.boot_all (ma_cons (me_new (mn_lc (own := [("_law_k", 2)]) rfl sc__law_rule_good.nd (mi_range1 Z.f_range (ma_cons (me_int) (ma_nil))) (blk_of (by rfl)) (by decide) (fun _ _ _ _ _ => mg_name 2 sc__law_rule_good.nd) (fun _ _ _ _ _ => MTs_nil) (fun _ _ _ _ _ => me_cmp (om_in (un65 hr)) (me_ix om_ix (me_var 1) (me_op om_add (me_int) (me_var 2)) (plainIx _)) (me_lst (ma_cons (me_str) (ma_cons (me_ix om_ix (me_lst (ma_cons (me_str) (ma_cons (me_str) (ma_cons (me_str) (ma_nil))))) (me_var 2) (plainIx _)) (ma_nil)))) (by with_unfolding_all rfl)))) (ma_nil)))))))
theorem ok__law_rule_good (Z : Zf K mg) : ∃ fd, FnOk P w K mg base (L2.CX P w) 2 (He.ga K "_law_rule_good") fd ["_law_line_here"] (spM K w 1 m__law_rule_good) ∧ PySem.W.keepIn K (.ref (He.ga K "_law_rule_good")) = true ∧ Binds K fd ["_law_line_here"] [] := by
  obtain ⟨fd, F⟩ := Z.d__law_rule_good
  exact ⟨fd, okF__law_rule_good Z F, F.kp, (F.bindsN (ps := ["_law_line_here"]) fun _ _ _ _ _ _ us hl => match us, hl with | [_], _ => rfl)⟩
theorem cl__law_rule_good (Z : Zf K mg) : Cl P w K mg base 2 "_law_rule_good" 1 m__law_rule_good := by
  obtain ⟨fd, F, kp, b⟩ := ok__law_rule_good (P := P) (w := w) (base := base) Z
  exact ⟨_, fd, _, F, Z.g__law_rule_good, kp, b⟩
theorem okF__law_wrong (Z : Zf K mg) {fd : FuncData} (F : FunD K "_law_wrong" "_law_wrong" (defArgs (top 33)) (defBody (top 33)) (defScope (top 33)) [] [] (He.ga K "_law_wrong") fd) : FnOk P w K mg base (L2.CX P w) 3 (He.ga K "_law_wrong") fd ["_law_lines_here"] (spM K w 1 m__law_wrong) := fn_m (keep := true) F sc__law_wrong rfl fun cdv A outer s H E hr tk hp => mss_cons (ms_if (mt_cmp (om_nin (un65 hr)) (me_ix om_ix (me_var 0) (me_int) (plainIx _)) (me_lst (ma_cons (me_str) (ma_cons (me_str) (ma_cons (me_str) (ma_nil))))) (by with_unfolding_all rfl)) (mss_one (ms_ret (me_int))) (mss_nil)) (mss_cons (ms_for hp rfl (mi_range2 Z.f_range (ma_cons (me_int) (ma_cons (me_callB cm_len Z.f_len rfl MM.boot_len (ma_cons (me_var 0) (ma_nil))) (ma_nil)))) (mg_name 1 sc__law_wrong.nd) (mss_one (ms_if (PW.pt (mw_or (mt_cmp om_gt (me_var 1) (me_int) (nomark _)) (mw_or1 (mt_not (mt_tru (me_call (cl__law_rule_good Z) hr (by decide) tk (ma_cons (me_ix om_ix (me_var 0) (me_var 1) (plainIx _)) (ma_nil)))))))) (mss_one (ms_ret (me_op om_add (me_var 1) (me_int)))) (mss_nil)))) (mss_one (ms_ret (me_int))))
theorem ok__law_wrong (Z : Zf K mg) : ∃ fd, FnOk P w K mg base (L2.CX P w) 3 (He.ga K "_law_wrong") fd ["_law_lines_here"] (spM K w 1 m__law_wrong) ∧ PySem.W.keepIn K (.ref (He.ga K "_law_wrong")) = true ∧ Binds K fd ["_law_lines_here"] [] := by
  obtain ⟨fd, F⟩ := Z.d__law_wrong
  exact ⟨fd, okF__law_wrong Z F, F.kp, (F.bindsN (ps := ["_law_lines_here"]) fun _ _ _ _ _ _ us hl => match us, hl with | [_], _ => rfl)⟩
theorem cl__law_wrong (Z : Zf K mg) : Cl P w K mg base 3 "_law_wrong" 1 m__law_wrong := by
  obtain ⟨fd, F, kp, b⟩ := ok__law_wrong (P := P) (w := w) (base := base) Z
  exact ⟨_, fd, _, F, Z.g__law_wrong, kp, b⟩
theorem okF__law_spoil (Z : Zf K mg) {fd : FuncData} (F : FunD K "_law_spoil" "_law_spoil" (defArgs (top 34)) (defBody (top 34)) (defScope (top 34)) [] [] (He.ga K "_law_spoil") fd) : FnOk P w K mg base (L2.CX P w) 2 (He.ga K "_law_spoil") fd ["_law_draws", "_law_lines_here"] (spM K w 2 m__law_spoil) := fn_m (keep := true) F sc__law_spoil rfl fun cdv A outer s H E hr tk hp => mss_cons (ms_set 2 sc__law_spoil.nd (me_call (cl__law_draw Z) hr (by decide) tk (ma_cons (me_var 0) (ma_cons (me_callB cm_len Z.f_len rfl MM.boot_len (ma_cons (me_var 1) (ma_nil))) (ma_nil))))) (mss_cons (ms_own 3 sc__law_spoil.nd (mn_split (me_ix om_ix (me_var 1) (me_var 2) (plainIx _)) (ma_cons (me_str) (ma_nil)))) (mss_cons (ms_set 4 sc__law_spoil.nd (me_call (cl__law_draw Z) hr (by decide) tk (ma_cons (me_var 0) (ma_cons (me_callB cm_len Z.f_len rfl MM.boot_len (ma_cons (me_var 3) (ma_nil))) (ma_nil))))) (mss_cons (ms_set 5 sc__law_spoil.nd (me_lst (ma_cons (me_str) (ma_cons (me_str) (ma_cons (me_str) (ma_cons (me_str) (ma_cons (me_str) (ma_cons (me_str) (ma_cons (me_str) (ma_cons (me_str) (ma_cons (me_str) (ma_cons (me_str) (ma_cons (me_str) (ma_cons (me_str) (ma_cons (me_str) (ma_cons (me_str) (ma_cons (me_str) (ma_nil)))))))))))))))))) (mss_cons (ms_set 6 sc__law_spoil.nd (me_call (cl__law_draw Z) hr (by decide) tk (ma_cons (me_var 0) (ma_cons (me_int) (ma_nil))))) (mss_cons (ms_if (mt_cmp om_le (me_var 6) (me_int) (nomark _)) (mss_one (ms_setIx (me_ix om_ix (me_var 5) (me_call (cl__law_draw Z) hr (by decide) tk (ma_cons (me_var 0) (ma_cons (me_callB cm_len Z.f_len rfl MM.boot_len (ma_cons (me_var 5) (ma_nil))) (ma_nil)))) (plainIx _)) (me_var 3) (me_var 4))) (mss_nil)) (mss_cons (ms_if (mt_cmp (om_eq hr.units) (me_var 6) (me_int) (nomark _)) (mss_one (ms_popAt (me_var 3) (me_var 4))) (mss_nil)) (mss_cons (ms_if (mt_cmp (om_eq hr.units) (me_var 6) (me_int) (nomark _)) (mss_one (ms_insert (me_var 3) (me_var 4) (me_ix om_ix (me_var 5) (me_call (cl__law_draw Z) hr (by decide) tk (ma_cons (me_var 0) (ma_cons (me_callB cm_len Z.f_len rfl MM.boot_len (ma_cons (me_var 5) (ma_nil))) (ma_nil)))) (plainIx _)))) (mss_nil)) (mss_cons (ms_setIx (me_join (me_str) (ma_cons (me_var 3) (ma_nil))) (me_var 1) (me_var 2)) (mss_cons (ms_if (mt_cmp (om_eq hr.units) (me_var 6) (me_int) (nomark _)) (mss_one (ms_insert (me_var 1) (me_var 2) (me_ix om_ix (me_lst (ma_cons (me_str) (ma_cons (me_str) (ma_cons (me_str) (ma_cons (me_str) (ma_nil)))))) (me_call (cl__law_draw Z) hr (by decide) tk (ma_cons (me_var 0) (ma_cons (me_int) (ma_nil)))) (plainIx _)))) (mss_nil)) (mss_cons (ms_if (mt_cmp (om_eq hr.units) (me_var 6) (me_int) (nomark _)) (mss_one (ms_setIx (me_op om_add (me_ix om_ix (me_var 1) (me_var 2) (plainIx _)) (me_str)) (me_var 1) (me_var 2))) (mss_nil)) (mss_cons (ms_if (mt_cmp (om_eq hr.units) (me_var 6) (me_int) (nomark _)) (mss_cons (ms_set 7 sc__law_spoil.nd (me_popAt (me_var 1) (me_var 2))) (mss_one (ms_insert (me_var 1) (me_call (cl__law_draw Z) hr (by decide) tk (ma_cons (me_var 0) (ma_cons (me_op om_add (me_callB cm_len Z.f_len rfl MM.boot_len (ma_cons (me_var 1) (ma_nil))) (me_int)) (ma_nil)))) (me_var 7)))) (mss_nil)) (mss_one (ms_if (PW.pt (mw_and (mt_cmp (om_eq hr.units) (me_var 6) (me_int) (nomark _)) (mw_and1 (mt_cmp om_gt (me_callB cm_len Z.f_len rfl MM.boot_len (ma_cons (me_var 1) (ma_nil))) (me_int) (nomark _))))) (mss_one (ms_popAt (me_var 1) (me_var 2))) (mss_nil))))))))))))))
theorem ok__law_spoil (Z : Zf K mg) : ∃ fd, FnOk P w K mg base (L2.CX P w) 2 (He.ga K "_law_spoil") fd ["_law_draws", "_law_lines_here"] (spM K w 2 m__law_spoil) ∧ PySem.W.keepIn K (.ref (He.ga K "_law_spoil")) = true ∧ Binds K fd ["_law_draws", "_law_lines_here"] [] := by
  obtain ⟨fd, F⟩ := Z.d__law_spoil
  exact ⟨fd, okF__law_spoil Z F, F.kp, (F.bindsN (ps := ["_law_draws", "_law_lines_here"]) fun _ _ _ _ _ _ us hl => match us, hl with | [_, _], _ => rfl)⟩
theorem cl__law_spoil (Z : Zf K mg) : Cl P w K mg base 2 "_law_spoil" 2 m__law_spoil := by
  obtain ⟨fd, F, kp, b⟩ := ok__law_spoil (P := P) (w := w) (base := base) Z
  exact ⟨_, fd, _, F, Z.g__law_spoil, kp, b⟩
theorem okF_law (Z : Zf K mg) {fd : FuncData} (F : FunD K "law" "law" (defArgs (top 35)) (defBody (top 35)) (defScope (top 35)) [] [] (He.ga K "law") fd) : FnOk P w K mg base (L2.CX P w) 6 (He.ga K "law") fd ["_law_script"] (spM K w 1 m_law) := fn_m (keep := true) F sc_law rfl fun cdv A outer s H E hr tk hp => mss_cons (ms_set 1 sc_law.nd (me_call (cl__law_begin Z) hr (by decide) tk (ma_cons (me_var 0) (ma_nil)))) (mss_cons (ms_asg (me_call (cl__law_sizes Z) hr (by decide) tk (ma_cons (me_var 1) (ma_nil))) (mg_tup rfl (mgs_cons (mg_name 2 sc_law.nd) (mgs_cons (mg_name 3 sc_law.nd) (mgs_nil))))) (mss_cons (ms_set 4 sc_law.nd (me_call (cl__law_lines Z) hr (by decide) tk (ma_cons (me_call (cl__law_rules Z) hr (by decide) tk (ma_cons (me_var 1) (ma_cons (me_int) (ma_nil)))) (ma_cons (me_var 2) (ma_cons (me_var 3) (ma_nil)))))) (mss_cons (ms_for hp rfl (mi_range1 Z.f_range (ma_cons (me_call (cl__law_draw Z) hr (by decide) tk (ma_cons (me_var 1) (ma_cons (me_int) (ma_nil)))) (ma_nil))) (mg_name 5 sc_law.nd) (mss_one (ms_expr (me_call (cl__law_spoil Z) hr (by decide) tk (ma_cons (me_var 1) (ma_cons (me_var 4) (ma_nil))))))) (mss_cons (ms_set 6 sc_law.nd (me_int)) (mss_cons (ms_set 7 sc_law.nd (me_non)) (mss_cons (ms_try [("BadRule", "BadLine", false), ("BadCount", "BadLine", false), ("BadLine", "BadLine", true)] sc_law.nd tk (tab_cons Z.t_BadRule_BadLine (tab_cons Z.t_BadCount_BadLine (tab_cons Z.t_BadLine_BadLine (tab_nil)))) (fun W2 pn2 xe2 tk2 hp2 => mss_one (ms_set 7 sc_law.nd (me_call (cl_read Z) hr (by decide) tk2 (ma_cons (me_join (me_str) (ma_cons (me_var 4) (ma_nil))) (ma_nil))))) (.consAs (i := 8) rfl rfl (names_of Z.g_BadLine) (fun a oe cls dd pn hz hf => hs_fld 8 6 Z.xf_BadLine Z.n_BadLine_line hz hf sc_law.nd) (.nil))) (mss_one (ms_ret (me_and (me_cmp (om_eq hr.units) (me_var 6) (me_call (cl__law_wrong Z) hr (by decide) tk (ma_cons (me_var 4) (ma_nil))) (nomark _)) (me_one (me_or (me_cmp om_gt (me_var 6) (me_int) (nomark _)) (me_one (me_cmp (om_eq hr.units) (me_call (cl_write Z) hr (by decide) tk (ma_cons (me_var 7) (ma_nil))) (me_join (me_str) (ma_cons (me_var 4) (ma_nil))) (nomark _))))))))))))))
theorem ok_law (Z : Zf K mg) : ∃ fd, FnOk P w K mg base (L2.CX P w) 6 (He.ga K "law") fd ["_law_script"] (spM K w 1 m_law) ∧ PySem.W.keepIn K (.ref (He.ga K "law")) = true ∧ Binds K fd ["_law_script"] [] := by
  obtain ⟨fd, F⟩ := Z.d_law
  exact ⟨fd, okF_law Z F, F.kp, (F.bindsN (ps := ["_law_script"]) fun _ _ _ _ _ _ us hl => match us, hl with | [_], _ => rfl)⟩
theorem cl_law (Z : Zf K mg) : Cl P w K mg base 6 "law" 1 m_law := by
  obtain ⟨fd, F, kp, b⟩ := ok_law (P := P) (w := w) (base := base) Z
  exact ⟨_, fd, _, F, Z.g_law, kp, b⟩
end
end
end K14
namespace K14
open PySem PySem.Spec PyProof.Rows L2 MM
theorem draw_eq : m__law_draw = drawF := rfl
theorem draw {S : Sto} {n : Nat} {many : Int} (h : DrwAt S n) (h0 : 0 < many) (h1 : many < 1073741824) : ∃ (v : Int) (c : Cell), m__law_draw [.loc n, .d (.int many)] S = some (.ok (.d (.int v)), S.set n c) ∧ 0 ≤ v ∧ v < many ∧ DrwAt (S.set n c) n := draw_ok h h0 h1
theorem flag {S : Sto} {n : Nat} (h : DrwAt S n) : ∃ (b : Bool) (c : Cell), m__law_flag [.loc n] S = some (.ok (.d (.bl b)), S.set n c) ∧ DrwAt (S.set n c) n := by
  obtain ⟨v, c, e, _, _, h'⟩ := draw (many := 2) h (by decide) (by decide)
  refine ⟨decide (v = 1), c, ?_, h'⟩
  unfold m__law_flag b__law_flag
  rw [funM_ap, if_pos (by simp)]
  simp [frame0, e]
/-- a good rule -/
def ruleD (k : Str) (a b c : Int) (f g h : Bool) : D := .tup [.str k, .int a, .int b, .int c, .bl f, .bl g, .bl h]
def GoodR (d : D) : Prop := ∃ k a b c f g h, d = ruleD k a b c f g h ∧ (k = "account" ∨ k = "place" ∨ k = "both") ∧ (1 ≤ a ∧ a ≤ 3) ∧ (1 ≤ b ∧ b ≤ 4) ∧ (0 ≤ c ∧ c ≤ 5)
theorem three {v : Int} (h0 : 0 ≤ v) (h1 : v < 3) : v = 0 ∨ v = 1 ∨ v = 2 := by omega
theorem four {v : Int} (h0 : 0 ≤ v) (h1 : v < 4) : v = 0 ∨ v = 1 ∨ v = 2 ∨ v = 3 := by omega
theorem five {v : Int} (h0 : 0 ≤ v) (h1 : v < 5) : v = 0 ∨ v = 1 ∨ v = 2 ∨ v = 3 ∨ v = 4 := by omega
theorem szl (n : Nat) (h : n ≤ 16777216) : n ≤ sizeLine := h
theorem rule {S : Sto} {n : Nat} (h : DrwAt S n) : ∃ (r : D) (c : Cell), m__law_rule [.loc n] S = some (.ok (.d r), S.set n c) ∧ GoodR r ∧ DrwAt (S.set n c) n := by
  obtain ⟨v1, c1, e1, a1, b1, h1⟩ := draw (many := 3) h (by decide) (by decide)
  obtain ⟨v2, c2, e2, a2, b2, h2⟩ := draw (many := 3) h1 (by decide) (by decide)
  obtain ⟨v3, c3, e3, a3, b3, h3⟩ := draw (many := 4) h2 (by decide) (by decide)
  obtain ⟨v4, c4, e4, a4, b4, h4⟩ := draw (many := 5) h3 (by decide) (by decide)
  obtain ⟨f1, c5, e5, h5⟩ := flag h4
  obtain ⟨f2, c6, e6, h6⟩ := flag h5
  obtain ⟨f3, c7, e7, h7⟩ := flag h6
  obtain ⟨k, hk, gk⟩ : ∃ k : Str, atI [D.str "account", .str "place", .str "both"] v1 = some (.str k) ∧ (k = "account" ∨ k = "place" ∨ k = "both") := by
    rcases three a1 b1 with rfl | rfl | rfl
    · exact ⟨"account", rfl, .inl rfl⟩
    · exact ⟨"place", rfl, .inr (.inl rfl)⟩
    · exact ⟨"both", rfl, .inr (.inr rfl)⟩
  obtain ⟨fd, hf, gf⟩ : ∃ k : Int, atI [D.int 0, .int 1, .int 2, .int 3, .int 5] v4 = some (.int k) ∧ 0 ≤ k ∧ k ≤ 5 := by
    rcases five a4 b4 with rfl | rfl | rfl | rfl | rfl
    · exact ⟨0, rfl, by decide, by decide⟩
    · exact ⟨1, rfl, by decide, by decide⟩
    · exact ⟨2, rfl, by decide, by decide⟩
    · exact ⟨3, rfl, by decide, by decide⟩
    · exact ⟨5, rfl, by decide, by decide⟩
  refine ⟨ruleD k (1 + v2) (1 + v3) fd f1 f2 f3, c7, ?_, ⟨k, _, _, _, _, _, _, rfl, gk, by omega, by omega, gf⟩, by simpa [List.set_set] using h7⟩
  simp only [List.set_set] at e1 e2 e3 e4 e5 e6 e7
  unfold m__law_rule b__law_rule
  rw [funM_ap, if_pos (by simp)]
  have z5 : (5 : Nat) ≤ sizeLine := by decide
  have z3 : (3 : Nat) ≤ sizeLine := by decide
  have z7 : (7 : Nat) ≤ sizeLine := by decide
  simp [frame0, e1, e2, e3, e4, e5, e6, e7, hk, hf, z3, z5, z7, ruleD]
theorem sizes {S : Sto} {n : Nat} (h : DrwAt S n) : ∃ (a p : Int) (c : Cell), m__law_sizes [.loc n] S = some (.ok (.d (.tup [.int a, .int p])), S.set n c) ∧ ((a = 1 ∧ p = 1) ∨ (a = 2 ∧ p = 1) ∨ (a = 1 ∧ p = 2)) ∧ DrwAt (S.set n c) n := by
  obtain ⟨v, c, e, a1, b1, h'⟩ := draw (many := 4) h (by decide) (by decide)
  obtain ⟨a, p, hk, gk⟩ : ∃ a p : Int, atI [D.tup [.int 1, .int 1], .tup [.int 2, .int 1], .tup [.int 1, .int 2], .tup [.int 2, .int 1]] v = some (.tup [.int a, .int p]) ∧ ((a = 1 ∧ p = 1) ∨ (a = 2 ∧ p = 1) ∨ (a = 1 ∧ p = 2)) := by
    rcases four a1 b1 with rfl | rfl | rfl | rfl
    · exact ⟨1, 1, rfl, by decide⟩
    · exact ⟨2, 1, rfl, by decide⟩
    · exact ⟨1, 2, rfl, by decide⟩
    · exact ⟨2, 1, rfl, by decide⟩
  refine ⟨a, p, c, ?_, gk, h'⟩
  unfold m__law_sizes b__law_sizes
  rw [funM_ap, if_pos (by simp)]
  have z2 : (2 : Nat) ≤ sizeLine := by decide
  have z4 : (4 : Nat) ≤ sizeLine := by decide
  simp [frame0, e, hk, z2, z4]
theorem rules {S : Sto} {n : Nat} (h : DrwAt S n) : ∃ (rs : List D) (c : Cell), m__law_rules [.loc n, .d (.int 3)] S = some (.ok (.d (.lst rs)), S.set n c) ∧ (∀ r ∈ rs, GoodR r) ∧ rs.length ≤ 3 ∧ DrwAt (S.set n c) n := by
  obtain ⟨v, c, e, a1, b1, h1⟩ := draw (many := 4) h (by decide) (by decide)
  have hl : (rngL 0 v.toNat).length = v.toNat := by simp [rngL]
  obtain ⟨res, S', k1, ⟨c', k2, k2', k3⟩, k4⟩ := lc_inv (ρ := [some (.r (.loc n)), some (.r (.d (.int 3))), none]) (vs := [2]) (t := nameT 2) (te := callN 1 m__law_rule (consA (varM 0) nilA))
    (fun acc S1 => ∃ c, S1 = S.set n c ∧ DrwAt S1 n ∧ ∀ r ∈ acc, GoodR r) (rngL 0 v.toNat) [] (S.set n c) ⟨c, rfl, h1, by simp⟩ (by rw [hl]; show 0 + v.toNat ≤ 16777216; omega)
    (fun d hd acc S1 ⟨c1, q1, q2, q3⟩ => by
      obtain ⟨r, c2, e2, g2, h2⟩ := rule q2
      refine ⟨_, r, _, by simp; rfl, by simp [e2], c2, by rw [q1, List.set_set], h2, fun x hx => ?_⟩
      rcases List.mem_append.mp hx with hx | hx
      · exact q3 x hx
      · rw [List.mem_singleton.mp hx]; exact g2)
  refine ⟨res, c', ?_, k3, by rw [k4, hl]; simp; omega, by rw [← k2]; exact k2'⟩
  unfold m__law_rules b__law_rules
  rw [funM_ap, if_pos (by simp)]
  have hr : -(2 ^ 62) ≤ v ∧ v < 2 ^ 62 := by omega
  have hr2 : (-4611686018427387904 : Int) ≤ v := by omega
  have hr3 : v < 4611686018427387904 := by omega
  simp [frame0, e, hr2, hr3, k1, k2]

@[simp] theorem isi_int_int {i : Int} : isiF [.int i, .ty "int"] = some (.bl true) := rfl
@[simp] theorem isi_int_bool {i : Int} : isiF [.int i, .ty "bool"] = some (.bl false) := rfl
@[simp] theorem isi_tup {ds : List D} : isiF [.tup ds, .ty "tuple"] = some (.bl true) := rfl
@[simp] theorem isi_str {x : Str} : isiF [.str x, .ty "str"] = some (.bl true) := rfl
@[simp] theorem isi_bl {x : Bool} : isiF [.bl x, .ty "bool"] = some (.bl true) := rfl
theorem num {v a b : Int} {S : Sto} : m_is_number [.d (.int v), .d (.int a), .d (.int b)] S = some (.ok (.d (.bl (decide (a ≤ v ∧ v ≤ b)))), S) := by
  unfold m_is_number b_is_number
  rw [funM_ap, if_pos (by simp)]
  by_cases h1 : a ≤ v <;> simp [frame0, h1]
theorem cut4 {a b c d e f g : D} : cutD [a, b, c, d, e, f, g] (some 4) none = [e, f, g] := rfl
theorem cut14 {a b c d e f g : D} : cutD [a, b, c, d, e, f, g] (some 1) (some 4) = [b, c, d] := rfl
@[simp] theorem slD_tup {ds : List D} {lo hi : Option Int} : slD (.tup ds) lo hi = some (.tup (cutD ds lo hi)) := rfl
@[simp] theorem slD_lst {ds : List D} {lo hi : Option Int} : slD (.lst ds) lo hi = some (.lst (cutD ds lo hi)) := rfl
theorem inkey {k : Str} (h : k = "account" ∨ k = "place" ∨ k = "both") : inB (.str k) (.tup [.str "account", .str "place", .str "both"]) = some true := by
  rcases h with rfl | rfl | rfl <;> decide +kernel
@[simp] theorem allF_bls {bs : List D} {l : List Bool} (h : blsOf bs = some l) : allF [.lst bs] = some (.bl (l.all id)) := by
  show (blsOf bs).map _ = _
  rw [h]; rfl
theorem is_rule {r : D} {S : Sto} (h : GoodR r) : m_is_rule [.d r] S = some (.ok (.d (.bl true)), S) := by
  obtain ⟨k, a, b, c, f, g, h, rfl, hk, ha, hb, hc⟩ := h
  unfold m_is_rule b_is_rule
  rw [funM_ap, if_pos (by simp)]
  have z0 : (0 : Nat) < sizeLine := by decide
  have z1 : (1 : Nat) < sizeLine := by decide
  have z2 : (2 : Nat) < sizeLine := by decide
  simp [frame0, ruleD, inkey hk, num, ha, hb, hc, cut4, lcL_cons, z0, z1, z2]
  rfl
/-- what Book(..) makes -/
def bookD (rs : List D) (a p : Int) : D := .obj "Book" [("rules", .tup rs), ("accounts", .int a), ("places", .int p)]
theorem loop_rules {rs : List D} (h : ∀ r ∈ rs, GoodR r) {ρ : Fr} {S : Sto} (hl : ρ.length = 6) : ∃ ρ', loopM (tupT [nameT 4, nameT 5]) (ifM (notT (truM (callN 1 m_is_rule (consA (varM 5) (nilA))))) (raise1M "BadRule" "index" (varM 4)) (nxM)) (enumL rs) ρ S = some (.nx, ρ', S) ∧ ρ'.length = 6 ∧ ∀ i, i < 4 → ρ'[i]? = ρ[i]? := by
  obtain ⟨ρ', S', h1, h2, h3, h4⟩ := loop_inv0 (t := tupT [nameT 4, nameT 5]) (body := ifM (notT (truM (callN 1 m_is_rule (consA (varM 5) (nilA))))) (raise1M "BadRule" "index" (varM 4)) (nxM)) (fun _ ρ1 S1 => S1 = S ∧ ρ1.length = 6 ∧ ∀ i, i < 4 → ρ1[i]? = ρ[i]?) (enumL rs) (ρ := ρ) (S := S) ⟨rfl, hl, fun _ _ => rfl⟩ (by
    rintro i d ρ1 S1 hd ⟨rfl, g1, g2⟩
    obtain ⟨r, hr, rfl⟩ : ∃ r, r ∈ rs ∧ d = .tup [.int (i : Int), r] := by
      unfold enumL at hd
      rw [List.getElem?_mapIdx] at hd
      obtain ⟨r, q1, rfl⟩ := Option.map_eq_some_iff.mp hd
      exact ⟨r, List.mem_of_getElem? q1, rfl⟩
    refine ⟨(ρ1.set 4 (some (.r (.d (.int i))))).set 5 (some (.r (.d r))), by simp [g1], (ρ1.set 4 (some (.r (.d (.int i))))).set 5 (some (.r (.d r))), S1, .inl ?_, rfl, by simp [g1], fun j hj => ?_⟩
    · have e5 : ((ρ1.set 4 (some (Ent.r (R.d (D.int i))))).set 5 (some (Ent.r (R.d r))))[5]? = some (some (.r (.d r))) := List.getElem?_set_self (by simp [g1])
      simp [e5, is_rule (h r hr)]
    · rw [List.getElem?_set_ne (by omega), List.getElem?_set_ne (by omega)]; exact g2 j hj)
  subst h2
  exact ⟨ρ', h1, h3, h4⟩
def Sizes (a p : Int) : Prop := (a = 1 ∧ p = 1) ∨ (a = 2 ∧ p = 1) ∨ (a = 1 ∧ p = 2)
theorem Sizes.b {a p : Int} (h : Sizes a p) : (1 ≤ a ∧ a ≤ 2) ∧ (1 ≤ p ∧ p ≤ 2) ∧ ¬ (2 < a * p) ∧ CMul a p := by
  rcases h with ⟨rfl, rfl⟩ | ⟨rfl, rfl⟩ | ⟨rfl, rfl⟩ <;> decide
theorem init {rs : List D} {a p : Int} {S : Sto} (h : ∀ r ∈ rs, GoodR r) (hl : rs.length ≤ 3) (hs : Sizes a p) : m_Book_init [.loc S.length, .d (.lst rs), .d (.int a), .d (.int p)] (S ++ [.ins "Book" []]) = some (.ok (.d .non), S ++ [.ins "Book" [("rules", .d (.tup rs)), ("accounts", .d (.int a)), ("places", .d (.int p))]]) := by
  obtain ⟨h1, h2, h3, h4⟩ := hs.b
  unfold m_Book_init b_Book_init
  rw [funM_ap, if_pos (by simp)]
  have hl' : ¬ (3 : Int) < (rs.length : Int) := by omega
  obtain ⟨ρ', e1, e2, e3⟩ := loop_rules (S := S ++ [.ins "Book" []]) h (ρ := [some (.r (.loc S.length)), some (.r (.d (.lst rs))), some (.r (.d (.int a))), some (.r (.d (.int p))), none, none]) rfl
  have r0 := e3 0 (by decide)
  have r1 := e3 1 (by decide)
  have r2 := e3 2 (by decide)
  have r3 := e3 3 (by decide)
  simp at r0 r1 r2 r3
  simp [frame0, hl', e1, r0, r1, r2, r3, num, h1, h2, h3, h4, putR]
  rfl
theorem make {rs : List D} {a p : Int} {S : Sto} (h : ∀ r ∈ rs, GoodR r) (hl : rs.length ≤ 3) (hs : Sizes a p) {ms : AM} {ρ : Fr} {S0 : Sto} (e : ms ρ S0 = some (.ok [.d (.lst rs), .d (.int a), .d (.int p)], S)) :
    frzM (makeM "Book" 4 m_Book_init ms) ρ S0 = some (.ok (.d (bookD rs a p)), S ++ [.frz (bookD rs a p)]) := by
  simp [e, init h hl hs, bookD]
end K14
namespace K14
open PySem PySem.Spec PyProof.Rows L2 MM TL
def dstr (a : Int) : Str := Str.ofString (toString a)
theorem six {a : Int} (h0 : 0 ≤ a) (h1 : a ≤ 5) : a = 0 ∨ a = 1 ∨ a = 2 ∨ a = 3 ∨ a = 4 ∨ a = 5 := by omega
/-- a word -/
def okW (x : Str) : Prop := x.length ≤ 7 ∧ PyData.strOk x = true ∧ 32 ∉ tl x ∧ 10 ∉ tl x
instance (x : Str) : Decidable (okW x) := by unfold okW; infer_instance
theorem okW_d {a : Int} (h0 : 0 ≤ a) (h1 : a ≤ 5) : okW (dstr a) := by
  rcases six h0 h1 with rfl | rfl | rfl | rfl | rfl | rfl <;> decide +kernel
theorem okW_k {k : Str} (h : k = "account" ∨ k = "place" ∨ k = "both") : okW k := by
  rcases h with rfl | rfl | rfl <;> decide +kernel
def wd (f : Bool) (x : Str) : Str := if f = true then x else "-"
theorem okW_w {f : Bool} {x : Str} (h : okW x) : okW (wd f x) := by
  unfold wd
  split
  · exact h
  · decide +kernel
def wordsOf : D → List Str
  | .tup [.str k, .int a, .int b, .int c, .bl f, .bl g, .bl h] => [k, dstr a, dstr b, dstr c, wd f "clears", wd g "grows", wd h "strict"]
  | _ => []
def lineOf (d : D) : Str := Txt.join " " (wordsOf d)
theorem words_ok {r : D} (h : GoodR r) : (∀ x ∈ wordsOf r, okW x) ∧ (wordsOf r).length = 7 := by
  obtain ⟨k, a, b, c, f, g, h, rfl, hk, ha, hb, hc⟩ := h
  refine ⟨?_, rfl⟩
  have e : wordsOf (ruleD k a b c f g h) = [k, dstr a, dstr b, dstr c, wd f "clears", wd g "grows", wd h "strict"] := rfl
  rw [e]
  intro x hx
  simp only [List.mem_cons, List.not_mem_nil, or_false] at hx
  rcases hx with rfl | rfl | rfl | rfl | rfl | rfl | rfl
  · exact okW_k hk
  · exact okW_d (by omega) (by omega)
  · exact okW_d (by omega) (by omega)
  · exact okW_d (by omega) (by omega)
  · exact okW_w (by decide +kernel)
  · exact okW_w (by decide +kernel)
  · exact okW_w (by decide +kernel)
theorem mem_joinL {s : List Nat} {c : Nat} : ∀ {ps : List (List Nat)}, c ∈ joinL s ps → c ∈ s ∨ ∃ p ∈ ps, c ∈ p
  | [], h => by simp [joinL] at h
  | [p], h => .inr ⟨p, List.mem_singleton.mpr rfl, by simpa [joinL] using h⟩
  | p :: q :: r, h => by
    have h' : c ∈ p ++ (s ++ joinL s (q :: r)) := h
    rcases List.mem_append.mp h' with h | h
    · exact .inr ⟨p, List.mem_cons_self, h⟩
    · rcases List.mem_append.mp h with h | h
      · exact .inl h
      · rcases mem_joinL h with h | ⟨z, hz, h⟩
        · exact .inl h
        · exact .inr ⟨z, List.mem_cons_of_mem _ hz, h⟩
theorem mem_join {y : Str} {parts : List Str} {c : Nat} (h : c ∈ tl (Txt.join y parts)) : c ∈ tl y ∨ ∃ p ∈ parts, c ∈ tl p := by
  rw [join_eq, tl_join] at h
  rcases mem_joinL h with h | ⟨z, hz, h⟩
  · exact .inl h
  · obtain ⟨p, hp, rfl⟩ := List.mem_map.mp hz
    exact .inr ⟨p, hp, h⟩
theorem strOk_iff {x : Str} : PyData.strOk x = true ↔ ∀ c ∈ tl x, c < 0x110000 := by
  unfold PyData.strOk tl
  rw [← Array.all_toList, List.all_eq_true]
  exact ⟨fun h c hc => of_decide_eq_true (h c hc), fun h c hc => decide_eq_true (h c hc)⟩
theorem strOk_join {y : Str} {parts : List Str} (h : PyData.strOk y = true) (hp : ∀ p ∈ parts, PyData.strOk p = true) : PyData.strOk (Txt.join y parts) = true := by
  rw [strOk_iff]
  intro c hc
  rcases mem_join hc with h1 | ⟨p, h1, h2⟩
  · exact strOk_iff.mp h c h1
  · exact strOk_iff.mp (hp p h1) c h2
theorem len_join {y : Str} {parts : List Str} : (Txt.join y parts).length ≤ (parts.map (·.length)).sum + parts.length * y.length := by
  rw [join_eq]; exact StrLaws.join_length_le y parts
theorem sum_le {parts : List Str} {n : Nat} (h : ∀ p ∈ parts, p.length ≤ n) : (parts.map (·.length)).sum ≤ parts.length * n := by
  induction parts with
  | nil => simp
  | cons p r ih =>
    have h1 := h p List.mem_cons_self
    have h2 := ih fun z hz => h z (List.mem_cons_of_mem _ hz)
    simp only [List.map_cons, List.sum_cons, List.length_cons]
    rw [Nat.add_mul]; omega
theorem line_ok {r : D} (h : GoodR r) : PyData.strOk (lineOf r) = true ∧ 10 ∉ tl (lineOf r) ∧ (lineOf r).length ≤ 56 := by
  obtain ⟨h1, h2⟩ := words_ok h
  refine ⟨strOk_join (by decide +kernel) fun p hp => (h1 p hp).2.1, fun hc => ?_, ?_⟩
  · rcases mem_join hc with h3 | ⟨p, h3, h4⟩
    · exact absurd h3 (by decide +kernel)
    · exact (h1 p h3).2.2.2 h4
  · have a := len_join (y := " ") (parts := wordsOf r)
    have b := sum_le (n := 7) fun p hp => (h1 p hp).1
    have c : (" " : Str).length = 1 := by decide +kernel
    rw [h2] at a b
    rw [c] at a
    exact Nat.le_trans a (by omega)
theorem join_words {r : D} (h : GoodR r) : ((wordsOf r).map (·.length)).sum + (wordsOf r).length * (" " : Str).length ≤ 16777216 := by
  obtain ⟨h1, h2⟩ := words_ok h
  have b := sum_le (n := 7) fun p hp => (h1 p hp).1
  have c : (" " : Str).length = 1 := by decide +kernel
  rw [h2] at b
  rw [c, h2]
  omega
theorem strsOf_map (xs : List Str) : strsOf (xs.map D.str) = some xs := by
  induction xs with
  | nil => rfl
  | cons x r ih => show (strsOf (r.map D.str)).map (x :: ·) = _; rw [ih]; rfl

theorem strF_i {a : Int} (h0 : 0 ≤ a) (h1 : a ≤ 5) : strF [.int a] = some (.str (dstr a)) := by
  have : a.natAbs.log2 < 1920 := by rcases six h0 h1 with rfl | rfl | rfl | rfl | rfl | rfl <;> decide
  show (if a.natAbs.log2 < 1920 then _ else none) = _
  rw [if_pos this]; rfl
theorem joinF_ok {a : Str} {ys : List Str} (h : (ys.map (·.length)).sum + ys.length * a.length ≤ 16777216) : joinF (.str a) [.lst (ys.map .str)] = some (.str (Txt.join a ys)) := by
  show (strsOf (ys.map .str)).bind _ = _
  rw [strsOf_map]
  show (if _ then _ else none) = _
  rw [if_pos h]
theorem ruleLine {r : D} {S : Sto} (h : GoodR r) : m_rule_line [.d r] S = some (.ok (.d (.str (lineOf r))), S) := by
  have hj := join_words h
  obtain ⟨k, a, b, c, f, g, h, rfl, hk, ha, hb, hc⟩ := h
  have e : joinF (.str " ") [.lst ((wordsOf (ruleD k a b c f g h)).map .str)] = some (.str (lineOf (ruleD k a b c f g h))) := joinF_ok hj
  have e2 : (wordsOf (ruleD k a b c f g h)).map D.str = [.str k, .str (dstr a), .str (dstr b), .str (dstr c), .str (wd f "clears"), .str (wd g "grows"), .str (wd h "strict")] := rfl
  rw [e2] at e
  unfold m_rule_line b_rule_line
  rw [funM_ap, if_pos (by simp)]
  have z0 : (0 : Nat) < sizeLine := by decide
  have z1 : (1 : Nat) < sizeLine := by decide
  have z2 : (2 : Nat) < sizeLine := by decide
  have y1 : (1 : Nat) ≤ sizeLine := by decide
  have y4 : (4 : Nat) ≤ sizeLine := by decide
  have y7 : (7 : Nat) ≤ sizeLine := by decide
  have wf : ∀ (f : Bool) (x : Str) (S : Sto), (match f with | true => some (Out.ok (R.d (D.str x)), S) | false => some (Out.ok (R.d (D.str "-")), S)) = some (Out.ok (R.d (D.str (wd f x))), S) := by intro f x S; cases f <;> rfl
  have wf2 : ∀ (f : Bool) (x : Str) (S : Sto), (if f = true then some (Out.ok (R.d (D.str x)), S) else some (Out.ok (R.d (D.str "-")), S)) = some (Out.ok (R.d (D.str (wd f x))), S) := by intro f x S; cases f <;> rfl
  simp [frame0, ruleD, cut4, cut14, lcL_cons, zipL, z0, z1, z2, y1, y4, y7, strF_i (show 0 ≤ a by omega) (by omega), strF_i (show 0 ≤ b by omega) (by omega), strF_i (show 0 ≤ c by omega) (by omega), wf2]
  simp [ruleD] at e
  simp [e]
end K14
namespace K14
open PySem PySem.Spec PyProof.Rows L2 MM TL
theorem lawLine {r : D} {S : Sto} (h : GoodR r) : m__law_line [.d r] S = some (.ok (.d (.str (lineOf r))), S) := by
  have hj := join_words h
  obtain ⟨k, a, b, c, f, g, h, rfl, hk, ha, hb, hc⟩ := h
  have e : joinF (.str " ") [.lst ((wordsOf (ruleD k a b c f g h)).map .str)] = some (.str (lineOf (ruleD k a b c f g h))) := joinF_ok hj
  have e2 : (wordsOf (ruleD k a b c f g h)).map D.str = [.str k, .str (dstr a), .str (dstr b), .str (dstr c), .str (wd f "clears"), .str (wd g "grows"), .str (wd h "strict")] := rfl
  rw [e2] at e
  unfold m__law_line b__law_line
  rw [funM_ap, if_pos (by simp)]
  have z0 : (0 : Nat) < sizeLine := by decide
  have z1 : (1 : Nat) < sizeLine := by decide
  have z2 : (2 : Nat) < sizeLine := by decide
  have z4 : (4 : Nat) < sizeLine := by decide
  have z5 : (5 : Nat) < sizeLine := by decide
  have z6 : (6 : Nat) < sizeLine := by decide
  have y1 : (1 : Nat) ≤ sizeLine := by decide
  have y2 : (2 : Nat) ≤ sizeLine := by decide
  have y3 : (3 : Nat) ≤ sizeLine := by decide
  have y4 : (4 : Nat) ≤ sizeLine := by decide
  have y7 : (7 : Nat) ≤ sizeLine := by decide
  have r3 : rngL 0 3 = [.int 0, .int 1, .int 2] := rfl
  have i4 : ∀ (a b c d e f g : D), atI [a, b, c, d, e, f, g] 4 = some e := fun _ _ _ _ _ _ _ => rfl
  have i5 : ∀ (a b c d e f g : D), atI [a, b, c, d, e, f, g] 5 = some f := fun _ _ _ _ _ _ _ => rfl
  have i6 : ∀ (a b c d e f g : D), atI [a, b, c, d, e, f, g] 6 = some g := fun _ _ _ _ _ _ _ => rfl
  have wa : ∀ (f : Bool) (x : Str), atI [D.str "-", .str x] (if f = true then 1 else 0) = some (.str (wd f x)) := by intro f x; cases f <;> rfl
  simp [frame0, ruleD, cut14, lcL_cons, z0, z1, z2, z4, z5, z6, y1, y2, y3, y4, y7, strF_i (show 0 ≤ a by omega) (by omega), strF_i (show 0 ≤ b by omega) (by omega), strF_i (show 0 ≤ c by omega) (by omega), r3, loopM_cons, i4, i5, i6, wa]
  simp [ruleD] at e
  simp [e]
@[simp] theorem fld_rules {rs : List D} {a p : Int} {S : Sto} : getFld "Book" "rules" (.d (bookD rs a p)) S = some (.d (.tup rs)) := rfl
@[simp] theorem fld_acc {rs : List D} {a p : Int} {S : Sto} : getFld "Book" "accounts" (.d (bookD rs a p)) S = some (.d (.int a)) := rfl
@[simp] theorem fld_pl {rs : List D} {a p : Int} {S : Sto} : getFld "Book" "places" (.d (bookD rs a p)) S = some (.d (.int p)) := rfl
def headS (a p : Int) : Str := if a = 2 then "door 2 1" else if p = 2 then "door 1 2" else "door 1 1"
def textOf (rs : List D) (a p : Int) : Str := Txt.join "\n" (headS a p :: rs.map lineOf)
theorem head_ok (a p : Int) : PyData.strOk (headS a p) = true ∧ 10 ∉ tl (headS a p) ∧ (headS a p).length ≤ 56 := by
  unfold headS
  split
  · decide +kernel
  · split <;> decide +kernel
theorem parts_ok {rs : List D} (a p : Int) (h : ∀ r ∈ rs, GoodR r) : ∀ x ∈ headS a p :: rs.map lineOf, PyData.strOk x = true ∧ 10 ∉ tl x ∧ x.length ≤ 56 := by
  intro x hx
  rcases List.mem_cons.mp hx with rfl | hx
  · exact head_ok a p
  · obtain ⟨r, hr, rfl⟩ := List.mem_map.mp hx
    exact line_ok (h r hr)
theorem join_lines {rs : List D} (a p : Int) (h : ∀ r ∈ rs, GoodR r) (hl : rs.length ≤ 3) : (((headS a p :: rs.map lineOf)).map (·.length)).sum + (headS a p :: rs.map lineOf).length * ("\n" : Str).length ≤ 300 := by
  have b := sum_le (n := 56) fun x hx => (parts_ok a p h x hx).2.2
  have c : ("\n" : Str).length = 1 := by decide +kernel
  rw [c]
  have d : (headS a p :: rs.map lineOf).length ≤ 4 := by simp; omega
  omega
theorem text_ok {rs : List D} {a p : Int} (h : ∀ r ∈ rs, GoodR r) (hl : rs.length ≤ 3) : PyData.strOk (textOf rs a p) = true ∧ (textOf rs a p).length ≤ 300 :=
  ⟨strOk_join (by decide +kernel) fun x hx => (parts_ok a p h x hx).1, Nat.le_trans len_join (join_lines a p h hl)⟩
theorem join_text {rs : List D} (a p : Int) (h : ∀ r ∈ rs, GoodR r) (hl : rs.length ≤ 3) : joinF (.str "\n") [.lst (D.str (headS a p) :: rs.map fun r => D.str (lineOf r))] = some (.str (textOf rs a p)) := by
  have := joinF_ok (a := "\n") (ys := headS a p :: rs.map lineOf) (Nat.le_trans (join_lines a p h hl) (by decide))
  simpa [textOf, Function.comp_def] using this
theorem write_ok {rs : List D} {a p : Int} {S : Sto} (h : ∀ r ∈ rs, GoodR r) (hl : rs.length ≤ 3) (hs : Sizes a p) : m_write [.d (bookD rs a p)] S = some (.ok (.d (.str (textOf rs a p))), S) := by
  have hj := join_text a p h hl
  have lc := lc_map (ρ := [some (.r (.d (bookD rs a p))), none]) (vs := [1]) (t := nameT 1) (te := callN 1 m_rule_line (consA (varM 1) nilA)) (S := S) (fun r => .str (lineOf r)) rs [] (by show 0 + rs.length ≤ 16777216; omega)
    (fun r hr => ⟨[some (.r (.d (bookD rs a p))), some (.r (.d r))], by simp, by simp [ruleLine (h r hr)]⟩)
  have y1 : (1 : Nat) ≤ sizeLine := by decide
  have y2 : 1 + rs.length ≤ sizeLine := by show _ ≤ 16777216; omega
  have hd : ∀ (S : Sto), jsM [litM (.str "door "), fmtM (fldM "Book" "accounts" (varM 0)), litM (.str " "), fmtM (fldM "Book" "places" (varM 0))] Str.empty [some (.r (.d (bookD rs a p))), none] S = some (.ok (.d (.str (headS a p))), S) := by
    intro S
    have e1 : ∀ k : Int, k = 1 ∨ k = 2 → k.natAbs.log2 < 1920 := by rintro k (rfl | rfl) <;> decide
    have ka : a = 1 ∨ a = 2 := by rcases hs with h | h | h <;> omega
    have kp : p = 1 ∨ p = 2 := by rcases hs with h | h | h <;> omega
    have w : ((((Str.empty ++ Str.ofString "door ") ++ dstr a) ++ Str.ofString " ") ++ dstr p) = headS a p ∧ (Str.empty ++ Str.ofString "door ").length ≤ sizeLine ∧ ((Str.empty ++ Str.ofString "door ") ++ dstr a).length ≤ sizeLine ∧ (((Str.empty ++ Str.ofString "door ") ++ dstr a) ++ Str.ofString " ").length ≤ sizeLine ∧ (headS a p).length ≤ sizeLine ∧ (dstr a).length ≤ sizeLine ∧ (dstr p).length ≤ sizeLine := by
      rcases hs with ⟨rfl, rfl⟩ | ⟨rfl, rfl⟩ | ⟨rfl, rfl⟩ <;> decide +kernel
    obtain ⟨w1, w2, w3, w4, w5, w6, w7⟩ := w
    have q : ∀ k : Int, Str.ofString k.repr = dstr k := fun _ => rfl
    simp [e1 a ka, e1 p kp, q, w2, w3, w4, w1, w5]
  unfold m_write b_write
  rw [funM_ap, if_pos (by simp)]
  simp [frame0, hd, lc, y1, y2, hj]
end K14
namespace K14
open PySem PySem.Spec PyProof.Rows L2 MM TL
@[simp] theorem isi_bl_int {i : Bool} : isiF [.bl i, .ty "int"] = some (.bl true) := rfl
@[simp] theorem isi_bl_bool {i : Bool} : isiF [.bl i, .ty "bool"] = some (.bl true) := rfl
@[simp] theorem isi_bl_str {i : Bool} : isiF [.bl i, .ty "str"] = some (.bl false) := rfl
@[simp] theorem isi_int_str {i : Int} : isiF [.int i, .ty "str"] = some (.bl false) := rfl
@[simp] theorem isi_non_str : isiF [.non, .ty "str"] = some (.bl false) := rfl
@[simp] theorem isi_non_int : isiF [.non, .ty "int"] = some (.bl false) := rfl
@[simp] theorem isi_non_bool : isiF [.non, .ty "bool"] = some (.bl false) := rfl
@[simp] theorem isi_str_int {i : Str} : isiF [.str i, .ty "int"] = some (.bl false) := rfl
@[simp] theorem isi_str_bool {i : Str} : isiF [.str i, .ty "bool"] = some (.bl false) := rfl
@[simp] theorem isi_str_str {i : Str} : isiF [.str i, .ty "str"] = some (.bl true) := rfl
@[simp] theorem isi_lst {ds : List D} : isiF [.lst ds, .ty "tuple"] = some (.bl false) := rfl
@[simp] theorem isi_non_tup : isiF [.non, .ty "tuple"] = some (.bl false) := rfl
/-- a field: None, a bool, a number, a text -/
def fldB : D → Bool
  | .non => true
  | .bl _ => true
  | .int _ => true
  | .str x => PyData.strOk x
  | _ => false
def numB (d : D) (a b : Int) : Bool := match d with
  | .int i => decide (a ≤ i ∧ i ≤ b)
  | _ => false
def bolB : D → Bool
  | .bl _ => true
  | _ => false
def keyB : D → Bool
  | .str k => decide (k = "account" ∨ k = "place" ∨ k = "both")
  | _ => false
theorem numE {d : D} {a b : Int} {S : Sto} (h : fldB d = true) : m_is_number [.d d, .d (.int a), .d (.int b)] S = some (.ok (.d (.bl (numB d a b))), S) := by
  unfold m_is_number b_is_number
  rw [funM_ap, if_pos (by simp)]
  cases d with
  | int v => by_cases h1 : a ≤ v <;> simp [frame0, h1, numB]
  | non => simp [frame0, numB]
  | bl b => simp [frame0, numB]
  | str x => simp [frame0, numB]
  | _ => cases h
def oddL : List D := [.str "both", .int 1, .int 1, .int 0, .bl true, .bl true, .bl true]
def Sev (d : D) : Prop := ∃ v0 v1 v2 v3 v4 v5 v6, d = .tup [v0, v1, v2, v3, v4, v5, v6] ∧ fldB v0 = true ∧ fldB v1 = true ∧ fldB v2 = true ∧ fldB v3 = true ∧ fldB v4 = true ∧ fldB v5 = true ∧ fldB v6 = true
def Elt (d : D) : Prop := d = .non ∨ d = .tup [] ∨ d = .lst oddL ∨ Sev d
def goodB : D → Bool
  | .tup [v0, v1, v2, v3, v4, v5, v6] => keyB v0 && numB v1 1 3 && numB v2 1 4 && numB v3 0 5 && bolB v4 && bolB v5 && bolB v6
  | _ => false
theorem isi_bool {v : D} (h : fldB v = true) : isiF [v, .ty "bool"] = some (.bl (bolB v)) := by
  cases v with
  | non => rfl
  | bl b => rfl
  | int i => rfl
  | str x => rfl
  | _ => cases h
theorem isi_strB {v : D} (h : fldB v = true) : isiF [v, .ty "str"] = some (.bl (match v with | .str _ => true | _ => false)) := by
  cases v with
  | non => rfl
  | bl b => rfl
  | int i => rfl
  | str x => rfl
  | _ => cases h
theorem inT {k : Str} : inB (.str k) (.tup [.str "account", .str "place", .str "both"]) = some (keyB (.str k)) := by
  show some ((Str.ofString "account" == k) || ((Str.ofString "place" == k) || ((Str.ofString "both" == k) || false))) = some (decide (k = "account" ∨ k = "place" ∨ k = "both"))
  congr 1
  by_cases h1 : k = "account"
  · subst h1; simp
  · by_cases h2 : k = "place"
    · subst h2; simp
    · by_cases h3 : k = "both"
      · subst h3; simp
      · have e1 : (Str.ofString "account" == k) = false := by simpa using fun z => h1 z.symm
        have e2 : (Str.ofString "place" == k) = false := by simpa using fun z => h2 z.symm
        have e3 : (Str.ofString "both" == k) = false := by simpa using fun z => h3 z.symm
        simp [e1, e2, e3, h1, h2, h3]
theorem fld_ok {v : D} (h : fldB v = true) : okD v = true ∧ dpD v = 0 := by
  cases v with
  | non => exact ⟨rfl, rfl⟩
  | bl b => exact ⟨rfl, rfl⟩
  | int i => exact ⟨rfl, rfl⟩
  | str x => exact ⟨h, rfl⟩
  | _ => cases h
theorem all3 {a b c : Bool} : allF [.lst [.bl a, .bl b, .bl c]] = some (.bl (a && (b && c))) := by
  show some (D.bl ([a, b, c].all id)) = _
  simp
theorem is_ruleE {d : D} {S : Sto} (h : Elt d) : m_is_rule [.d d] S = some (.ok (.d (.bl (goodB d))), S) := by
  unfold m_is_rule b_is_rule
  rw [funM_ap, if_pos (by simp)]
  rcases h with rfl | rfl | rfl | ⟨v0, v1, v2, v3, v4, v5, v6, rfl, h0, h1, h2, h3, h4, h5, h6⟩
  · simp [frame0, goodB]
  · simp [frame0, goodB]
  · simp [frame0, goodB, oddL]
  · have z0 : (0 : Nat) < sizeLine := by decide
    have z1 : (1 : Nat) < sizeLine := by decide
    have z2 : (2 : Nat) < sizeLine := by decide
    have n1 := fun S => numE (S := S) (a := 1) (b := 3) h1
    have n2 := fun S => numE (S := S) (a := 1) (b := 4) h2
    have n3 := fun S => numE (S := S) (a := 0) (b := 5) h3
    cases v0 with
    | str k =>
      cases hk : keyB (.str k) <;> cases g1 : numB v1 1 3 <;> cases g2 : numB v2 1 4 <;> cases g3 : numB v3 0 5 <;>
        simp [frame0, goodB, inT, hk, n1, n2, n3, g1, g2, g3, cut4, lcL_cons, z0, z1, z2, isi_bool h4, isi_bool h5, isi_bool h6, all3, Bool.and_assoc]
    | non => simp [frame0, goodB, keyB]
    | bl b => simp [frame0, goodB, keyB]
    | int b => simp [frame0, goodB, keyB]
    | _ => cases h0
end K14
namespace K14
open PySem PySem.Spec PyProof.Rows L2 MM TL
def digI (x : Str) : Option Int := match x.cps.toList with
  | [c] => if 48 ≤ c ∧ c ≤ 53 then some ((c : Int) - 48) else none
  | _ => none
def digD (x : Str) : D := match digI x with
  | some i => .int i
  | none => .non
theorem dig_of {x : Str} {i : Int} (h : digI x = some i) : x = dstr i ∧ 0 ≤ i ∧ i ≤ 5 := by
  unfold digI at h
  split at h
  · rename_i c hc
    by_cases q : 48 ≤ c ∧ c ≤ 53
    · rw [if_pos q] at h
      have e : x = ⟨#[c]⟩ := by
        obtain ⟨cps⟩ := x
        congr 1
        rw [← Array.toList_inj]
        exact hc
      have : c = 48 ∨ c = 49 ∨ c = 50 ∨ c = 51 ∨ c = 52 ∨ c = 53 := by omega
      rcases this with rfl | rfl | rfl | rfl | rfl | rfl <;> cases h <;> refine ⟨?_, by decide, by decide⟩ <;> rw [e] <;> decide +kernel
    · rw [if_neg q] at h; cases h
  · cases h
theorem dig_d {i : Int} (h0 : 0 ≤ i) (h1 : i ≤ 5) : digI (dstr i) = some i := by
  rcases six h0 h1 with rfl | rfl | rfl | rfl | rfl | rfl <;> kernel_rfl
theorem numOfW {x : Str} {S : Sto} (hz : x.length ≤ sizeLine) : m_number_of [.d (.str x)] S = some (.ok (.d (digD x)), S) := by
  have hlen : lenF [.str x] = some (.int x.length) := by
    show (if x.length ≤ sizeLine then _ else none) = _
    rw [if_pos hz]
  unfold m_number_of b_number_of
  rw [funM_ap, if_pos (by simp)]
  by_cases h1 : x.length = 1
  · obtain ⟨c, hc⟩ : ∃ c, x.cps.toList = [c] := by
      have : x.cps.toList.length = 1 := by rw [← len_tl x]; exact h1
      exact List.length_eq_one_iff.mp this
    have hin : inB (.str x) (.str "012345") = some (decide (c ∈ (Str.ofString "012345").cps.toList)) := by
      unfold inB
      simp only [hc]
    have e6 : (Str.ofString "012345").cps.toList = [48, 49, 50, 51, 52, 53] := by decide +kernel
    by_cases q : 48 ≤ c ∧ c ≤ 53
    · have hm : c ∈ (Str.ofString "012345").cps.toList := by rw [e6]; simp; omega
      have hd : digI x = some ((c : Int) - 48) := by unfold digI; rw [hc]; simp only [q, and_self, if_true]
      have hi : intF [.str x] = some (.int ((c : Int) - 48)) := by
        obtain ⟨e, g0, g1⟩ := dig_of hd
        rw [e]
        generalize (c : Int) - 48 = i at g0 g1
        rcases six g0 g1 with rfl | rfl | rfl | rfl | rfl | rfl <;> kernel_rfl
      have hl1 : ((x.length : Int) = 1) := by omega
      simp [frame0, hlen, hin, hm, hi, digD, hd, hl1]
    · have hm : ¬ c ∈ (Str.ofString "012345").cps.toList := by rw [e6]; simp; omega
      have hd : digI x = none := by unfold digI; rw [hc]; simp only [q, if_false]
      have hl1 : ((x.length : Int) = 1) := by omega
      simp [frame0, hlen, hin, hm, digD, hd, hl1]
  · have hd : digI x = none := by
      unfold digI
      split
      · rename_i c hc
        exact absurd (by rw [len_tl x]; show x.cps.toList.length = 1; rw [hc]; rfl) h1
      · rfl
    have hl1 : ¬ ((x.length : Int) = 1) := by omega
    simp [frame0, hlen, digD, hd, hl1]
end K14
namespace K14
open PySem PySem.Spec PyProof.Rows L2 MM TL
theorem joinL_mem {s : List Nat} {c : Nat} {p : List Nat} : ∀ {ps : List (List Nat)}, p ∈ ps → c ∈ p → c ∈ joinL s ps
  | [], h, _ => by simp at h
  | [q], h, hc => by
    rw [List.mem_singleton.mp h] at hc
    simpa [joinL] using hc
  | q :: r :: t, h, hc => by
    show c ∈ q ++ (s ++ joinL s (r :: t))
    rcases List.mem_cons.mp h with rfl | h
    · exact List.mem_append_left _ hc
    · exact List.mem_append_right _ (List.mem_append_right _ (joinL_mem h hc))
theorem joinL_len {s : List Nat} : ∀ {ps : List (List Nat)}, ps ≠ [] → (joinL s ps).length = (ps.map List.length).sum + (ps.length - 1) * s.length
  | [], h => absurd rfl h
  | [p], _ => by simp [joinL]
  | p :: q :: r, _ => by
    have ih := joinL_len (s := s) (ps := q :: r) (by simp)
    show (p ++ (s ++ joinL s (q :: r))).length = _
    rw [List.length_append, List.length_append, ih]
    simp only [List.map_cons, List.sum_cons, List.length_cons]
    have : r.length + 1 + 1 - 1 = (r.length + 1 - 1) + 1 := by omega
    rw [this, Nat.add_mul]
    omega
theorem join_back (x y : Str) : Txt.join y (Txt.split x y) = x := by rw [join_eq]; exact StrLaws.join_split x y
theorem split_mem {x y p : Str} {c : Nat} (h : p ∈ Txt.split x y) (hc : c ∈ tl p) : c ∈ tl x := by
  have e := join_back x y
  rw [← e, join_eq, tl_join]
  exact joinL_mem (List.mem_map.mpr ⟨p, h, rfl⟩) hc
theorem split_ok {x y p : Str} (hx : PyData.strOk x = true) (h : p ∈ Txt.split x y) : PyData.strOk p = true := strOk_iff.mpr fun c hc => strOk_iff.mp hx c (split_mem h hc)
end K14
namespace K14
open PySem PySem.Spec PyProof.Rows L2 MM TL
/-- a line that is looked at -/
def LineOk (x : Str) : Prop := PyData.strOk x = true ∧ 10 ∉ tl x ∧ x.length ≤ 10000
theorem sp_len {x p : Str} (h : p ∈ Txt.split x " ") : p.length ≤ x.length := by
  have e := join_back x " "
  have hne : (Txt.split x " ").map tl ≠ [] := by
    intro z
    rw [List.map_eq_nil_iff.mp z] at h
    simp at h
  have l := joinL_len (s := tl " ") hne
  rw [← tl_join, ← join_eq, e] at l
  have s : ∀ (ps : List Str), p ∈ ps → p.length ≤ ((ps.map tl).map List.length).sum := by
    intro ps
    induction ps with
    | nil => intro h; simp at h
    | cons q r ih =>
      intro h
      simp only [List.map_cons, List.sum_cons]
      rcases List.mem_cons.mp h with rfl | h
      · rw [len_tl p]; omega
      · have := ih h; omega
  have := s _ h
  rw [len_tl x, l]
  omega
theorem splitW {x : Str} (h : LineOk x) : splitF (.str x) [.str " "] = some (.lst ((Txt.split x " ").map .str)) := by
  show (if _ then _ else none) = _
  rw [if_pos ⟨by decide +kernel, by show _ ≤ 16777216; have := h.2.2; omega⟩]
def neq (w : Str) : Bool := !decide (w = "-")
def mkR (w0 w1 w2 w3 w4 w5 w6 : Str) : D := .tup [.str w0, digD w1, digD w2, digD w3, .bl (neq w4), .bl (neq w5), .bl (neq w6)]
def ruleOfD (x : Str) : D := match Txt.split x " " with
  | [w0, w1, w2, w3, w4, w5, w6] => if goodB (mkR w0 w1 w2 w3 w4 w5 w6) = true ∧ lineOf (mkR w0 w1 w2 w3 w4 w5 w6) = x then mkR w0 w1 w2 w3 w4 w5 w6 else .non
  | _ => .non
theorem seven (l : List Str) : (∃ w0 w1 w2 w3 w4 w5 w6, l = [w0, w1, w2, w3, w4, w5, w6]) ∨ l.length ≠ 7 := by
  by_cases h : l.length = 7
  · match l, h with
    | [a, b, c, d, e, f, g], _ => exact .inl ⟨a, b, c, d, e, f, g, rfl⟩
  · exact .inr h
theorem rod_seven {x w0 w1 w2 w3 w4 w5 w6 : Str} (e : Txt.split x " " = [w0, w1, w2, w3, w4, w5, w6]) : ruleOfD x = if goodB (mkR w0 w1 w2 w3 w4 w5 w6) = true ∧ lineOf (mkR w0 w1 w2 w3 w4 w5 w6) = x then mkR w0 w1 w2 w3 w4 w5 w6 else .non := by
  unfold ruleOfD
  rw [e]
theorem rod_not {x : Str} (h : (Txt.split x " ").length ≠ 7) : ruleOfD x = .non := by
  unfold ruleOfD
  split
  · rename_i e
    rw [e] at h
    exact absurd rfl h
  · rfl
theorem dig_fld (w : Str) : fldB (digD w) = true := by
  unfold digD
  split <;> rfl
theorem good_of {w0 w1 w2 w3 w4 w5 w6 : Str} (h : goodB (mkR w0 w1 w2 w3 w4 w5 w6) = true) : GoodR (mkR w0 w1 w2 w3 w4 w5 w6) ∧ ∃ a b c, digI w1 = some a ∧ digI w2 = some b ∧ digI w3 = some c ∧ (1 ≤ a ∧ a ≤ 3) ∧ (1 ≤ b ∧ b ≤ 4) ∧ (0 ≤ c ∧ c ≤ 5) ∧ (w0 = "account" ∨ w0 = "place" ∨ w0 = "both") := by
  have h' : (keyB (.str w0) && numB (digD w1) 1 3 && numB (digD w2) 1 4 && numB (digD w3) 0 5 && bolB (.bl (neq w4)) && bolB (.bl (neq w5)) && bolB (.bl (neq w6))) = true := h
  simp only [Bool.and_eq_true] at h'
  obtain ⟨⟨⟨⟨⟨⟨h0, h1⟩, h2⟩, h3⟩, _⟩, _⟩, _⟩ := h'
  have nb : ∀ {w : Str} {lo hi : Int}, numB (digD w) lo hi = true → ∃ i, digI w = some i ∧ digD w = .int i ∧ lo ≤ i ∧ i ≤ hi := fun {w lo hi} q => by
    unfold digD at q ⊢
    cases e : digI w with
    | none => rw [e] at q; cases q
    | some i => rw [e] at q; exact ⟨i, rfl, rfl, of_decide_eq_true q⟩
  obtain ⟨a, a1, a2, a3⟩ := nb h1
  obtain ⟨b, b1, b2, b3⟩ := nb h2
  obtain ⟨c, c1, c2, c3⟩ := nb h3
  have hk : w0 = "account" ∨ w0 = "place" ∨ w0 = "both" := of_decide_eq_true h0
  refine ⟨⟨w0, a, b, c, neq w4, neq w5, neq w6, ?_, hk, a3, b3, c3⟩, a, b, c, a1, b1, c1, a3, b3, c3, hk⟩
  unfold mkR ruleD
  rw [a2, b2, c2]
theorem ruleOfW {x : Str} {S : Sto} (h : LineOk x) : m_rule_of [.d (.str x)] S = some (.ok (.d (ruleOfD x)), S) := by
  have hs := splitW h
  have hp : ∀ p ∈ Txt.split x " ", PyData.strOk p = true ∧ p.length ≤ 10000 := fun p hp => ⟨split_ok h.1 hp, Nat.le_trans (sp_len hp) h.2.2⟩
  unfold m_rule_of b_rule_of
  rw [funM_ap, if_pos (by simp)]
  rcases seven (Txt.split x " ") with ⟨w0, w1, w2, w3, w4, w5, w6, e⟩ | hl
  · rw [rod_seven e]
    rw [e] at hs hp
    have o : ∀ w ∈ [w0, w1, w2, w3, w4, w5, w6], PyData.strOk w = true ∧ w.length ≤ sizeLine := fun w hw => ⟨(hp w hw).1, by show _ ≤ 16777216; have := (hp w hw).2; omega⟩
    have n1 := fun S => numOfW (x := w1) (S := S) (o w1 (by simp)).2
    have n2 := fun S => numOfW (x := w2) (S := S) (o w2 (by simp)).2
    have n3 := fun S => numOfW (x := w3) (S := S) (o w3 (by simp)).2
    have f : ∀ w ∈ [w0, w1, w2, w3, w4, w5, w6], eqB (.str w) (.str "-") = some (decide (w = "-")) := fun w hw => eqB_str (o w hw).1 (by decide +kernel)
    have f4 := f w4 (by simp)
    have f5 := f w5 (by simp)
    have f6 := f w6 (by simp)
    have z0 : (0 : Nat) < sizeLine := by decide
    have z1 : (1 : Nat) < sizeLine := by decide
    have z2 : (2 : Nat) < sizeLine := by decide
    have y1 : (1 : Nat) ≤ sizeLine := by decide
    have y4 : (4 : Nat) ≤ sizeLine := by decide
    have y7 : (7 : Nat) ≤ sizeLine := by decide
    have e3 : D.tup [.str w0, digD w1, digD w2, digD w3, .bl (!decide (w4 = "-")), .bl (!decide (w5 = "-")), .bl (!decide (w6 = "-"))] = mkR w0 w1 w2 w3 w4 w5 w6 := rfl
    have el : Elt (mkR w0 w1 w2 w3 w4 w5 w6) := .inr (.inr (.inr ⟨_, _, _, _, _, _, _, rfl, (o w0 (by simp)).1, dig_fld w1, dig_fld w2, dig_fld w3, rfl, rfl, rfl⟩))
    have hi := fun S => is_ruleE (S := S) el
    cases g : goodB (mkR w0 w1 w2 w3 w4 w5 w6) with
    | false =>
      simp [frame0, hs, cut14, cut4, lcL_cons, z0, z1, z2, y1, y4, y7, n1, n2, n3, f4, f5, f6, e3, hi, g]
    | true =>
      have gr := (good_of g).1
      have hl := fun S => ruleLine (S := S) gr
      have he : eqB (.str (lineOf (mkR w0 w1 w2 w3 w4 w5 w6))) (.str x) = some (decide (lineOf (mkR w0 w1 w2 w3 w4 w5 w6) = x)) := eqB_str (line_ok gr).1 h.1
      by_cases q : lineOf (mkR w0 w1 w2 w3 w4 w5 w6) = x
      · have hx : eqB (.str x) (.str x) = some true := eqB_self (x := .str x) h.1 (Nat.zero_le _)
        simp [frame0, hs, cut14, cut4, lcL_cons, z0, z1, z2, y1, y4, y7, n1, n2, n3, f4, f5, f6, e3, hi, g, hl, he, q, hx]
      · simp [frame0, hs, cut14, cut4, lcL_cons, z0, z1, z2, y1, y4, y7, n1, n2, n3, f4, f5, f6, e3, hi, g, hl, he, q]
  · rw [rod_not hl]
    have hl' : ¬ ((Txt.split x " ").length : Int) = 7 := by omega
    simp [frame0, hs, hl, hl']
end K14
namespace K14
open PySem PySem.Spec PyProof.Rows L2 MM TL
instance (a p : Int) : Decidable (Sizes a p) := by unfold Sizes; infer_instance
/-- two fields that make a book's numbers -/
def szB (x y : D) : Bool := match x, y with
  | .int a, .int p => decide (Sizes a p)
  | _, _ => false
theorem szB_of {x y : D} (h : szB x y = true) : ∃ a p, x = .int a ∧ y = .int p ∧ Sizes a p := by
  unfold szB at h
  split at h
  · exact ⟨_, _, rfl, rfl, of_decide_eq_true h⟩
  · cases h
theorem dig_cases (w : Str) : digD w = .non ∨ ∃ i, digD w = .int i ∧ 0 ≤ i ∧ i ≤ 5 := by
  unfold digD
  cases e : digI w with
  | none => exact .inl rfl
  | some i => exact .inr ⟨i, rfl, (dig_of e).2⟩
theorem init_bad {x y : D} {S : Sto} (hx : x = .non ∨ ∃ i, x = .int i ∧ 0 ≤ i ∧ i ≤ 5) (hy : y = .non ∨ ∃ i, y = .int i ∧ 0 ≤ i ∧ i ≤ 5) (h : szB x y = false) :
    m_Book_init [.loc S.length, .d (.lst []), .d x, .d y] (S ++ [.ins "Book" []]) = some (.ex "BadCount" [], S ++ [.ins "Book" []]) := by
  have nx := fun S => numE (S := S) (d := x) (a := 1) (b := 2) (by rcases hx with rfl | ⟨i, rfl, _⟩ <;> rfl)
  have ny := fun S => numE (S := S) (d := y) (a := 1) (b := 2) (by rcases hy with rfl | ⟨i, rfl, _⟩ <;> rfl)
  unfold m_Book_init b_Book_init
  rw [funM_ap, if_pos (by simp)]
  have en : enumL [] = [] := rfl
  by_cases b1 : numB x 1 2 = true
  · by_cases b2 : numB y 1 2 = true
    · rcases hx with rfl | ⟨i, rfl, i0, i1⟩
      · cases b1
      · rcases hy with rfl | ⟨j, rfl, j0, j1⟩
        · cases b2
        · have hi : 1 ≤ i ∧ i ≤ 2 := of_decide_eq_true b1
          have hj : 1 ≤ j ∧ j ≤ 2 := of_decide_eq_true b2
          have : i = 2 ∧ j = 2 := by
            have hn : ¬ Sizes i j := of_decide_eq_false h
            unfold Sizes at hn
            omega
          obtain ⟨rfl, rfl⟩ := this
          have cm : CMul 2 2 := by decide
          simp [frame0, en, nx, ny, b1, b2, cm]
    · simp [frame0, en, nx, ny, b1, b2]
  · simp [frame0, en, nx, ny, b1]
/-- the head line's look -/
def headB (x : Str) : Bool := decide (x = "door 1 1" ∨ x = "door 1 2" ∨ x = "door 2 1")
theorem head_words {w0 w1 w2 x : Str} (e : Txt.split x " " = [w0, w1, w2]) : headB x = (decide (w0 = "door") && szB (digD w1) (digD w2)) := by
  have back := join_back x " "
  rw [e] at back
  cases hb : headB x with
  | true =>
    have hx : x = "door 1 1" ∨ x = "door 1 2" ∨ x = "door 2 1" := of_decide_eq_true hb
    have : (w0 = "door" ∧ w1 = "1" ∧ w2 = "1") ∨ (w0 = "door" ∧ w1 = "1" ∧ w2 = "2") ∨ (w0 = "door" ∧ w1 = "2" ∧ w2 = "1") := by
      rcases hx with rfl | rfl | rfl
      · have : Txt.split "door 1 1" " " = ([("door" : Str), "1", "1"] : List Str) := by kernel_rfl
        rw [this] at e; cases e; exact .inl ⟨rfl, rfl, rfl⟩
      · have : Txt.split "door 1 2" " " = ([("door" : Str), "1", "2"] : List Str) := by kernel_rfl
        rw [this] at e; cases e; exact .inr (.inl ⟨rfl, rfl, rfl⟩)
      · have : Txt.split "door 2 1" " " = ([("door" : Str), "2", "1"] : List Str) := by kernel_rfl
        rw [this] at e; cases e; exact .inr (.inr ⟨rfl, rfl, rfl⟩)
    rcases this with ⟨rfl, rfl, rfl⟩ | ⟨rfl, rfl, rfl⟩ | ⟨rfl, rfl, rfl⟩ <;> decide +kernel
  | false =>
    have hn : ¬ (x = "door 1 1" ∨ x = "door 1 2" ∨ x = "door 2 1") := of_decide_eq_false hb
    cases q : (decide (w0 = "door") && szB (digD w1) (digD w2)) with
    | false => rfl
    | true =>
      exfalso
      rw [Bool.and_eq_true] at q
      have h0 : w0 = "door" := of_decide_eq_true q.1
      obtain ⟨a, p, h1, h2, hs⟩ := szB_of q.2
      have e1 : w1 = dstr a := by
        unfold digD at h1
        cases z : digI w1 with
        | none => rw [z] at h1; cases h1
        | some i => rw [z] at h1; cases h1; exact (dig_of z).1
      have e2 : w2 = dstr p := by
        unfold digD at h2
        cases z : digI w2 with
        | none => rw [z] at h2; cases h2
        | some i => rw [z] at h2; cases h2; exact (dig_of z).1
      apply hn
      rw [← back, h0, e1, e2]
      rcases hs with ⟨rfl, rfl⟩ | ⟨rfl, rfl⟩ | ⟨rfl, rfl⟩
      · exact .inl (by kernel_rfl)
      · exact .inr (.inr (by kernel_rfl))
      · exact .inr (.inl (by kernel_rfl))
theorem head_len {x : Str} (h : (Txt.split x " ").length ≠ 3) : headB x = false := by
  refine decide_eq_false ?_
  rintro (rfl | rfl | rfl) <;> exact h (by kernel_rfl)
theorem three_words (l : List Str) : (∃ w0 w1 w2, l = [w0, w1, w2]) ∨ l.length ≠ 3 := by
  by_cases h : l.length = 3
  · match l, h with
    | [a, b, c], _ => exact .inl ⟨a, b, c, rfl⟩
  · exact .inr h
end K14
namespace K14
open PySem PySem.Spec PyProof.Rows L2 MM TL
def enumAt (k : Nat) (ds : List D) : List D := ds.mapIdx fun i d => D.tup [.int ((i + k : Nat) : Int), d]
theorem enumAt_0 (ds : List D) : enumL ds = enumAt 0 ds := rfl
theorem enumAt_cons (k : Nat) (d : D) (ds : List D) : enumAt k (d :: ds) = D.tup [.int (k : Int), d] :: enumAt (k + 1) ds := by
  unfold enumAt
  rw [List.mapIdx_cons]
  congr 1
  · simp
  · congr 1
    funext i d
    congr 4
    omega
def firstBad : List D → Nat → Nat
  | [], _ => 0
  | d :: r, k => if isN d = true ∨ 3 ≤ k then k + 2 else firstBad r (k + 1)
def outBad (n : Nat) (ρ : Fr) (S : Sto) : Option (Flo × Fr × Sto) := if n = 0 then some (.nx, ρ, S) else some (.ex "BadLine" [("line", .int n)], ρ, S)
theorem loop_bad {S : Sto} : ∀ (ds : List D) (k : Nat) (ρ : Fr), ρ.length = 8 → ∃ ρ', loopM (tupT [nameT 5, nameT 6]) (ifM (orT (bT (op2M isD (varM 6) (litM .non))) (bT (op2M geD (varM 5) (litM (.int 3))))) (raise1M "BadLine" "line" (op2M addD (varM 5) (litM (.int 2)))) (nxM)) (enumAt k ds) ρ S = outBad (firstBad ds k) ρ' S ∧ ρ'.length = 8 ∧ ∀ i, i < 5 → ρ'[i]? = ρ[i]?
  | [], k, ρ, h => ⟨ρ, rfl, h, fun _ _ => rfl⟩
  | d :: ds, k, ρ, h => by
    rw [enumAt_cons, loopM_cons]
    have e6 : ((ρ.set 5 (some (Ent.r (R.d (D.int k))))).set 6 (some (Ent.r (R.d d))))[6]? = some (some (.r (.d d))) := List.getElem?_set_self (by simp [h])
    have e5 : ((ρ.set 5 (some (Ent.r (R.d (D.int k))))).set 6 (some (Ent.r (R.d d))))[5]? = some (some (.r (.d (.int k)))) := by rw [List.getElem?_set_ne (by omega)]; exact List.getElem?_set_self (by omega)
    have keep : ∀ i, i < 5 → ((ρ.set 5 (some (Ent.r (R.d (D.int k))))).set 6 (some (Ent.r (R.d d))))[i]? = ρ[i]? := fun i hi => by rw [List.getElem?_set_ne (by omega), List.getElem?_set_ne (by omega)]
    unfold firstBad
    by_cases c : isN d = true ∨ 3 ≤ k
    · refine ⟨(ρ.set 5 (some (Ent.r (R.d (D.int k))))).set 6 (some (Ent.r (R.d d))), ?_, by simp [h], keep⟩
      rw [if_pos c]
      by_cases hn : isN d = true
      · simp [h, e5, e6, hn, outBad]
      · have hk : 3 ≤ k := by rcases c with c | c; exact absurd c hn; exact c
        have hk3 : (3 : Int) ≤ (k : Int) := by omega
        simp [h, e5, e6, hn, outBad, hk3]
    · have hn : isN d = false := by cases q : isN d with | true => exact absurd (.inl q) c | false => rfl
      have hk3 : ¬ (3 : Int) ≤ (k : Int) := by omega
      obtain ⟨ρ', e, hl, hi⟩ := loop_bad (S := S) ds (k + 1) ((ρ.set 5 (some (Ent.r (R.d (D.int k))))).set 6 (some (Ent.r (R.d d)))) (by simp [h])
      refine ⟨ρ', ?_, hl, fun i h2 => (hi i h2).trans (keep i h2)⟩
      rw [if_neg c, ← e]
      simp [h, e5, e6, hn, hk3]
theorem getB {rs : List D} {a p : Int} : D.obj "Book" [("rules", .tup rs), ("accounts", .int a), ("places", .int p)] = bookD rs a p := rfl
theorem isN_bk {rs : List D} {a p : Int} : isN (bookD rs a p) = false := rfl
theorem cut1 {x : D} {ds : List D} : MM.cutD (x :: ds) (some 1) none = ds := by
  have h1 : HT.sIx (x :: ds).length 0 (some 1) = 1 := by
    show (if (1 : Int) < 0 then ((1 : Int) + ((x :: ds).length : Int)).toNat else min (1 : Int).toNat (x :: ds).length) = 1
    rw [if_neg (by decide)]
    simp
  have h2 : HT.sIx (x :: ds).length (x :: ds).length none = ds.length + 1 := rfl
  unfold MM.cutD
  rw [h1, h2]
  simp
/-- the lines are asked for their rules -/
theorem lc_rules {ρ7 : Fr} {S : Sto} (h7 : ρ7.length = 8) {rest : List Str} (hr : ∀ x ∈ rest, LineOk x) (hlen : rest.length ≤ 1000) :
    lcL [7] (nameT 7) yesT (callN 1 m_rule_of (consA (varM 7) nilA)) (rest.map .str) [] ρ7 S = some (.ok (rest.map ruleOfD), S) := by
  have lc := lc_pairs (ρ := ρ7) (vs := [7]) (t := nameT 7) (te := callN 1 m_rule_of (consA (varM 7) nilA)) (S := S) (rest.map fun r => (D.str r, ruleOfD r)) [] (by show 0 + _ ≤ 16777216; simp; omega)
    (by
      intro q hq
      obtain ⟨r, hr', rfl⟩ := List.mem_map.mp hq
      refine ⟨(ρ7.set 7 none).set 7 (some (.r (.d (.str r)))), by simp [h7], ?_⟩
      have e7 : (ρ7.set 7 (some (Ent.r (R.d (D.str r)))))[7]? = some (some (.r (.d (.str r)))) := List.getElem?_set_self (by simp [h7])
      simp [e7, ruleOfW (hr r hr')])
  simp only [List.map_map, Function.comp_def, List.nil_append] at lc
  exact lc
theorem fld_rules' {rs : List D} {a p : Int} {S : Sto} : getFld "Book" "rules" (.d (bookD rs a p)) S = some (.d (.tup rs)) := rfl
/-- what read does to lines -/
theorem read_bad1 {text x0 : Str} {rest : List Str} {S : Sto} (hs : Txt.split text "\n" = x0 :: rest) (hz : text.length ≤ 1000000) (h0 : LineOk x0) (hb : headB x0 = false) : ∃ T, m_read [.d (.str text)] S = some (.ex "BadLine" [("line", .int 1)], S ++ T) := by
  have s1 : splitF (.str text) [.str "\n"] = some (.lst ((x0 :: rest).map .str)) := by
    show (if _ then _ else none) = _
    rw [if_pos ⟨by decide +kernel, by show _ ≤ 16777216; omega⟩, hs]
  have s2 := splitW h0
  have hp : ∀ p ∈ Txt.split x0 " ", PyData.strOk p = true ∧ p.length ≤ 10000 := fun p hp => ⟨split_ok h0.1 hp, Nat.le_trans (sp_len hp) h0.2.2⟩
  have y0 : (0 : Nat) ≤ sizeLine := by decide
  unfold m_read b_read
  rw [funM_ap, if_pos (by simp)]
  rcases three_words (Txt.split x0 " ") with ⟨w0, w1, w2, e⟩ | hl
  · rw [head_words e] at hb
    rw [e] at s2 hp
    have o : ∀ w ∈ [w0, w1, w2], PyData.strOk w = true ∧ w.length ≤ sizeLine := fun w hw => ⟨(hp w hw).1, by show _ ≤ 16777216; have := (hp w hw).2; omega⟩
    have n1 := fun S => numOfW (x := w1) (S := S) (o w1 (by simp)).2
    have n2 := fun S => numOfW (x := w2) (S := S) (o w2 (by simp)).2
    have f0 : eqB (.str w0) (.str "door") = some (decide (w0 = "door")) := eqB_str (o w0 (by simp)).1 (by decide +kernel)
    by_cases hd : w0 = "door"
    · have hz : szB (digD w1) (digD w2) = false := by simpa [hd] using hb
      have ib := fun S => init_bad (S := S) (dig_cases w1) (dig_cases w2) hz
      have tb : tabB [("BadRule", "LockError", true), ("BadCount", "LockError", true), ("BadLine", "LockError", true)] "BadCount" "LockError" = some true := by decide +kernel
      refine ⟨[.ins "Book" []], ?_⟩
      have ft : eqB (.str w0) (.str "door") = some true := by rw [f0, decide_eq_true hd]
      simp [frame0, s1, s2, ft, n1, n2, y0, ib, tryM, catchM, tb, quietM]
    · refine ⟨[], ?_⟩
      have ft : eqB (.str w0) (.str "door") = some false := by rw [f0, decide_eq_false hd]
      simp [frame0, s1, s2, ft, n1, n2, y0]
  · refine ⟨[], ?_⟩
    have hl' : ¬ ((Txt.split x0 " ").length : Int) = 3 := by omega
    simp [frame0, s1, s2, hl']

theorem fb_good : ∀ (ds : List D) (k : Nat), firstBad ds k = 0 → (∀ d ∈ ds, isN d = false) ∧ k + ds.length ≤ max k 3
  | [], k, _ => ⟨by simp, by simp; omega⟩
  | d :: r, k, h => by
    unfold firstBad at h
    by_cases c : isN d = true ∨ 3 ≤ k
    · rw [if_pos c] at h; omega
    · rw [if_neg c] at h
      obtain ⟨h1, h2⟩ := fb_good r (k + 1) h
      have hk : ¬ 3 ≤ k := fun z => c (.inr z)
      refine ⟨fun x hx => ?_, by simp; omega⟩
      rcases List.mem_cons.mp hx with rfl | hx
      · cases q : isN x with
        | true => exact absurd (.inl q) c
        | false => rfl
      · exact h1 x hx
theorem rod_good {x : Str} (h : isN (ruleOfD x) = false) : GoodR (ruleOfD x) ∧ lineOf (ruleOfD x) = x := by
  rcases seven (Txt.split x " ") with ⟨w0, w1, w2, w3, w4, w5, w6, e⟩ | hl
  · rw [rod_seven e] at h ⊢
    by_cases c : goodB (mkR w0 w1 w2 w3 w4 w5 w6) = true ∧ lineOf (mkR w0 w1 w2 w3 w4 w5 w6) = x
    · rw [if_pos c]; exact ⟨(good_of c.1).1, c.2⟩
    · rw [if_neg c] at h; cases h
  · rw [rod_not hl] at h; cases h
/-- behind a good head line -/
theorem read_any {text x0 : Str} {rest : List Str} {S : Sto} (hs : Txt.split text "\n" = x0 :: rest) (hz : text.length ≤ 1000000) (h0 : LineOk x0) (hr : ∀ x ∈ rest, LineOk x) (hlen : rest.length ≤ 1000) (hb : headB x0 = true) :
    ∃ a p, Sizes a p ∧ headS a p = x0 ∧ ∃ T, m_read [.d (.str text)] S = if firstBad (rest.map ruleOfD) 0 = 0 then some (.ok (.d (bookD (rest.map ruleOfD) a p)), S ++ T) else some (.ex "BadLine" [("line", .int (firstBad (rest.map ruleOfD) 0))], S ++ T) := by
  have s1 : splitF (.str text) [.str "\n"] = some (.lst ((x0 :: rest).map .str)) := by
    show (if _ then _ else none) = _
    rw [if_pos ⟨by decide +kernel, by show _ ≤ 16777216; omega⟩, hs]
  have s2 := splitW h0
  have hp : ∀ p ∈ Txt.split x0 " ", PyData.strOk p = true ∧ p.length ≤ 10000 := fun p hp => ⟨split_ok h0.1 hp, Nat.le_trans (sp_len hp) h0.2.2⟩
  have y0 : (0 : Nat) ≤ sizeLine := by decide
  rcases three_words (Txt.split x0 " ") with ⟨w0, w1, w2, e⟩ | hl
  · have hb' := hb
    rw [head_words e] at hb'
    rw [Bool.and_eq_true] at hb'
    rw [e] at s2 hp
    have hd : w0 = "door" := of_decide_eq_true hb'.1
    obtain ⟨a, p, d1, d2, sz⟩ := szB_of hb'.2
    have hx0 : headS a p = x0 := by
      have q : ∀ {w : Str} {i : Int}, digD w = .int i → w = dstr i := fun {w i} h => by
        unfold digD at h
        cases z : digI w with
        | none => rw [z] at h; cases h
        | some j => rw [z] at h; cases h; exact (dig_of z).1
      have back := join_back x0 " "
      rw [e, hd, q d1, q d2] at back
      rw [← back]
      rcases sz with ⟨rfl, rfl⟩ | ⟨rfl, rfl⟩ | ⟨rfl, rfl⟩ <;> kernel_rfl
    refine ⟨a, p, sz, hx0, ?_⟩
    have o : ∀ w ∈ [w0, w1, w2], PyData.strOk w = true ∧ w.length ≤ sizeLine := fun w hw => ⟨(hp w hw).1, by show _ ≤ 16777216; have := (hp w hw).2; omega⟩
    have n1 := fun S => numOfW (x := w1) (S := S) (o w1 (by simp)).2
    have n2 := fun S => numOfW (x := w2) (S := S) (o w2 (by simp)).2
    rw [d1] at n1
    rw [d2] at n2
    have ft : eqB (.str w0) (.str "door") = some true := by
      have f0 : eqB (.str w0) (.str "door") = some (decide (w0 = "door")) := eqB_str (o w0 (by simp)).1 (by decide +kernel)
      rw [f0, decide_eq_true hd]
    have i1 := fun S => init (rs := []) (a := a) (p := p) (S := S) (by simp) (by simp) sz
    let ρ7 : Fr := [some (.r (.d (.str text))), some (.r (.d (.lst ((x0 :: rest).map .str)))), some (.r (.d (.lst [.str w0, .str w1, .str w2]))), some (.r (.d (bookD [] a p))), none, none, none, none]
    have lc := lc_rules (ρ7 := ρ7) (S := S ++ [.frz (bookD [] a p)]) rfl hr hlen
    obtain ⟨ρ', e1, e2, e3⟩ := loop_bad (S := S ++ [.frz (bookD [] a p)]) (rest.map ruleOfD) 0 (ρ7.set 4 (some (.r (.d (.lst (rest.map ruleOfD)))))) rfl
    have r3 := e3 3 (by decide)
    have r4 := e3 4 (by decide)
    rw [← enumAt_0] at e1
    simp [ρ7] at r3 r4 lc e1
    by_cases hf : firstBad (rest.map ruleOfD) 0 = 0
    · obtain ⟨g1, g2⟩ := fb_good _ _ hf
      have i2 := init (rs := rest.map ruleOfD) (a := a) (p := p) (S := S ++ [.frz (bookD [] a p)]) (fun r hr' => by
        obtain ⟨x, hx, rfl⟩ := List.mem_map.mp hr'
        exact (rod_good (g1 _ hr')).1) (by simp at g2 ⊢; omega) sz
      simp at i2
      refine ⟨[.frz (bookD [] a p), .frz (bookD (rest.map ruleOfD) a p)], ?_⟩
      rw [if_pos hf]
      rw [hf] at e1
      unfold m_read b_read
      rw [funM_ap, if_pos (by simp)]
      simp [frame0, s1, s2, ft, y0, n1, n2, i1, getB, isN_bk, cut1, lc, e1, r3, r4, i2, outBad, tryM]
    · refine ⟨[.frz (bookD [] a p)], ?_⟩
      rw [if_neg hf]
      unfold m_read b_read
      rw [funM_ap, if_pos (by simp)]
      simp [frame0, s1, s2, ft, y0, n1, n2, i1, getB, isN_bk, cut1, lc, e1, r3, r4, outBad, tryM, hf]
  · rw [head_len hl] at hb; cases hb
end K14
namespace K14
open PySem PySem.Spec PyProof.Rows L2 MM TL
theorem split_words {r : D} (h : GoodR r) : Txt.split (lineOf r) " " = wordsOf r := by
  obtain ⟨h1, h2⟩ := words_ok h
  exact split_join (y := " ") (s := 32) (S := []) (by decide +kernel) (by decide +kernel) (by intro z; rw [z] at h2; cases h2) fun p hp => (h1 p hp).2.2.1
def endB (w : Str) (z : Str) : Bool := decide (w = "-") || decide (w = z)
def wellB (x : Str) : Bool := match Txt.split x " " with
  | [w0, w1, w2, w3, w4, w5, w6] => keyB (.str w0) && (numB (digD w1) 1 3 && (numB (digD w2) 1 4 && (numB (digD w3) 0 5 && (endB w4 "clears" && (endB w5 "grows" && endB w6 "strict")))))
  | _ => false
theorem well_seven {x w0 w1 w2 w3 w4 w5 w6 : Str} (e : Txt.split x " " = [w0, w1, w2, w3, w4, w5, w6]) : wellB x = (keyB (.str w0) && (numB (digD w1) 1 3 && (numB (digD w2) 1 4 && (numB (digD w3) 0 5 && (endB w4 "clears" && (endB w5 "grows" && endB w6 "strict")))))) := by
  unfold wellB; rw [e]
theorem well_not {x : Str} (h : (Txt.split x " ").length ≠ 7) : wellB x = false := by
  unfold wellB
  split
  · rename_i e; rw [e] at h; exact absurd rfl h
  · rfl
theorem end_wd {w z : Str} : endB w z = decide (wd (neq w) z = w) := by
  unfold endB wd neq
  by_cases h : w = "-"
  · subst h; simp
  · by_cases h2 : w = z
    · subst h2; simp [h]
    · simp [h, h2]; exact fun q => h2 q.symm
theorem rod_well (x : Str) : isN (ruleOfD x) = !wellB x := by
  rcases seven (Txt.split x " ") with ⟨w0, w1, w2, w3, w4, w5, w6, e⟩ | hl
  · rw [rod_seven e, well_seven e]
    have ge : goodB (mkR w0 w1 w2 w3 w4 w5 w6) = (keyB (.str w0) && numB (digD w1) 1 3 && numB (digD w2) 1 4 && numB (digD w3) 0 5 && true && true && true) := rfl
    cases g : goodB (mkR w0 w1 w2 w3 w4 w5 w6) with
    | false =>
      rw [ge] at g
      simp only [Bool.and_true] at g
      have : (keyB (.str w0) && (numB (digD w1) 1 3 && (numB (digD w2) 1 4 && (numB (digD w3) 0 5 && (endB w4 "clears" && (endB w5 "grows" && endB w6 "strict")))))) = false := by
        rw [← Bool.and_assoc, ← Bool.and_assoc, ← Bool.and_assoc, g]; rfl
      rw [this]; simp
    | true =>
      obtain ⟨gr, a, b, c, da, db, dc, _⟩ := good_of g
      rw [ge] at g
      simp only [Bool.and_true, Bool.and_eq_true] at g
      obtain ⟨⟨⟨g0, g1⟩, g2⟩, g3⟩ := g
      have wo : wordsOf (mkR w0 w1 w2 w3 w4 w5 w6) = [w0, dstr a, dstr b, dstr c, wd (neq w4) "clears", wd (neq w5) "grows", wd (neq w6) "strict"] := by
        unfold mkR digD
        rw [da, db, dc]; rfl
      rw [g0, g1, g2, g3, end_wd, end_wd, end_wd]
      have e1 := (dig_of da).1
      have e2 := (dig_of db).1
      have e3 := (dig_of dc).1
      by_cases q : lineOf (mkR w0 w1 w2 w3 w4 w5 w6) = x
      · have sp := split_words gr
        rw [q, e, wo] at sp
        injection sp with _ sp
        injection sp with _ sp
        injection sp with _ sp
        injection sp with _ sp
        injection sp with s4 sp
        injection sp with s5 sp
        injection sp with s6 sp
        rw [if_pos ⟨rfl, q⟩, ← s4, ← s5, ← s6]
        simp; rfl
      · rw [if_neg (fun z => q z.2)]
        by_cases q4 : wd (neq w4) "clears" = w4
        · by_cases q5 : wd (neq w5) "grows" = w5
          · by_cases q6 : wd (neq w6) "strict" = w6
            · exfalso
              apply q
              unfold lineOf
              rw [wo, q4, q5, q6, ← e1, ← e2, ← e3, ← e]
              exact join_back x " "
            · simp [q6]
          · simp [q5]
        · simp [q4]
  · rw [rod_not hl, well_not hl]; rfl
/-! ### the law's own look -/
theorem any_str (w : Str) (l : List Str) : ((l.map D.str).any fun z => eqvD z (.str w)) = decide (w ∈ l) := by
  induction l with
  | nil => simp
  | cons x r ih =>
    rw [List.map_cons, List.any_cons, ih, eqvD_str]
    by_cases h : x = w
    · subst h; simp
    · have h' : ¬ w = x := fun z => h z.symm
      simp [h, h']
theorem okDs_strs {l : List Str} (h : ∀ x ∈ l, PyData.strOk x = true) : okDs (l.map D.str) = true := okDs_all.mpr fun d hd => by
  obtain ⟨x, hx, rfl⟩ := List.mem_map.mp hd
  exact h x hx
theorem dpDs_strs {l : List Str} : dpDs (l.map D.str) ≤ 63 := dpDs_le.mpr fun d hd => by
  obtain ⟨x, hx, rfl⟩ := List.mem_map.mp hd
  exact Nat.zero_le _
theorem inB_strs {w : Str} {l : List Str} (hw : PyData.strOk w = true) (h : ∀ x ∈ l, PyData.strOk x = true) : inB (.str w) (.lst (l.map .str)) = some (decide (w ∈ l)) := by
  rw [inB_lst (d := .str w) hw (okDs_strs h) (Nat.zero_le _) dpDs_strs, any_str]
theorem dstr_ok {a : Int} (h0 : 0 ≤ a) (h1 : a ≤ 5) : PyData.strOk (dstr a) = true := (okW_d h0 h1).2.1
theorem mem_dig {w : Str} {l : List Int} (hl : ∀ i ∈ l, 0 ≤ i ∧ i ≤ 5) : decide (w ∈ l.map dstr) = match digI w with
    | some i => decide (i ∈ l)
    | none => false := by
  cases e : digI w with
  | none =>
    refine decide_eq_false fun h => ?_
    obtain ⟨i, hi, rfl⟩ := List.mem_map.mp h
    rw [dig_d (hl i hi).1 (hl i hi).2] at e; cases e
  | some i =>
    obtain ⟨hw, h0, h1⟩ := dig_of e
    show decide (w ∈ l.map dstr) = decide (i ∈ l)
    by_cases h : i ∈ l
    · rw [decide_eq_true h]
      exact decide_eq_true (List.mem_map.mpr ⟨i, h, hw.symm⟩)
    · rw [decide_eq_false h]
      refine decide_eq_false fun z => ?_
      obtain ⟨j, hj, q⟩ := List.mem_map.mp z
      have := dig_d (hl j hj).1 (hl j hj).2
      rw [q, e] at this
      cases this
      exact h hj
theorem lawIn {w : Str} {S : Sto} (hw : PyData.strOk w = true) {lo hi : Int} (hb : 0 ≤ lo ∧ lo ≤ hi ∧ hi ≤ 5) : m__law_in [.d (.str w), .d (.int lo), .d (.int hi)] S = some (.ok (.d (.bl (numB (digD w) lo hi))), S) := by
  let ks : List Int := (List.range (hi + 1 - lo).toNat).map fun (i : Nat) => lo + (i : Int)
  have hks : ∀ i ∈ ks, lo ≤ i ∧ i ≤ hi := fun i h => by
    obtain ⟨j, hj, rfl⟩ := List.mem_map.mp h
    have := List.mem_range.mp hj
    omega
  have hks5 : ∀ i ∈ ks, 0 ≤ i ∧ i ≤ 5 := fun i h => by have := hks i h; omega
  have hr : rngL lo (hi + 1 - lo).toNat = ks.map .int := by
    simp [rngL, ks, Function.comp_def]
  have lc := lc_pairs (ρ := [some (.r (.d (.str w))), some (.r (.d (.int lo))), some (.r (.d (.int hi))), none]) (vs := [3]) (t := nameT 3) (te := callM strF (consA (varM 3) nilA)) (S := S) (ks.map fun i => (D.int i, D.str (dstr i))) [] (by show 0 + _ ≤ 16777216; simp [ks]; omega)
    (by
      intro q hq
      obtain ⟨r, hr', rfl⟩ := List.mem_map.mp hq
      have := hks5 r hr'
      exact ⟨[some (.r (.d (.str w))), some (.r (.d (.int lo))), some (.r (.d (.int hi))), some (.r (.d (.int r)))], by simp, by simp [strF_i this.1 this.2]⟩)
  simp only [List.map_map, Function.comp_def, List.nil_append] at lc
  have hin := inB_strs (w := w) (l := ks.map dstr) hw (fun x hx => by
    obtain ⟨i, hi', rfl⟩ := List.mem_map.mp hx
    exact dstr_ok (hks5 i hi').1 (hks5 i hi').2)
  rw [mem_dig hks5] at hin
  simp only [List.map_map, Function.comp_def] at hin
  have e : (match digI w with | some i => decide (i ∈ ks) | none => false) = numB (digD w) lo hi := by
    unfold digD
    cases q : digI w with
    | none => rfl
    | some i =>
      show decide (i ∈ ks) = decide (lo ≤ i ∧ i ≤ hi)
      by_cases c : lo ≤ i ∧ i ≤ hi
      · rw [decide_eq_true c]
        refine decide_eq_true (List.mem_map.mpr ⟨(i - lo).toNat, List.mem_range.mpr (by omega), by omega⟩)
      · rw [decide_eq_false c]
        exact decide_eq_false fun z => c (hks i z)
  rw [e] at hin
  unfold m__law_in b__law_in
  rw [funM_ap, if_pos (by simp)]
  have b1 : (-4611686018427387904 : Int) ≤ lo ∧ lo < 4611686018427387904 ∧ (-4611686018427387904 : Int) ≤ hi + 1 ∧ hi + 1 < 4611686018427387904 := by omega
  simp [frame0, b1, hr, lc, hin]

theorem neD_int {a b : Int} : neD (.int a) (.int b) = some (.bl (!decide (a = b))) := by simp
theorem atI_map {l : List Str} {i : Nat} (h : i < l.length) : atI (l.map D.str) (i : Int) = some (.str l[i]) := by
  rw [atI_nat (by simpa using h), List.getElem?_map, List.getElem?_eq_getElem h]; rfl
theorem lawGood {x : Str} {S : Sto} (h : LineOk x) : m__law_rule_good [.d (.str x)] S = some (.ok (.d (.bl (wellB x))), S) := by
  have hs := splitW h
  have hp : ∀ p ∈ Txt.split x " ", PyData.strOk p = true := fun p hp => split_ok h.1 hp
  unfold m__law_rule_good b__law_rule_good
  rw [funM_ap, if_pos (by simp)]
  rcases seven (Txt.split x " ") with ⟨w0, w1, w2, w3, w4, w5, w6, e⟩ | hl
  · rw [well_seven e]
    rw [e] at hs hp
    have o := fun w (hw : w ∈ [w0, w1, w2, w3, w4, w5, w6]) => hp w hw
    have k0 : inB (.str w0) (.lst [.str "account", .str "place", .str "both"]) = some (keyB (.str w0)) := by
      have := inB_strs (w := w0) (l := ["account", "place", "both"]) (o w0 (by simp)) (by intro y hy; simp at hy; rcases hy with rfl | rfl | rfl <;> decide +kernel)
      have e2 : decide (w0 ∈ (["account", "place", "both"] : List Str)) = keyB (.str w0) := by
        show _ = decide _
        congr 1; simp
      rw [e2] at this
      exact this
    have n1 := fun S => lawIn (S := S) (o w1 (by simp)) (lo := 1) (hi := 3) (by decide)
    have n2 := fun S => lawIn (S := S) (o w2 (by simp)) (lo := 1) (hi := 4) (by decide)
    have n3 := fun S => lawIn (S := S) (o w3 (by simp)) (lo := 0) (hi := 5) (by decide)
    have f : ∀ (w z : Str), PyData.strOk w = true → PyData.strOk z = true → inB (.str w) (.lst [.str "-", .str z]) = some (endB w z) := fun w z hw hz => by
      have := inB_strs (w := w) (l := ["-", z]) hw (by intro y hy; simp at hy; rcases hy with rfl | rfl; decide +kernel; exact hz)
      have e2 : decide (w ∈ (["-", z] : List Str)) = endB w z := by
        unfold endB
        by_cases h1 : w = "-"
        · simp [h1]
        · simp [h1]
      rw [e2] at this
      exact this
    have f4 := f w4 "clears" (o w4 (by simp)) (by decide +kernel)
    have f5 := f w5 "grows" (o w5 (by simp)) (by decide +kernel)
    have f6 := f w6 "strict" (o w6 (by simp)) (by decide +kernel)
    have z0 : (0 : Nat) < sizeLine := by decide
    have z1 : (1 : Nat) < sizeLine := by decide
    have z2 : (2 : Nat) < sizeLine := by decide
    have y2 : (2 : Nat) ≤ sizeLine := by decide
    have y3 : (3 : Nat) ≤ sizeLine := by decide
    have r3 : rngL 0 3 = [.int 0, .int 1, .int 2] := rfl
    have i4 : ∀ (a b c d e f g : D), atI [a, b, c, d, e, f, g] 4 = some e := fun _ _ _ _ _ _ _ => rfl
    have i5 : ∀ (a b c d e f g : D), atI [a, b, c, d, e, f, g] 5 = some f := fun _ _ _ _ _ _ _ => rfl
    have i6 : ∀ (a b c d e f g : D), atI [a, b, c, d, e, f, g] 6 = some g := fun _ _ _ _ _ _ _ => rfl
    cases g0 : keyB (.str w0) with
    | false => simp [frame0, hs, k0, g0, y3]
    | true =>
      cases g1 : numB (digD w1) 1 3 with
      | false => simp [frame0, hs, k0, g0, g1, n1, y3]
      | true =>
        cases g2 : numB (digD w2) 1 4 with
        | false => simp [frame0, hs, k0, g0, g1, g2, n1, n2, y3]
        | true =>
          cases g3 : numB (digD w3) 0 5 with
          | false => simp [frame0, hs, k0, g0, g1, g2, g3, n1, n2, n3, y3]
          | true => simp [frame0, hs, k0, g0, g1, g2, g3, n1, n2, n3, y2, y3, r3, lcL_cons, z0, z1, z2, i4, i5, i6, f4, f5, f6, all3]
  · rw [well_not hl]
    have hl' : ¬ ((Txt.split x " ").length : Int) = 7 := by omega
    simp [frame0, hs, hl']
end K14
namespace K14
open PySem PySem.Spec PyProof.Rows L2 MM TL
theorem rngL_succ (lo : Int) (n : Nat) : rngL lo (n + 1) = .int lo :: rngL (lo + 1) n := by
  unfold rngL
  rw [List.range_succ_eq_map]
  simp only [List.map_cons, List.map_map, List.cons.injEq]
  refine ⟨by simp, List.map_congr_left fun i _ => ?_⟩
  simp only [Function.comp_apply, D.int.injEq]
  omega
def outW (n : Nat) (ρ : Fr) (S : Sto) : Option (Flo × Fr × Sto) := if n = 0 then some (.nx, ρ, S) else some (.rt (.d (.int n)), ρ, S)
theorem loop_wrong {S : Sto} {l : Nat} {x0 : Str} {rest : List Str} (hl : S[l]? = some (.lst ((x0 :: rest).map .str))) (hr : ∀ x ∈ rest, LineOk x) :
    ∀ (m i : Nat), i + m = rest.length → ∀ y : Option Ent, ∃ ρ', loopM (nameT 1) (ifM (orT (bT (op2M gtD (varM 1) (litM (.int 3)))) (notT (truM (callN 1 m__law_rule_good (consA (op2M ixD (varM 0) (varM 1)) (nilA)))))) (retM (op2M addD (varM 1) (litM (.int 1)))) (nxM)) (rngL ((i : Int) + 1) m) [some (.r (.loc l)), y] S = outW (firstBad ((rest.drop i).map ruleOfD) i) ρ' S
  | 0, i, hi, y => ⟨_, by
      have : rest.drop i = [] := List.drop_eq_nil_of_le (by omega)
      rw [this]; rfl⟩
  | m + 1, i, hi, y => by
    have hlt : i < rest.length := by omega
    rw [rngL_succ, loopM_cons, List.drop_eq_getElem_cons hlt, List.map_cons]
    unfold firstBad
    have hx : atI (D.str x0 :: rest.map D.str) ((i : Int) + 1) = some (.str rest[i]) := by
      have := atI_map (l := x0 :: rest) (i := i + 1) (by simp; omega)
      simpa using this
    have hg := fun S => lawGood (S := S) (hr rest[i] (List.getElem_mem hlt))
    have hn := rod_well rest[i]
    by_cases c : isN (ruleOfD rest[i]) = true ∨ 3 ≤ i
    · rw [if_pos c]
      refine ⟨[some (.r (.loc l)), some (.r (.d (.int ((i : Int) + 1))))], ?_⟩
      have e2 : ((i : Int) + 1 + 1) = ((i + 2 : Nat) : Int) := by omega
      by_cases k : 3 ≤ i
      · have k3 : (3 : Int) < (i : Int) + 1 := by omega
        simp [k3, outW, e2]
      · have k3 : ¬ (3 : Int) < (i : Int) + 1 := by omega
        have hw : wellB rest[i] = false := by
          rcases c with c | c
          · rw [hn] at c; simpa using c
          · exact absurd c k
        simp [k3, outW, e2, hl, hx, hg, hw]
    · rw [if_neg c]
      have k : ¬ 3 ≤ i := fun z => c (.inr z)
      have k3 : ¬ (3 : Int) < (i : Int) + 1 := by omega
      have hw : wellB rest[i] = true := by
        cases q : wellB rest[i] with
        | true => rfl
        | false => rw [q] at hn; exact absurd (.inl hn) c
      obtain ⟨ρ', e⟩ := loop_wrong hl hr m (i + 1) (by omega) (some (.r (.d (.int ((i : Int) + 1)))))
      have e3 : ((i + 1 : Nat) : Int) + 1 = (i : Int) + 1 + 1 := by omega
      rw [e3] at e
      refine ⟨ρ', ?_⟩
      rw [← e]
      simp [k3, hl, hx, hg, hw]
def wrongN (x0 : Str) (rest : List Str) : Nat := if headB x0 = true then firstBad (rest.map ruleOfD) 0 else 1
theorem lawWrong {S : Sto} {l : Nat} {x0 : Str} {rest : List Str} (hl : S[l]? = some (.lst ((x0 :: rest).map .str))) (h0 : LineOk x0) (hr : ∀ x ∈ rest, LineOk x) (hn : rest.length ≤ 1000) : m__law_wrong [.loc l] S = some (.ok (.d (.int (wrongN x0 rest))), S) := by
  have k0 : inB (.str x0) (.lst [.str "door 1 1", .str "door 1 2", .str "door 2 1"]) = some (headB x0) := by
    have := inB_strs (w := x0) (l := ["door 1 1", "door 1 2", "door 2 1"]) h0.1 (by intro y hy; simp at hy; rcases hy with rfl | rfl | rfl <;> decide +kernel)
    have e2 : decide (x0 ∈ (["door 1 1", "door 1 2", "door 2 1"] : List Str)) = headB x0 := by
      show _ = decide _
      congr 1; simp
    rw [e2] at this
    exact this
  have y3 : (3 : Nat) ≤ sizeLine := by decide
  unfold m__law_wrong b__law_wrong wrongN
  rw [funM_ap, if_pos (by simp)]
  cases hb : headB x0 with
  | false => simp [frame0, hl, k0, hb, y3]
  | true =>
    obtain ⟨ρ', e⟩ := loop_wrong hl hr rest.length 0 (by omega) none
    have r1 : ((rest.length : Int) + 1 < 4611686018427387904) := by omega
    have r2 : (-4611686018427387904 : Int) ≤ (rest.length : Int) + 1 := by omega
    have e1 : ((rest.length : Int) + 1 - 1).toNat = rest.length := by omega
    simp only [Int.natCast_zero, Int.zero_add, List.drop_zero] at e
    by_cases hf : firstBad (rest.map ruleOfD) 0 = 0
    · rw [hf] at e
      simp [outW] at e
      simp [frame0, hl, k0, hb, y3, r1, r2, e1, e, hf]
    · simp [outW, hf] at e
      simp [frame0, hl, k0, hb, y3, r1, r2, e1, e, hf]
end K14
namespace K14
open PySem PySem.Spec PyProof.Rows L2 MM TL
/-! ### spoiling -/
/-- a word that may stand in a line -/
def WOk (x : Str) : Prop := PyData.strOk x = true ∧ 10 ∉ tl x
def LOk (b : Nat) (x : Str) : Prop := WOk x ∧ x.length ≤ b
def wt (ws : List Str) : Nat := (ws.map (·.length)).sum + ws.length
theorem wt_split (x : Str) : wt (Txt.split x " ") = x.length + 1 := by
  have e := join_back x " "
  have hne0 : Txt.split x " " ≠ [] := by
    intro z
    have := congrArg (fun s : Str => s.length) e
    rw [z] at e
    have hx : x = (Txt.join " " [] : Str) := e.symm
    rw [hx] at z
    revert z
    decide +kernel
  have hne : (Txt.split x " ").map tl ≠ [] := by
    intro z
    exact hne0 (List.map_eq_nil_iff.mp z)
  have l := joinL_len (s := tl " ") hne
  rw [← tl_join, ← join_eq, e] at l
  have h1 : (tl " ").length = 1 := by decide +kernel
  have hs : ((Txt.split x " ").map tl).map List.length = (Txt.split x " ").map (·.length) := by
    rw [List.map_map]
    refine List.map_congr_left fun y _ => ?_
    exact (len_tl y).symm
  rw [h1, hs, ← len_tl x] at l
  have hp : 0 < (Txt.split x " ").length := List.length_pos_iff.mpr hne0
  simp only [List.length_map] at l
  unfold wt
  omega
theorem split_ne (x : Str) : Txt.split x " " ≠ [] := by
  intro z
  have := wt_split x
  rw [z] at this
  simp [wt] at this
theorem join_wt (ws : List Str) : (Txt.join " " ws).length ≤ wt ws := by
  have a := len_join (y := " ") (parts := ws)
  have c : (" " : Str).length = 1 := by decide +kernel
  rw [c] at a
  unfold wt
  omega
theorem join_wok {ws : List Str} (h : ∀ w ∈ ws, WOk w) : WOk (Txt.join " " ws) := by
  refine ⟨strOk_join (by decide +kernel) fun p hp => (h p hp).1, fun hc => ?_⟩
  rcases mem_join hc with h3 | ⟨p, h3, h4⟩
  · exact absurd h3 (by decide +kernel)
  · exact (h p h3).2 h4
theorem split_wok {x : Str} (h : WOk x) : ∀ w ∈ Txt.split x " ", WOk w := fun w hw => ⟨split_ok h.1 hw, fun hc => h.2 (split_mem hw hc)⟩
theorem sum_append (a b : List Nat) : (a ++ b).sum = a.sum + b.sum := by simp
theorem wt_append (a b : List Str) : wt (a ++ b) = wt a + wt b := by unfold wt; simp; omega
theorem wt_cons (a : Str) (b : List Str) : wt (a :: b) = a.length + 1 + wt b := by unfold wt; simp; omega
theorem wt_set (ws : List Str) (i : Nat) (w : Str) : wt (ws.set i w) ≤ wt ws + w.length := by
  induction ws generalizing i with
  | nil => simp [wt]
  | cons a r ih =>
    cases i with
    | zero => simp only [List.set_cons_zero, wt_cons]; omega
    | succ i => simp only [List.set_cons_succ, wt_cons]; have := ih i; omega
theorem wt_erase (ws : List Str) (i : Nat) : wt (ws.eraseIdx i) ≤ wt ws := by
  induction ws generalizing i with
  | nil => simp [wt]
  | cons a r ih =>
    cases i with
    | zero => simp only [List.eraseIdx_cons_zero, wt_cons]; omega
    | succ i => simp only [List.eraseIdx_cons_succ, wt_cons]; have := ih i; omega
theorem wt_ins (ws : List Str) (i : Nat) (w : Str) : wt (ws.take i ++ w :: ws.drop i) = wt ws + w.length + 1 := by
  rw [wt_append, wt_cons]
  have : wt ws = wt (ws.take i) + wt (ws.drop i) := by rw [← wt_append, List.take_append_drop]
  omega
theorem map_ins (ws : List Str) (i : Nat) (w : Str) : (ws.map D.str).take i ++ D.str w :: (ws.map D.str).drop i = (ws.take i ++ w :: ws.drop i).map D.str := by simp
theorem map_set (ws : List Str) (i : Nat) (w : Str) : (ws.map D.str).set i (.str w) = (ws.set i w).map D.str := by simp
theorem map_erase (ws : List Str) (i : Nat) : (ws.map D.str).eraseIdx i = (ws.eraseIdx i).map D.str := by
  induction ws generalizing i with
  | nil => simp
  | cons a r ih => cases i with
    | zero => simp
    | succ i => simp [ih]
theorem joinF_w {ws : List Str} (h : wt ws ≤ 16777216) : joinF (.str " ") [.lst (ws.map .str)] = some (.str (Txt.join " " ws)) := by
  refine joinF_ok ?_
  have c : (" " : Str).length = 1 := by decide +kernel
  rw [c]
  unfold wt at h
  omega
/-- lines that are looked at: at least one -/
structure Lns (b c : Nat) (ls : List Str) : Prop where
  ne : ls ≠ []
  ok : ∀ x ∈ ls, LOk b x
  len : ls.length ≤ c
def LnsAt (S : Sto) (n l : Nat) (ls : List Str) : Prop := DrwAt S n ∧ S[l]? = some (.lst (ls.map .str)) ∧ l ≠ n
theorem Lns.mono {b b' c c' : Nat} {ls : List Str} (h : Lns b c ls) (hb : b ≤ b') (hc : c ≤ c') : Lns b' c' ls := ⟨h.ne, fun x hx => ⟨(h.ok x hx).1, Nat.le_trans (h.ok x hx).2 hb⟩, Nat.le_trans h.len hc⟩
theorem mem_set_or {α : Type} {l : List α} {i : Nat} {a x : α} (h : x ∈ l.set i a) : x ∈ l ∨ x = a := by
  rcases List.mem_or_eq_of_mem_set h with h | h
  · exact .inl h
  · exact .inr h
theorem Lns.set {b c i : Nat} {ls : List Str} {x : Str} (h : Lns b c ls) (hx : LOk (b + 20) x) : Lns (b + 20) (c + 1) (ls.set i x) := by
  refine ⟨fun z => h.ne (by simpa using z), fun y hy => ?_, by have := h.len; simp; omega⟩
  rcases mem_set_or hy with hy | rfl
  · exact (h.mono (by omega) (Nat.le_refl _)).ok y hy
  · exact hx
theorem Lns.ins {b c i : Nat} {ls : List Str} {x : Str} (h : Lns b c ls) (hx : LOk b x) : Lns b (c + 1) (ls.take i ++ x :: ls.drop i) := by
  refine ⟨by simp, fun y hy => ?_, by have := h.len; simp; omega⟩
  rcases List.mem_append.mp hy with hy | hy
  · exact h.ok y (List.mem_of_mem_take hy)
  · rcases List.mem_cons.mp hy with rfl | hy
    · exact hx
    · exact h.ok y (List.mem_of_mem_drop hy)
theorem oddW : ∀ w ∈ (["", "-", "0", "1", "2", "4", "5", "6", "01", "door", "account", "both", "clears", "strict", "grows"] : List Str), WOk w ∧ w.length ≤ 8 := by
  intro w hw
  simp only [List.mem_cons, List.not_mem_nil, or_false] at hw
  unfold WOk
  rcases hw with rfl | rfl | rfl | rfl | rfl | rfl | rfl | rfl | rfl | rfl | rfl | rfl | rfl | rfl | rfl <;> decide +kernel
theorem oddL4 : ∀ w ∈ (["", "door 1 1", "both 1 1 0 - - -", "place 3 4 5 clears grows strict"] : List Str), LOk 56 w := by
  intro w hw
  simp only [List.mem_cons, List.not_mem_nil, or_false] at hw
  unfold LOk WOk
  rcases hw with rfl | rfl | rfl | rfl <;> decide +kernel
end K14
namespace K14
open PySem PySem.Spec PyProof.Rows L2 MM TL
theorem DrwAt.other {S : Sto} {n l : Nat} {c : Cell} (h : DrwAt S n) (hn : l ≠ n) : DrwAt (S.set l c) n := by
  obtain ⟨d, h1, h2⟩ := h
  exact ⟨d, h1, by rw [List.getElem?_set_ne hn]; exact h2⟩
theorem nat_of {v : Int} (h : 0 ≤ v) : ∃ k : Nat, v = (k : Int) := ⟨v.toNat, by omega⟩
theorem popAt_str {ws : List Str} {j : Nat} (h : j < ws.length) (hl : ws.length ≤ 100000) : popAtD (.d (.int j)) (ws.map D.str) = some (.str ws[j], (ws.eraseIdx j).map .str) := by
  unfold popAtD
  simp only
  rw [if_pos (by omega), ixN_nat (by simpa using h)]
  simp only [List.getElem?_map, List.getElem?_eq_getElem h, Option.map_some, map_erase]
theorem ins_str {ws : List Str} {j : Nat} {w : Str} (h : j ≤ ws.length) (hl : ws.length ≤ 100000) : insD (.d (.int j)) (.d (.str w)) (ws.map D.str) = some ((ws.take j ++ w :: ws.drop j).map .str) := by
  unfold insD
  simp only
  rw [if_pos ⟨by simp; exact Nat.lt_of_le_of_lt hl (by decide), by omega, by omega⟩]
  rw [Int.toNat_natCast, map_ins]
theorem popAt_slot {ρ : Fr} {S : Sto} {a b : Nat} {ds es : List D} {r : R} {x : D} (hp : popAtD r ds = some (x, es)) (h1 : ρ[a]? = some (some (.own (.lst ds)))) (h2 : ρ[b]? = some (some (.r r))) : popAtM (varM a) (varM b) ρ S = some (.nx, ρ.set a (some (.own (.lst es))), S) := by
  simp [h1, h2, hp]
theorem popAt_loc {ρ : Fr} {S : Sto} {a b l : Nat} {ds es : List D} {r : R} {x : D} (hp : popAtD r ds = some (x, es)) (h1 : ρ[a]? = some (some (.r (.loc l)))) (h2 : ρ[b]? = some (some (.r r))) (h3 : S[l]? = some (.lst ds)) : popAtM (varM a) (varM b) ρ S = some (.nx, ρ, S.set l (.lst es)) := by
  simp [h1, h2, h3, hp]
theorem popE_loc {ρ : Fr} {S : Sto} {a b l : Nat} {ds es : List D} {r : R} {x : D} (hp : popAtD r ds = some (x, es)) (h1 : ρ[a]? = some (some (.r (.loc l)))) (h2 : ρ[b]? = some (some (.r r))) (h3 : S[l]? = some (.lst ds)) : popE (varM a) (varM b) ρ S = some (.ok (.d x), S.set l (.lst es)) := by
  simp [h1, h2, h3, hp]
def sp_A (n : SM) : SM := seqM (setM 2 (callN 2 m__law_draw (consA (varM 0) (consA (callM lenF (consA (varM 1) (nilA))) (nilA))))) (seqM (ownM 3 (splitM (op2M ixD (varM 1) (varM 2)) (consA (litM (.str " ")) (nilA)))) (seqM (setM 4 (callN 2 m__law_draw (consA (varM 0) (consA (callM lenF (consA (varM 3) (nilA))) (nilA))))) (seqM (setM 5 (lstM (consA (litM (.str "")) (consA (litM (.str "-")) (consA (litM (.str "0")) (consA (litM (.str "1")) (consA (litM (.str "2")) (consA (litM (.str "4")) (consA (litM (.str "5")) (consA (litM (.str "6")) (consA (litM (.str "01")) (consA (litM (.str "door")) (consA (litM (.str "account")) (consA (litM (.str "both")) (consA (litM (.str "clears")) (consA (litM (.str "strict")) (consA (litM (.str "grows")) (nilA)))))))))))))))))) (seqM (setM 6 (callN 2 m__law_draw (consA (varM 0) (consA (litM (.int 8)) (nilA))))) (seqM (ifM (bT (op2M leD (varM 6) (litM (.int 1)))) (setIxM (op2M ixD (varM 5) (callN 2 m__law_draw (consA (varM 0) (consA (callM lenF (consA (varM 5) (nilA))) (nilA))))) (varM 3) (varM 4)) (nxM)) (seqM (ifM (bT (op2M eqD (varM 6) (litM (.int 2)))) (popAtM (varM 3) (varM 4)) (nxM)) (seqM (ifM (bT (op2M eqD (varM 6) (litM (.int 3)))) (insM (varM 3) (varM 4) (op2M ixD (varM 5) (callN 2 m__law_draw (consA (varM 0) (consA (callM lenF (consA (varM 5) (nilA))) (nilA)))))) (nxM)) (n))))))))
def sp_B : SM := seqM (setIxM (methM joinF (strR (litM (.str " "))) (consA (varM 3) (nilA))) (varM 1) (varM 2)) (seqM (ifM (bT (op2M eqD (varM 6) (litM (.int 4)))) (insM (varM 1) (varM 2) (op2M ixD (lstM (consA (litM (.str "")) (consA (litM (.str "door 1 1")) (consA (litM (.str "both 1 1 0 - - -")) (consA (litM (.str "place 3 4 5 clears grows strict")) (nilA)))))) (callN 2 m__law_draw (consA (varM 0) (consA (litM (.int 4)) (nilA)))))) (nxM)) (seqM (ifM (bT (op2M eqD (varM 6) (litM (.int 5)))) (setIxM (op2M addD (op2M ixD (varM 1) (varM 2)) (litM (.str " "))) (varM 1) (varM 2)) (nxM)) (seqM (ifM (bT (op2M eqD (varM 6) (litM (.int 6)))) (seqM (setM 7 (popE (varM 1) (varM 2))) (insM (varM 1) (callN 2 m__law_draw (consA (varM 0) (consA (op2M addD (callM lenF (consA (varM 1) (nilA))) (litM (.int 1))) (nilA)))) (varM 7))) (nxM)) (ifM (andT (bT (op2M eqD (varM 6) (litM (.int 7)))) (bT (op2M gtD (callM lenF (consA (varM 1) (nilA))) (litM (.int 1))))) (popAtM (varM 1) (varM 2)) (nxM)))))
theorem spoil_AB : b__law_spoil = sp_A sp_B := rfl
def oddDs : List D := [D.str "", .str "-", .str "0", .str "1", .str "2", .str "4", .str "5", .str "6", .str "01", .str "door", .str "account", .str "both", .str "clears", .str "strict", .str "grows"]
theorem odd_at {v : Int} (h0 : 0 ≤ v) (h15 : v < 15) : ∃ w, atI oddDs v = some (.str w) ∧ WOk w ∧ w.length ≤ 8 := by
  obtain ⟨k, rfl⟩ := nat_of h0
  have hk : k < (["", "-", "0", "1", "2", "4", "5", "6", "01", "door", "account", "both", "clears", "strict", "grows"] : List Str).length := by show k < 15; omega
  exact ⟨_, atI_map hk, oddW _ (List.getElem_mem hk)⟩
def frS (n l i j : Nat) (ws : List Str) (v : Int) : Fr := [some (.r (.loc n)), some (.r (.loc l)), some (.r (.d (.int (i : Int)))), some (.own (.lst (ws.map .str))), some (.r (.d (.int (j : Int)))), some (.r (.d (.lst oddDs))), some (.r (.d (.int v))), none]
theorem spoil_A {S : Sto} {n l b c : Nat} {ls : List Str} (h : LnsAt S n l ls) (H : Lns b c ls) (hb : 56 ≤ b ∧ b ≤ 9000) (hc : c ≤ 900) :
    ∃ (i j : Nat) (v : Int) (ws : List Str) (c' : Cell) (hi : i < ls.length), (∀ m, sp_A m (frame0 [.loc n, .loc l] 6) S = m (frS n l i j ws v) (S.set n c')) ∧ DrwAt (S.set n c') n ∧ 0 ≤ v ∧ v < 8 ∧
      (∀ w ∈ ws, WOk w) ∧ wt ws ≤ b + 10 ∧ (4 ≤ v → Txt.join " " ws = ls[i]) := by
  obtain ⟨hd, hl, hne⟩ := h
  have hlen := H.len
  have hpos : 0 < ls.length := List.length_pos_iff.mpr H.ne
  obtain ⟨v1, c1, e1, a1, b1, h1⟩ := draw (many := (ls.length : Int)) hd (by omega) (by omega)
  obtain ⟨i, rfl⟩ := nat_of a1
  have hi : i < ls.length := by omega
  have hx := H.ok ls[i] (List.getElem_mem hi)
  have hwt := wt_split ls[i]
  have hws : (Txt.split ls[i] " ").length ≤ 9001 := by
    have : (Txt.split ls[i] " ").length ≤ wt (Txt.split ls[i] " ") := by unfold wt; omega
    have := hx.2
    omega
  have hwp : 0 < (Txt.split ls[i] " ").length := List.length_pos_iff.mpr (split_ne _)
  have wok := split_wok hx.1
  have hsp : splitF (.str ls[i]) [.str " "] = some (.lst ((Txt.split ls[i] " ").map .str)) := by
    show (if _ then _ else none) = _
    rw [if_pos ⟨by decide +kernel, by show _ ≤ 16777216; have := hx.2; omega⟩]
  have xlen := hx.2
  have same : Txt.join " " (Txt.split ls[i] " ") = ls[i] := join_back _ _
  generalize Txt.split ls[i] " " = ws at hwt hws hwp wok hsp same
  obtain ⟨v2, c2, e2, a2, b2, h2⟩ := draw (many := (ws.length : Int)) h1 (by omega) (by omega)
  obtain ⟨j, rfl⟩ := nat_of a2
  have hj : j < ws.length := by omega
  obtain ⟨v3, c3, e3, a3, b3, h3⟩ := draw (many := 8) h2 (by omega) (by omega)
  simp only [List.set_set] at e1 e2 e3 h1 h2 h3
  have n1 : n ≠ l := fun z => hne z.symm
  have at1 : atI (ls.map D.str) (i : Int) = some (.str ls[i]) := atI_map hi
  have ixw : ixN ws.length (j : Int) = some j := ixN_nat hj
  have y15 : (15 : Nat) ≤ sizeLine := by decide
  by_cases w1 : v3 ≤ 1
  · obtain ⟨v4, c4, e4, a4, b4, h4⟩ := draw (many := 15) h3 (by omega) (by omega)
    simp only [List.set_set] at e4 h4
    obtain ⟨w, ew, hw, hw8⟩ := odd_at a4 b4
    have q2 : ¬ v3 = 2 := by omega
    have q3 : ¬ v3 = 3 := by omega
    refine ⟨i, j, v3, ws.set j w, c4, hi, fun m => ?_, h4, a3, b3, fun x hx => (mem_set_or hx).elim (wok x) (fun z => z ▸ hw), by have := wt_set ws j w; omega, fun z => by omega⟩
    unfold oddDs at ew
    unfold sp_A frS oddDs
    simp [frame0, hl, e1, at1, hsp, e2, y15, e3, List.getElem?_set_ne n1, e4, ew, ixw, w1, q2, q3]
  · by_cases w2 : v3 = 2
    · have P := fun ρ S h1 h2 => popAt_slot (a := 3) (b := 4) (ρ := ρ) (S := S) (popAt_str hj (by omega)) h1 h2
      have q3 : ¬ v3 = 3 := by omega
      refine ⟨i, j, v3, ws.eraseIdx j, c3, hi, fun m => ?_, h3, a3, b3, fun x hx => wok x (List.mem_of_mem_eraseIdx hx), by have := wt_erase ws j; omega, fun z => by omega⟩
      unfold sp_A frS oddDs
      generalize popAtM (varM 3) (varM 4) = pa at P ⊢
      have w1' : decide (v3 ≤ 1) = false := decide_eq_false w1
      have w2' : decide (v3 = 2) = true := decide_eq_true w2
      have w3' : decide (v3 = 3) = false := decide_eq_false q3
      clear w2 q3 w1
      simp only [eqB_int, w1', w2', w3', List.getElem?_set_ne n1, frame0]
      simp [hl, e1, at1, hsp, e2, y15, e3, List.getElem?_set_ne n1, w1', P, w2', w3', -decide_eq_true_eq, -decide_eq_false_iff_not]
    · by_cases w3 : v3 = 3
      · obtain ⟨v4, c4, e4, a4, b4, h4⟩ := draw (many := 15) h3 (by omega) (by omega)
        simp only [List.set_set] at e4 h4
        obtain ⟨w, ew, hw, hw8⟩ := odd_at a4 b4
        have I := ins_str (w := w) (Nat.le_of_lt hj) (by omega)
        refine ⟨i, j, v3, ws.take j ++ w :: ws.drop j, c4, hi, fun m => ?_, h4, a3, b3, fun x hx => ?_, by have := wt_ins ws j w; omega, fun z => by omega⟩
        · unfold oddDs at ew
          simp only [List.map_append, List.map_cons, List.map_take, List.map_drop] at I
          unfold sp_A frS oddDs
          simp [frame0, hl, e1, at1, hsp, e2, y15, e3, List.getElem?_set_ne n1, e4, ew, I, w1, w2, w3]
        · rcases List.mem_append.mp hx with hy | hy
          · exact wok x (List.mem_of_mem_take hy)
          · rcases List.mem_cons.mp hy with rfl | hy
            · exact hw
            · exact wok x (List.mem_of_mem_drop hy)
      · refine ⟨i, j, v3, ws, c3, hi, fun m => ?_, h3, a3, b3, wok, by omega, fun _ => same⟩
        unfold sp_A frS oddDs
        simp [frame0, hl, e1, at1, hsp, e2, y15, e3, List.getElem?_set_ne n1, w1, w2, w3]
def EndsAs (S' : Sto) (r : Option (Flo × Fr × Sto)) : Prop := ∃ ρ', r = some (.nx, ρ', S')
theorem spoil_B {S : Sto} {n l b c i j : Nat} {ls ws : List Str} {v : Int} (h : LnsAt S n l ls) (H : Lns b c ls) (hb : 56 ≤ b ∧ b ≤ 9000) (hc : c ≤ 900) (hi : i < ls.length) (a3 : 0 ≤ v) (b3 : v < 8) (wok : ∀ w ∈ ws, WOk w) (hw : wt ws ≤ b + 10) (same : 4 ≤ v → Txt.join " " ws = ls[i]) :
    ∃ S' ls', EndsAs S' (sp_B (frS n l i j ws v) S) ∧ LnsAt S' n l ls' ∧ Lns (b + 20) (c + 1) ls' := by
  obtain ⟨hd, hl, hne⟩ := h
  have hll : l < S.length := (List.getElem?_eq_some_iff.mp hl).1
  have hlen := H.len
  have hx := H.ok ls[i] (List.getElem_mem hi)
  have xlen := hx.2
  have n1 : n ≠ l := fun z => hne z.symm
  have ixl : ixN ls.length (i : Int) = some i := ixN_nat hi
  have at1 : atI (ls.map D.str) (i : Int) = some (.str ls[i]) := atI_map hi
  have y4 : (4 : Nat) ≤ sizeLine := by decide
  have plain := joinF_w (ws := ws) (by omega)
  have hset : ∀ d : Cell, (S.set l d)[l]? = some d := fun d => List.getElem?_set_self (by simpa using hll)
  have hset2 : ∀ c d : Cell, ((S.set n c).set l d)[l]? = some d := fun c d => List.getElem?_set_self (by simpa using hll)
  by_cases big : 4 ≤ v
  · have sm := same big
    rw [sm] at plain
    have self : ls.set i ls[i] = ls := List.set_getElem_self hi
    have self2 : (ls.map D.str).set i (.str ls[i]) = ls.map .str := by rw [map_set, self]
    have sl : S.set l (.lst (ls.map .str)) = S := by
      apply List.ext_getElem?
      intro k
      by_cases hk : l = k
      · subst hk; rw [hset, hl]
      · rw [List.getElem?_set_ne hk]
    have c4 : v = 4 ∨ v = 5 ∨ v = 6 ∨ v = 7 := by omega
    unfold sp_B
    rcases c4 with rfl | rfl | rfl | rfl
    · obtain ⟨v4, c4, e4, a4, b4, h4⟩ := draw (many := 4) hd (by omega) (by omega)
      obtain ⟨k, rfl⟩ := nat_of a4
      have hk : k < (["", "door 1 1", "both 1 1 0 - - -", "place 3 4 5 clears grows strict"] : List Str).length := by show k < 4; omega
      have ek := atI_map hk
      have gk := oddL4 _ (List.getElem_mem hk)
      generalize (["", "door 1 1", "both 1 1 0 - - -", "place 3 4 5 clears grows strict"] : List Str)[k] = w at ek gk
      have I := ins_str (w := w) (Nat.le_of_lt hi) (by omega)
      refine ⟨(S.set n c4).set l (.lst ((ls.take i ++ w :: ls.drop i).map .str)), _, ⟨frS n l i j ws 4, ?_⟩, ⟨DrwAt.other h4 hne, List.getElem?_set_self (by simpa using hll), hne⟩, (H.ins ⟨gk.1, Nat.le_trans gk.2 hb.1⟩).mono (by omega) (Nat.le_refl _)⟩
      simp only [List.map_cons, List.map_nil] at ek
      simp only [List.map_append, List.map_cons, List.map_take, List.map_drop] at I
      simp [frS, hl, y4, List.getElem?_set_ne n1, ixl, plain, self2, sl, e4, ek, I, hset, hset2]
    · have sz : (ls[i] ++ (" " : Str)).length = ls[i].length + 1 := by
        rw [len_tl, tl_append, List.length_append, ← len_tl]; rfl
      have c1l : (" " : Str).length = 1 := by decide +kernel
      have g : ls[i].length + (" " : Str).length ≤ sizeLine := by rw [c1l]; show _ ≤ 16777216; omega
      refine ⟨S.set l (.lst ((ls.set i (ls[i] ++ (" " : Str))).map .str)), _, ⟨frS n l i j ws 5, ?_⟩, ⟨DrwAt.other hd hne, List.getElem?_set_self (by simpa using hll), hne⟩, H.set ⟨⟨?_, ?_⟩, by rw [sz]; omega⟩⟩
      · simp [frS, hl, List.getElem?_set_ne n1, ixl, plain, self2, sl, at1, hset, hset2, g]
      · rw [strOk_iff]
        intro q hq
        rw [tl_append] at hq
        rcases List.mem_append.mp hq with hq | hq
        · exact strOk_iff.mp hx.1.1 q hq
        · exact (strOk_iff (x := " ")).mp (by decide +kernel) q hq
      · intro hq
        rw [tl_append] at hq
        rcases List.mem_append.mp hq with hq | hq
        · exact hx.1.2 hq
        · exact absurd hq (by decide +kernel)
    · have h3' := DrwAt.other (c := .lst ((ls.eraseIdx i).map .str)) hd hne
      have le1 : (ls.eraseIdx i).length = ls.length - 1 := List.length_eraseIdx_of_lt hi
      obtain ⟨v4, c4, e4, a4, b4, h4⟩ := draw (many := ((ls.eraseIdx i).length : Int) + 1) h3' (by omega) (by omega)
      obtain ⟨k, rfl⟩ := nat_of a4
      have P := fun ρ S h1 h2 h3 => popE_loc (a := 1) (b := 2) (ρ := ρ) (S := S) (l := l) (popAt_str hi (by omega)) h1 h2 h3
      have I := ins_str (ws := ls.eraseIdx i) (j := k) (w := ls[i]) (by omega) (by omega)
      have ok' : ∀ x ∈ (ls.eraseIdx i).take k ++ ls[i] :: (ls.eraseIdx i).drop k, LOk b x := fun x hx' => by
        rcases List.mem_append.mp hx' with hy | hy
        · exact H.ok x (List.mem_of_mem_eraseIdx (List.mem_of_mem_take hy))
        · rcases List.mem_cons.mp hy with rfl | hy
          · exact hx
          · exact H.ok x (List.mem_of_mem_eraseIdx (List.mem_of_mem_drop hy))
      refine ⟨((S.set l (.lst ((ls.eraseIdx i).map .str))).set n c4).set l (.lst (((ls.eraseIdx i).take k ++ ls[i] :: (ls.eraseIdx i).drop k).map .str)), _, ⟨(frS n l i j ws 6).set 7 (some (.r (.d (.str ls[i])))), ?_⟩, ⟨DrwAt.other h4 hne, List.getElem?_set_self (by simpa using hll), hne⟩, (Lns.mk (b := b) (c := c) (by simp) ok' (by simp; omega)).mono (by omega) (by omega)⟩
      simp only [List.map_append, List.map_cons, List.map_take, List.map_drop] at I
      generalize popE (varM 1) (varM 2) = pa at P ⊢
      simp [frS, hl, List.getElem?_set_ne n1, ixl, plain, self2, sl, P, e4, I, hset, hset2]
    · by_cases q : 1 < ls.length
      · have P := fun ρ S h1 h2 h3 => popAt_loc (a := 1) (b := 2) (ρ := ρ) (S := S) (l := l) (popAt_str hi (by omega)) h1 h2 h3
        generalize popAtM (varM 1) (varM 2) = pa at P ⊢
        have le1 : (ls.eraseIdx i).length = ls.length - 1 := List.length_eraseIdx_of_lt hi
        refine ⟨S.set l (.lst ((ls.eraseIdx i).map .str)), _, ⟨frS n l i j ws 7, ?_⟩, ⟨DrwAt.other hd hne, List.getElem?_set_self (by simpa using hll), hne⟩, (Lns.mk (b := b) (c := c) (fun z => by rw [z] at le1; simp at le1; omega) (fun x hx' => H.ok x (List.mem_of_mem_eraseIdx hx')) (by omega)).mono (by omega) (by omega)⟩
        have q' : (1 : Int) < (ls.length : Int) := by omega
        simp [frS, hl, List.getElem?_set_ne n1, ixl, plain, self2, sl, P, q', hset, hset2]
      · have q' : ¬ (1 : Int) < (ls.length : Int) := by omega
        refine ⟨S, ls, ⟨frS n l i j ws 7, ?_⟩, ⟨hd, hl, hne⟩, H.mono (by omega) (by omega)⟩
        simp [frS, hl, List.getElem?_set_ne n1, ixl, plain, self2, sl, q', hset, hset2]
  · have q4 : ¬ v = 4 := by omega
    have q5 : ¬ v = 5 := by omega
    have q6 : ¬ v = 6 := by omega
    have q7 : ¬ v = 7 := by omega
    refine ⟨S.set l (.lst ((ls.set i (Txt.join " " ws)).map .str)), _, ⟨frS n l i j ws v, ?_⟩, ⟨DrwAt.other hd hne, List.getElem?_set_self (by simpa using hll), hne⟩, H.set ⟨join_wok wok, by have := join_wt ws; omega⟩⟩
    unfold sp_B
    simp [frS, hl, ixl, plain, q4, q5, q6, q7]
theorem set_other {S : Sto} {n l : Nat} {c d : Cell} (h : S[l]? = some d) (hn : n ≠ l) : (S.set n c)[l]? = some d := by rw [List.getElem?_set_ne hn]; exact h
theorem spoil {S : Sto} {n l b c : Nat} {ls : List Str} (h : LnsAt S n l ls) (H : Lns b c ls) (hb : 56 ≤ b ∧ b ≤ 9000) (hc : c ≤ 900) :
    ∃ S' ls', m__law_spoil [.loc n, .loc l] S = some (.ok (.d .non), S') ∧ LnsAt S' n l ls' ∧ Lns (b + 20) (c + 1) ls' := by
  obtain ⟨i, j, v, ws, c', hi, hA, hd, a3, b3, wok, hw, same⟩ := spoil_A h H hb hc
  obtain ⟨S', ls', ⟨ρ', hB⟩, h1, h2⟩ := spoil_B (j := j) ⟨hd, set_other h.2.1 (fun z => h.2.2 z.symm), h.2.2⟩ H hb hc hi a3 b3 wok hw same
  refine ⟨S', ls', ?_, h1, h2⟩
  unfold m__law_spoil
  rw [funM_ap, if_pos (by simp), spoil_AB, hA, hB]
  rfl
end K14
namespace K14
open PySem PySem.Spec PyProof.Rows L2 MM TL
theorem lawLines {rs : List D} {a p : Int} {S : Sto} (h : ∀ r ∈ rs, GoodR r) (hl : rs.length ≤ 3) (hs : Sizes a p) : m__law_lines [.d (.lst rs), .d (.int a), .d (.int p)] S = some (.ok (.loc S.length), S ++ [.lst ((headS a p :: rs.map lineOf).map .str)]) := by
  have lc := lc_map (ρ := [some (.r (.d (.lst rs))), some (.r (.d (.int a))), some (.r (.d (.int p))), none]) (vs := [3]) (t := nameT 3) (te := callN 1 m__law_line (consA (varM 3) nilA)) (S := S) (fun r => .str (lineOf r)) rs [] (by show 0 + rs.length ≤ 16777216; omega)
    (fun r hr => ⟨[some (.r (.d (.lst rs))), some (.r (.d (.int a))), some (.r (.d (.int p))), some (.r (.d r))], by simp, by simp [lawLine (h r hr)]⟩)
  have y1 : (1 : Nat) ≤ sizeLine := by decide
  have y2 : 1 + rs.length ≤ sizeLine := by show _ ≤ 16777216; omega
  have ka : 0 ≤ a ∧ a ≤ 5 := by rcases hs with h | h | h <;> omega
  have kp : 0 ≤ p ∧ p ≤ 5 := by rcases hs with h | h | h <;> omega
  have w : ((Str.ofString "door " ++ dstr a) ++ Str.ofString " ") ++ dstr p = headS a p ∧ (Str.ofString "door ").length + (dstr a).length ≤ sizeLine ∧ (Str.ofString "door " ++ dstr a).length + (Str.ofString " ").length ≤ sizeLine ∧ (((Str.ofString "door ") ++ dstr a) ++ Str.ofString " ").length + (dstr p).length ≤ sizeLine := by
    rcases hs with ⟨rfl, rfl⟩ | ⟨rfl, rfl⟩ | ⟨rfl, rfl⟩ <;> decide +kernel
  obtain ⟨w1, w2, w3, w4⟩ := w
  unfold m__law_lines b__law_lines
  rw [funM_ap, if_pos (by simp)]
  simp only [consA_ap, op2M_ap, callM_ap, lstM_ap, ofNew_ap, lcM_ap, iSeqM_ap, bindM_ap, retM_ap, thenM_ap]
  simp [frame0, strF_i ka.1 ka.2, strF_i kp.1 kp.2, w1, w2]
  rw [if_pos w3]
  simp
  rw [if_pos w4]
  simp [w1, lc, y1, y2]
theorem begin_ok {ns : List Int} : m__law_begin [.d (.scr ns)] [] = some (.ok (.loc 0), [(Drw.mk ns 0 0 7).cell]) := by
  unfold m__law_begin b__law_begin
  rw [funM_ap, if_pos (by simp)]
  have y4 : (4 : Nat) ≤ sizeLine := by decide
  simp [frame0, y4, Drw.cell]
/-- spoiling, some times -/
theorem loop_spoil {fr : Option Ent → Fr} (hfr : ∀ y, (fr y)[1]? = some (some (.r (.loc 0))) ∧ (fr y)[4]? = some (some (.r (.loc 1))) ∧ ∀ z, (fr y).set 5 (some z) = fr (some z) ∧ 5 < (fr y).length) : ∀ (k : Nat) (lo : Int) (i : Nat) (S : Sto) (ls : List Str) (y : Option Ent), LnsAt S 0 1 ls → Lns (56 + 20 * i) (4 + i) ls → i + k ≤ 4 →
    ∃ S' ls' y', loopM (nameT 5) (dropM (callN 2 m__law_spoil (consA (varM 1) (consA (varM 4) (nilA))))) (rngL lo k) (fr y) S = some (.nx, fr y', S') ∧ LnsAt S' 0 1 ls' ∧ Lns 200 10 ls'
  | 0, lo, i, S, ls, y, h, H, hk => ⟨S, ls, y, rfl, h, H.mono (by omega) (by omega)⟩
  | k + 1, lo, i, S, ls, y, h, H, hk => by
    obtain ⟨S1, ls1, e1, h1, H1⟩ := spoil h H (by omega) (by omega)
    obtain ⟨S', ls', y', e, h', H'⟩ := loop_spoil hfr k (lo + 1) (i + 1) S1 ls1 (some (.r (.d (.int lo)))) h1 (H1.mono (by omega) (by omega)) (by omega)
    refine ⟨S', ls', y', ?_, h', H'⟩
    rw [rngL_succ, loopM_cons]
    have a := hfr y
    have b := hfr (some (.r (.d (.int lo))))
    have c := a.2.2 (.r (.d (.int lo)))
    simp [nameT_ap, c.1, c.2, b.1, b.2.1, e1, e]
def tx (ls : List Str) : Str := Txt.join "\n" ls
theorem split_tx {ls : List Str} (hne : ls ≠ []) (h : ∀ x ∈ ls, LOk 200 x) : Txt.split (tx ls) "\n" = ls := split_join (y := "\n") (s := 10) (S := []) (by decide +kernel) (by decide +kernel) hne fun x hx => (h x hx).1.2
theorem tx_len {ls : List Str} (h : ∀ x ∈ ls, LOk 200 x) (hl : ls.length ≤ 10) : (ls.map (·.length)).sum + ls.length * ("\n" : Str).length ≤ 3000 := by
  have b := sum_le (n := 200) fun x hx => (h x hx).2
  have c : ("\n" : Str).length = 1 := by decide +kernel
  rw [c]; omega
theorem tx_ok {ls : List Str} (h : ∀ x ∈ ls, LOk 200 x) : PyData.strOk (tx ls) = true := strOk_join (by decide +kernel) fun x hx => (h x hx).1.1
/-- THE LAW in plain words -/
theorem law_true (ns : List Int) (hl : ns.length ≤ 63) : ∃ S', m_law [.d (.scr ns)] [] = some (.ok (.d (.bl true)), S') := by
  have h0 : DrwAt [(Drw.mk ns 0 0 7).cell] 0 := ⟨_, by unfold Drw.ok; simp, rfl⟩
  obtain ⟨a, p, c1, e1, hs, h1⟩ := sizes h0
  obtain ⟨rs, c2, e2, hr, hl, h2⟩ := rules h1
  simp only [List.set_cons_zero] at e1 e2 h1 h2
  have ll := lawLines (S := [c2]) hr hl hs
  have hd3 : DrwAt [c2, .lst ((headS a p :: rs.map lineOf).map .str)] 0 := by
    obtain ⟨d, q1, q2⟩ := h2
    exact ⟨d, q1, by simpa using q2⟩
  obtain ⟨v, c3, e3, a3, b3, h3⟩ := draw (many := 4) hd3 (by omega) (by omega)
  obtain ⟨k, rfl⟩ := nat_of a3
  simp only [List.set_cons_zero] at e3 h3
  have L0 : LnsAt [c3, .lst ((headS a p :: rs.map lineOf).map .str)] 0 1 (headS a p :: rs.map lineOf) := ⟨h3, rfl, by decide⟩
  have H0 : Lns (56 + 20 * 0) (4 + 0) (headS a p :: rs.map lineOf) := ⟨by simp, fun x hx => ⟨⟨(parts_ok a p hr x hx).1, (parts_ok a p hr x hx).2.1⟩, (parts_ok a p hr x hx).2.2⟩, by simp; omega⟩
  let fr : Option Ent → Fr := fun y => [some (.r (.d (.scr ns))), some (.r (.loc 0)), some (.r (.d (.int a))), some (.r (.d (.int p))), some (.r (.loc 1)), y, none, none, none]
  obtain ⟨S, ls, y', eL, L, H⟩ := loop_spoil (fr := fr) (fun y => ⟨rfl, rfl, fun z => ⟨rfl, by show 5 < 9; decide⟩⟩) k 0 0 _ _ none L0 H0 (by omega)
  obtain ⟨x0, rest, rfl⟩ : ∃ x0 rest, ls = x0 :: rest := by
    cases ls with
    | nil => exact absurd rfl H.ne
    | cons x r => exact ⟨x, r, rfl⟩
  have lok : ∀ x ∈ x0 :: rest, LineOk x := fun x hx => ⟨(H.ok x hx).1.1, (H.ok x hx).1.2, Nat.le_trans (H.ok x hx).2 (by omega)⟩
  have ok0 := lok x0 (by simp)
  have okr : ∀ x ∈ rest, LineOk x := fun x hx => lok x (List.mem_cons_of_mem _ hx)
  have hlr : rest.length ≤ 1000 := by have := H.len; simp at this; omega
  have sp := split_tx (by simp) H.ok
  have tl3 := tx_len H.ok H.len
  have tz : (tx (x0 :: rest)).length ≤ 1000000 := Nat.le_trans (Nat.le_trans len_join tl3) (by omega)
  have jt : joinF (.str "\n") [.lst ((x0 :: rest).map .str)] = some (.str (tx (x0 :: rest))) := joinF_ok (Nat.le_trans tl3 (by decide))
  have hw := fun T => lawWrong (S := S ++ T) (l := 1) (x0 := x0) (rest := rest) (by rw [List.getElem?_append_left (List.getElem?_eq_some_iff.mp L.2.1).1]; exact L.2.1) ok0 okr hlr
  have hS1 : ∀ T, (S ++ T)[1]? = some (.lst ((x0 :: rest).map .str)) := fun T => by rw [List.getElem?_append_left (List.getElem?_eq_some_iff.mp L.2.1).1]; exact L.2.1
  have hS0 : S[1]? = some (.lst ((x0 :: rest).map .str)) := L.2.1
  have tb : tabB [("BadRule", "BadLine", false), ("BadCount", "BadLine", false), ("BadLine", "BadLine", true)] "BadLine" "BadLine" = some true := by decide +kernel
  have r1 : (-4611686018427387904 : Int) ≤ (k : Int) := by omega
  have r2 : (k : Int) < 4611686018427387904 := by omega
  have bad : ∀ (n : Nat) (T : Sto), 0 < n → wrongN x0 rest = n → m_read [.d (.str (tx (x0 :: rest)))] S = some (.ex "BadLine" [("line", .int n)], S ++ T) → ∃ S', m_law [.d (.scr ns)] [] = some (.ok (.d (.bl true)), S') := fun n T hn hwn hrd => by
    refine ⟨S ++ T, ?_⟩
    have hn' : (0 : Int) < (n : Int) := by omega
    have hwT := hw T
    rw [hwn] at hwT
    have lk : List.lookup (Str.ofString "line") [(Str.ofString "line", D.int (n : Int))] = some (.int (n : Int)) := by simp
    simp only [fr] at eL
    simp only [List.map_cons, List.map_map] at ll jt hS0 e3 eL
    unfold m_law b_law
    rw [funM_ap, if_pos (by simp)]
    simp [frame0, begin_ok, e1, e2, ll, e3, r1, r2, eL, hS0, jt, tryM, catchM, hrd, tb, xfM, offM, hwT, hn', hn]
  by_cases hb : headB x0 = true
  · obtain ⟨a', p', sz, hx, T, hrd⟩ := read_any (S := S) sp tz ok0 okr hlr hb
    by_cases hf : firstBad (rest.map ruleOfD) 0 = 0
    · rw [if_pos hf] at hrd
      obtain ⟨g1, g2⟩ := fb_good _ _ hf
      have hwn : wrongN x0 rest = 0 := by unfold wrongN; rw [if_pos hb]; exact hf
      have gr : ∀ r ∈ rest.map ruleOfD, GoodR r := fun r hr' => by
        obtain ⟨x, hx, rfl⟩ := List.mem_map.mp hr'
        exact (rod_good (g1 _ hr')).1
      have same : textOf (rest.map ruleOfD) a' p' = tx (x0 :: rest) := by
        unfold textOf tx
        rw [hx, List.map_map]
        congr 2
        refine (List.map_congr_left fun x hx' => ?_).trans (List.map_id _)
        exact (rod_good (g1 _ (List.mem_map.mpr ⟨x, hx', rfl⟩))).2
      have hwr := fun S => write_ok (S := S) gr (by simp at g2 ⊢; omega) sz
      rw [same] at hwr
      have hwT := hw T
      rw [hwn] at hwT
      have et : eqB (.str (tx (x0 :: rest))) (.str (tx (x0 :: rest))) = some true := eqB_self (x := .str (tx (x0 :: rest))) (tx_ok H.ok) (Nat.zero_le _)
      refine ⟨S ++ T, ?_⟩
      have hST := hS1 T
      simp only [fr] at eL
      simp only [List.map_cons, List.map_map] at ll jt hS0 e3 eL hST
      unfold m_law b_law
      rw [funM_ap, if_pos (by simp)]
      simp [frame0, begin_ok, e1, e2, ll, e3, r1, r2, eL, hS0, jt, tryM, hrd, hwT, hwr, hST, et]
    · rw [if_neg hf] at hrd
      exact bad _ T (by omega) (by unfold wrongN; rw [if_pos hb]) hrd
  · have hb' : headB x0 = false := by cases q : headB x0 with | true => exact absurd q hb | false => rfl
    obtain ⟨T, hrd⟩ := read_bad1 (S := S) sp tz ok0 hb'
    exact bad 1 T (by omega) (by unfold wrongN; rw [if_neg hb]) hrd
end K14
namespace K14
open PySem PySem.Spec PyProof.Rows L2 MM
/-! ### the head -/
def fn : List He.DefD := [⟨("BadRule", some "__init__"), "__init__", "BadRule.__init__", defArgs (kid (top 4) 0), defBody (kid (top 4) 0), defScope (kid (top 4) 0), [], []⟩,
  ⟨("BadLine", some "__init__"), "__init__", "BadLine.__init__", defArgs (kid (top 5) 0), defBody (kid (top 5) 0), defScope (kid (top 5) 0), [], []⟩,
  ⟨("is_number", none), "is_number", "is_number", defArgs (top 9), defBody (top 9), defScope (top 9), [], []⟩,
  ⟨("is_rule", none), "is_rule", "is_rule", defArgs (top 10), defBody (top 10), defScope (top 10), [], []⟩,
  ⟨("Book", some "__init__"), "__init__", "Book.__init__", defArgs (kid (top 11) 0), defBody (kid (top 11) 0), defScope (kid (top 11) 0), [], []⟩,
  ⟨("rule_line", none), "rule_line", "rule_line", defArgs (top 15), defBody (top 15), defScope (top 15), [], []⟩,
  ⟨("write", none), "write", "write", defArgs (top 16), defBody (top 16), defScope (top 16), [], []⟩,
  ⟨("number_of", none), "number_of", "number_of", defArgs (top 17), defBody (top 17), defScope (top 17), [], []⟩,
  ⟨("rule_of", none), "rule_of", "rule_of", defArgs (top 18), defBody (top 18), defScope (top 18), [], []⟩,
  ⟨("read", none), "read", "read", defArgs (top 19), defBody (top 19), defScope (top 19), [], []⟩,
  ⟨("_law_begin", none), "_law_begin", "_law_begin", defArgs (top 21), defBody (top 21), defScope (top 21), [], []⟩,
  ⟨("_law_draw", none), "_law_draw", "_law_draw", defArgs (top 22), defBody (top 22), defScope (top 22), [], []⟩,
  ⟨("_law_flag", none), "_law_flag", "_law_flag", defArgs (top 23), defBody (top 23), defScope (top 23), [], []⟩,
  ⟨("_law_rule", none), "_law_rule", "_law_rule", defArgs (top 24), defBody (top 24), defScope (top 24), [], []⟩,
  ⟨("_law_sizes", none), "_law_sizes", "_law_sizes", defArgs (top 25), defBody (top 25), defScope (top 25), [], []⟩,
  ⟨("_law_rules", none), "_law_rules", "_law_rules", defArgs (top 26), defBody (top 26), defScope (top 26), [], []⟩,
  ⟨("_law_line", none), "_law_line", "_law_line", defArgs (top 29), defBody (top 29), defScope (top 29), [], []⟩,
  ⟨("_law_lines", none), "_law_lines", "_law_lines", defArgs (top 30), defBody (top 30), defScope (top 30), [], []⟩,
  ⟨("_law_in", none), "_law_in", "_law_in", defArgs (top 31), defBody (top 31), defScope (top 31), [], []⟩,
  ⟨("_law_rule_good", none), "_law_rule_good", "_law_rule_good", defArgs (top 32), defBody (top 32), defScope (top 32), [], []⟩,
  ⟨("_law_wrong", none), "_law_wrong", "_law_wrong", defArgs (top 33), defBody (top 33), defScope (top 33), [], []⟩,
  ⟨("_law_spoil", none), "_law_spoil", "_law_spoil", defArgs (top 34), defBody (top 34), defScope (top 34), [], []⟩,
  ⟨("law", none), "law", "law", defArgs (top 35), defBody (top 35), defScope (top 35), [], []⟩]
def fa : List He.Fa := [.glo "BadRule", .noat "BadRule" "index", .glo "BadLine", .noat "BadLine" "line", .free "int", .free "isinstance", .free "bool", .glo "is_number", .free "tuple", .free "len", .free "str", .glo "KEYS", .free "all", .glo "is_rule", .int "MOST_RULES" 3, .free "enumerate", .glo "BadCount", .exc "BadCount", .cls "Book", .noat "Book" "rules", .noat "Book" "accounts", .noat "Book" "places", .glo "Book", .mkr "Book", .glo "WORDS", .free "zip", .glo "rule_line", .glo "write", .str "FIGURES" "012345", .glo "number_of", .glo "rule_of", .glo "LockError", .glo "read", .free "list", .glo "_law_begin", .glo "_law_draw", .glo "_law_flag", .glo "_law_rule", .glo "_law_sizes", .free "range", .glo "_law_rules", .glo "_law_line", .glo "_law_lines", .glo "_law_in", .glo "_law_rule_good", .glo "_law_wrong", .glo "_law_spoil", .glo "law"]
def ex (K : PySem.W.Frag) : List Bool := [oexB K "BadRule", xinB K "BadRule", oexB K "BadLine", xinB K "BadLine", He.tupB K "KEYS" [.str "account", .str "place", .str "both"], He.tupB K "WORDS" [.str "clears", .str "grows", .str "strict"], exmB K "BadLine" "LockError" true, exmB K "BadCount" "LockError" true, exmB K "BadRule" "LockError" true, exmB K "BadLine" "BadLine" true, exmB K "BadCount" "BadLine" false, exmB K "BadRule" "BadLine" false, xfB K (He.ga K "BadLine")]
abbrev R : PySem.W.OpenRow := PySem.W.OpenLaw.row PySem.Challenge.rw_trylocks_k14_texts_refused
abbrev exK (K : PySem.W.Frag) : Bool := (ex K).all id
abbrev hk : PySem.W.Hook := He.hookX 6 fa fn [] [] exK
def ob (s : PySem.W.SharedT) : He.AlX := He.obsX 6 fa fn [] [] exK (HandSHeadRun.getT s)
theorem ob_eq (s : PySem.W.SharedT) : ob s = hk.obs s.abs := He.obsX_eq (HandSHeadRun.getT_eq s)
def loose : List PySem.Str := ((["_wall", "LockError", "BadCount", "BadRule", "BadLine", "KEYS", "MOST_RULES", "is_number", "is_rule", "Book", "FIGURES", "WORDS", "rule_line", "write", "number_of", "rule_of", "read", "_law_begin", "_law_draw", "_law_flag", "_law_rule", "_law_sizes", "_law_rules", "_law_actions", "_law_pick", "_law_line", "_law_lines", "_law_in", "_law_rule_good", "_law_wrong"] : List PySem.Str) ++ (["_law_spoil"] : List PySem.Str))
theorem run (w : World) : HandSHeadRun.RunEq R (PySem.W.view R.prog [35]) hk ob 4000 loose w := by
  intro os
  kernel_rfl
theorem facts {w : World} {K : PySem.W.Frag} {h : Heap} {mg : Str → Option Value} (KX : K.In h) (G : h.Ns mainGlobals mg) (c : He.SaysX fa fn [] [] exK w h K) : Zf K mg := by
  have D : He.SaysD fa fn K := c.t.d
  have EX : (ex K).all id = true := c.more
  exact {
    d_BadRule_init := D.def_ 0,
    o_BadRule := oexB_ok (exAt EX 0),
    g_BadRule := He.glo_ok KX G (D.fact 0),
    xi_BadRule := xinB_ok (exAt EX 1),
    n_BadRule_index := He.noat_ok (D.fact 1),
    d_BadLine_init := D.def_ 1,
    o_BadLine := oexB_ok (exAt EX 2),
    g_BadLine := He.glo_ok KX G (D.fact 2),
    xi_BadLine := xinB_ok (exAt EX 3),
    n_BadLine_line := He.noat_ok (D.fact 3),
    f_int := He.free_ok KX G (D.fact 4),
    f_isinstance := He.free_ok KX G (D.fact 5),
    f_bool := He.free_ok KX G (D.fact 6),
    d_is_number := D.def_ 2,
    g_is_number := He.glo_ok KX G (D.fact 7),
    f_tuple := He.free_ok KX G (D.fact 8),
    f_len := He.free_ok KX G (D.fact 9),
    f_str := He.free_ok KX G (D.fact 10),
    k_KEYS := cst_tup (He.glo_ok KX G (D.fact 11)) (exAt EX 4),
    f_all := He.free_ok KX G (D.fact 12),
    d_is_rule := D.def_ 3,
    g_is_rule := He.glo_ok KX G (D.fact 13),
    k_MOST_RULES := cst_int (He.int_ok KX G (D.fact 14)),
    f_enumerate := He.free_ok KX G (D.fact 15),
    g_BadCount := He.glo_ok KX G (D.fact 16),
    x_BadCount := excF_ok (He.exc_ok (D.fact 17)) (He.glo_ok KX G (D.fact 16)),
    c_Book := He.cls_ok (D.fact 18),
    n_Book_rules := He.noat_ok (D.fact 19),
    n_Book_accounts := He.noat_ok (D.fact 20),
    n_Book_places := He.noat_ok (D.fact 21),
    d_Book_init := D.def_ 4,
    g_Book := He.glo_ok KX G (D.fact 22),
    mk_Book := He.mkr_ok (D.fact 23),
    k_WORDS := cst_tup (He.glo_ok KX G (D.fact 24)) (exAt EX 5),
    f_zip := He.free_ok KX G (D.fact 25),
    d_rule_line := D.def_ 5,
    g_rule_line := He.glo_ok KX G (D.fact 26),
    d_write := D.def_ 6,
    g_write := He.glo_ok KX G (D.fact 27),
    k_FIGURES := cst_str (He.str_ok KX G (D.fact 28)),
    d_number_of := D.def_ 7,
    g_number_of := He.glo_ok KX G (D.fact 29),
    d_rule_of := D.def_ 8,
    g_rule_of := He.glo_ok KX G (D.fact 30),
    t_BadLine_LockError := exAt EX 6,
    t_BadCount_LockError := exAt EX 7,
    t_BadRule_LockError := exAt EX 8,
    g_LockError := He.glo_ok KX G (D.fact 31),
    d_read := D.def_ 9,
    g_read := He.glo_ok KX G (D.fact 32),
    f_list := He.free_ok KX G (D.fact 33),
    d__law_begin := D.def_ 10,
    g__law_begin := He.glo_ok KX G (D.fact 34),
    d__law_draw := D.def_ 11,
    g__law_draw := He.glo_ok KX G (D.fact 35),
    d__law_flag := D.def_ 12,
    g__law_flag := He.glo_ok KX G (D.fact 36),
    d__law_rule := D.def_ 13,
    g__law_rule := He.glo_ok KX G (D.fact 37),
    d__law_sizes := D.def_ 14,
    g__law_sizes := He.glo_ok KX G (D.fact 38),
    f_range := He.free_ok KX G (D.fact 39),
    d__law_rules := D.def_ 15,
    g__law_rules := He.glo_ok KX G (D.fact 40),
    d__law_line := D.def_ 16,
    g__law_line := He.glo_ok KX G (D.fact 41),
    d__law_lines := D.def_ 17,
    g__law_lines := He.glo_ok KX G (D.fact 42),
    d__law_in := D.def_ 18,
    g__law_in := He.glo_ok KX G (D.fact 43),
    d__law_rule_good := D.def_ 19,
    g__law_rule_good := He.glo_ok KX G (D.fact 44),
    d__law_wrong := D.def_ 20,
    g__law_wrong := He.glo_ok KX G (D.fact 45),
    d__law_spoil := D.def_ 21,
    g__law_spoil := He.glo_ok KX G (D.fact 46),
    t_BadLine_BadLine := exAt EX 9,
    t_BadCount_BadLine := exAt EX 10,
    t_BadRule_BadLine := exAt EX 11,
    xf_BadLine := xfB_ok (exAt EX 12),
    d_law := D.def_ 22,
    g_law := He.glo_ok KX G (D.fact 47)
  }
end K14
open PySem PySem.W PySem.Calls PyProof.Rows
theorem PySem.Challenge.cw_trylocks_k14_texts_refused_holds : PySem.Challenge.rw_trylocks_k14_texts_refused.Holds := by
  w_on; o_law
  refine HandSHeadRun.head_any (r := OpenLaw.row PySem.Challenge.rw_trylocks_k14_texts_refused) (q := view (OpenLaw.row PySem.Challenge.rw_trylocks_k14_texts_refused).prog [35]) (H := K14.hk) (ob := K14.ob) (M := 4000) (loose := K14.loose) (d := HandSHeadRun.topDef (OpenLaw.row PySem.Challenge.rw_trylocks_k14_texts_refused).prog 35) (kwd := []) K14.ob_eq
    (by kernel_rfl) (fun s => by kernel_rfl) K14.run (by kernel_rfl) (by kernel_rfl) (by kernel_rfl) (by rfl) (by first | assumption | decide +kernel) (by decide +kernel) ⟨rfl, rfl, rfl, rfl, rfl, by decide +kernel⟩ ?hw ?hc
  case hw => w_witness2
  case hc =>
    refine MM.walk_m (l := PySem.Challenge.rw_trylocks_k14_texts_refused) (n := 63) (k := 6) (x := "_law_script") (m := K14.m_law) rfl (by decide) (by kernel_rfl) ⟨rfl, by decide, by decide⟩ K14.law_true ?F
    intro w mg fa h Y G hmg0
    obtain ⟨K, KX, c⟩ := Y
    have hmg : mg ("law" : PySem.Str) = some (.ref fa) := by
      have e : (HandSHeadRun.topDef (OpenLaw.row PySem.Challenge.rw_trylocks_k14_texts_refused).prog 35).name = ("law" : PySem.Str) := by kernel_rfl
      rw [← e]
      exact hmg0
    have Z := K14.facts KX G c
    have e := hmg.symm.trans Z.g_law
    cases e
    obtain ⟨fd, F⟩ := Z.d_law
    have b := L2.FunD.bindsA (ps := ["_law_script"]) F fun _ _ _ _ _ _ us hl => match us, hl with | [_], _ => rfl
    exact ⟨K, fd, KX, fun s v => b s [v] rfl, fun base => K14.okF_law Z F⟩
