import PyProof.Rows.All
import Wide.All
import OpenK.AllK
import Wide.FinOn
import KE.KStateDown
import HandS.ForMost
import HandS.ForExc
import HandS.Defaults
import HandS.Deep
import HandS.HeadHook1
import HandS.TupAny
import HandS.IsInst
import HandS.Text
import HandS.Conv
import HandS.Comp
import HandS.Dict
import HandS.More
import HandS.TryOnly
import HandS.TupSets
import KE.SortData
import KE.DataMinMax
import HandS.Zip
import HandS.Star
import HandS.SetFor
import PyProof.TupleOfSeq
import HandS.Flow
import KE.GoesEnum
import HandS.DictComp
import HandS.ExcIs
import HandS.HeadHook2
import PyProof.FactsAll.dict
import HandS.TupLe
import HandS.Rev
import HandS.RevTup
import PyProof.ListRange
import KE.KDictDisplayH
import PyProof.NeKinds
import HandS.Head0
import HandS.Head1
import HandS.Head2
import HandS.HeadEnd
import PySem.Challenge.RW_trellis_k13_questions
set_option Elab.async false
set_option linter.all false
set_option maxRecDepth 100000
set_option maxHeartbeats 4000000
/-! The tree layer: values as data trees over the hand layer; local lists that are owned by a slot. -/
namespace TL
open PySem PySem.Spec PyProof.Rows L2

abbrev D := PyData
def keyD : Key → D
  | .inl i => .int i
  | .inr z => .str z
def tupD (ks : List Key) : D := .tuple (ks.map keyD)
/-- a dict as data; the first item tells its sort (keys; tuples of keys) -/
def dcK (kvs : List (Key × D)) : D := .dict ((.none, .bool false) :: kvs.map fun kv => (keyD kv.1, kv.2))
def dcT (kvs : List (List Key × D)) : D := .dict ((.none, .bool true) :: kvs.map fun kv => (tupD kv.1, kv.2))
/-- a dict that is known to the object while one walks it -/
def lkD (kvs : List (Key × D)) : D := .dict ((.none, .int 0) :: kvs.map fun kv => (keyD kv.1, kv.2))
/-! ### trees in the abstract heap -/
mutual
inductive DP (K : PySem.W.Frag) (H : Hp) (P : Addr → Prop) : V → D → Prop
  | non : DP K H P .non .none
  | bl (b : Bool) : DP K H P (.bl b) (.bool b)
  | int (i : Int) : DP K H P (.int i) (.int i)
  | str (x : Str) : DP K H P (.str x) (.str x)
  | lst {a : Addr} {xs : List V} {ds : List D} : P a → H a = some (.lst xs) → DPs K H P xs ds → DP K H P (.ref a) (.list ds)
  | tup {a : Addr} {xs : List V} {ds : List D} : H a = some (.tup xs) → DPs K H P xs ds → DP K H P (.ref a) (.tuple ds)
  | dK {a : Addr} {xs : List (Key × V)} {kvs : List (Key × D)} : P a → H a = some (.dK xs) → xs.map (·.1) = kvs.map (·.1) → DPs K H P (xs.map (·.2)) (kvs.map (·.2)) → DP K H P (.ref a) (dcK kvs)
  | dT {a : Addr} {xs : List (List Key × V)} {kvs : List (List Key × D)} : P a → H a = some (.dT xs) → xs.map (·.1) = kvs.map (·.1) → DPs K H P (xs.map (·.2)) (kvs.map (·.2)) → DP K H P (.ref a) (dcT kvs)
  | dL {a : Addr} {o : Obj} {xs : List (Key × V)} {kvs : List (Key × D)} : H a = some (.frz o (.dK xs)) → xs.map (·.1) = kvs.map (·.1) → DPs K H P (xs.map (·.2)) (kvs.map (·.2)) → DP K H P (.ref a) (lkD kvs)
inductive DPs (K : PySem.W.Frag) (H : Hp) (P : Addr → Prop) : List V → List D → Prop
  | nil : DPs K H P [] []
  | cons {v : V} {vs : List V} {d : D} {ds : List D} : DP K H P v d → DPs K H P vs ds → DPs K H P (v :: vs) (d :: ds)
end
/-- no list and no dict in it -/
def im : D → Bool
  | .none => true
  | .bool _ => true
  | .int _ => true
  | .str _ => true
  | .list _ => false
  | .tuple ds => imAll ds
  | .dict _ => false
where imAll : List D → Bool
  | [] => true
  | d :: ds => im d && imAll ds
/-- no dict in it -/
def nd : D → Bool
  | .none => true
  | .bool _ => true
  | .int _ => true
  | .str _ => true
  | .list ds => ndAll ds
  | .tuple ds => ndAll ds
  | .dict _ => false
where ndAll : List D → Bool
  | [] => true
  | d :: ds => nd d && ndAll ds
mutual
theorem nd_lay : ∀ {d : D}, d.canLay0 = true → nd d = true
  | .none, _ => rfl
  | .bool _, _ => rfl
  | .int _, _ => rfl
  | .str _, _ => rfl
  | .list ds, h => by
    simp only [nd]
    exact ndAll_lay (by simpa [PyData.canLay0] using h)
  | .tuple ds, h => by
    simp only [nd]
    exact ndAll_lay (by simpa [PyData.canLay0] using h)
  | .dict _, h => nomatch h
theorem ndAll_lay : ∀ {ds : List D}, PyData.canLayAll0 ds = true → nd.ndAll ds = true
  | [], _ => rfl
  | d :: ds, h => by
    have h' : d.canLay0 = true ∧ PyData.canLayAll0 ds = true := by simpa [PyData.canLayAll0] using h
    simp only [nd.ndAll, nd_lay h'.1, ndAll_lay h'.2, Bool.and_self]
end
theorem nd_shaped {d : D} (h : SeqAt.shaped d = true) : nd d = true := nd_lay (by
  unfold SeqAt.shaped at h
  exact (Bool.and_eq_true_iff.mp h).1)
mutual
theorem nd_im : ∀ {d : D}, im d = true → nd d = true
  | .none, _ => rfl
  | .bool _, _ => rfl
  | .int _, _ => rfl
  | .str _, _ => rfl
  | .list _, h => by simp [im] at h
  | .tuple ds, h => by
    simp only [nd]
    exact ndAll_im (by simpa [im] using h)
  | .dict _, h => by simp [im] at h
theorem ndAll_im : ∀ {ds : List D}, im.imAll ds = true → nd.ndAll ds = true
  | [], _ => rfl
  | d :: ds, h => by
    simp only [im.imAll, Bool.and_eq_true] at h
    simp only [nd.ndAll, nd_im h.1, ndAll_im h.2, Bool.and_self]
end
section
variable {K : PySem.W.Frag} {H H' : Hp} {P P' : Addr → Prop}
mutual
theorem DP.dp : ∀ {v : V} {d : D}, DP K H P v d → nd d = true → Dp K H v d
  | _, _, .non, _ => .non
  | _, _, .bl b, _ => .bl b
  | _, _, .int i, _ => .int i
  | _, _, .str x, _ => .str x
  | _, _, .lst _ h t, n => .lst (.of h) (t.dp (by simpa [nd] using n))
  | _, _, .tup h t, n => .tup (.of h) (t.dp (by simpa [nd] using n))
  | _, _, .dK _ _ _ _, n => by simp [nd, dcK] at n
  | _, _, .dT _ _ _ _, n => by simp [nd, dcT] at n
  | _, _, .dL _ _ _, n => by simp [nd, lkD] at n
theorem DPs.dp : ∀ {vs : List V} {ds : List D}, DPs K H P vs ds → nd.ndAll ds = true → DpAll K H vs ds
  | _, _, .nil, _ => .nil
  | _, _, .cons h t, n => by
    simp only [nd.ndAll, Bool.and_eq_true] at n
    exact .cons (h.dp n.1) (t.dp n.2)
end
theorem SqL.keep {a : Addr} {xs : List V} (h : SqL K H a xs) (k : ∀ o, H a = some o → H' a = some o) : SqL K H' a xs := by
  rcases h with (h | ⟨o, h⟩) | h
  · exact .inl (.inl (k _ h))
  · exact .inl (.inr ⟨o, k _ h⟩)
  · exact .inr h
theorem SqT.keep {a : Addr} {xs : List V} (h : SqT K H a xs) (k : ∀ o, H a = some o → ¬ Mut (H a) → H' a = some o) : SqT K H' a xs := by
  rcases h with (h | ⟨o, h⟩) | h
  · exact .inl (.inl (k _ h (by rw [h]; exact fun z => z)))
  · exact .inl (.inr ⟨o, k _ h (by rw [h]; exact fun z => z)⟩)
  · exact .inr h
mutual
theorem DP.keep (hl : ∀ a o, P a → H a = some o → H' a = some o) (ht : ∀ a o, H a = some o → ¬ Mut (H a) → H' a = some o) (hp : ∀ a, P a → P' a) : ∀ {v : V} {d : D}, DP K H P v d → DP K H' P' v d
  | _, _, .non => .non
  | _, _, .bl b => .bl b
  | _, _, .int i => .int i
  | _, _, .str x => .str x
  | _, _, .lst p h t => .lst (hp _ p) (hl _ _ p h) (DPs.keep hl ht hp t)
  | _, _, .tup h t => .tup (ht _ _ h (by rw [h]; exact fun z => z)) (DPs.keep hl ht hp t)
  | _, _, .dK p h e t => .dK (hp _ p) (hl _ _ p h) e (DPs.keep hl ht hp t)
  | _, _, .dT p h e t => .dT (hp _ p) (hl _ _ p h) e (DPs.keep hl ht hp t)
  | _, _, .dL h e t => .dL (ht _ _ h (by rw [h]; exact fun z => z)) e (DPs.keep hl ht hp t)
theorem DPs.keep (hl : ∀ a o, P a → H a = some o → H' a = some o) (ht : ∀ a o, H a = some o → ¬ Mut (H a) → H' a = some o) (hp : ∀ a, P a → P' a) : ∀ {vs : List V} {ds : List D}, DPs K H P vs ds → DPs K H' P' vs ds
  | _, _, .nil => .nil
  | _, _, .cons h t => .cons (DP.keep hl ht hp h) (DPs.keep hl ht hp t)
end
theorem DP.mono (h : DP K H P v d) (hp : ∀ a, P a → P' a) : DP K H P' v d := h.keep (fun _ _ _ e => e) (fun _ _ e _ => e) hp
theorem DPs.mono (h : DPs K H P vs ds) (hp : ∀ a, P a → P' a) : DPs K H P' vs ds := h.keep (fun _ _ _ e => e) (fun _ _ e _ => e) hp
mutual
theorem DP.ofIm : ∀ {v : V} {d : D}, DP K H P v d → im d = true → DP K H P' v d
  | _, _, .non, _ => .non
  | _, _, .bl b, _ => .bl b
  | _, _, .int i, _ => .int i
  | _, _, .str x, _ => .str x
  | _, _, .lst _ _ _, h => by simp [im] at h
  | _, _, .tup h t, hi => .tup h (DPs.ofIm t (by simpa [im] using hi))
  | _, _, .dK _ _ _ _, h => by simp [im, dcK] at h
  | _, _, .dT _ _ _ _, h => by simp [im, dcT] at h
  | _, _, .dL _ _ _, h => by simp [im, lkD] at h
theorem DPs.ofIm : ∀ {vs : List V} {ds : List D}, DPs K H P vs ds → im.imAll ds = true → DPs K H P' vs ds
  | _, _, .nil, _ => .nil
  | _, _, .cons h t, hi => by
    simp only [im.imAll, Bool.and_eq_true] at hi
    exact .cons (DP.ofIm h hi.1) (DPs.ofIm t hi.2)
end
mutual
/-- its lists stand in the heap -/
theorem DP.live {a : Addr} (n : H a = none) : ∀ {v : V} {d : D}, DP K H P v d → DP K H (fun c => P c ∧ c ≠ a) v d
  | _, _, .non => .non
  | _, _, .bl b => .bl b
  | _, _, .int i => .int i
  | _, _, .str x => .str x
  | _, _, .lst p h t => .lst ⟨p, ne_of_none h n⟩ h (DPs.live n t)
  | _, _, .tup h t => .tup h (DPs.live n t)
  | _, _, .dK p h e t => .dK ⟨p, ne_of_none h n⟩ h e (DPs.live n t)
  | _, _, .dT p h e t => .dT ⟨p, ne_of_none h n⟩ h e (DPs.live n t)
  | _, _, .dL h e t => .dL h e (DPs.live n t)
theorem DPs.live {a : Addr} (n : H a = none) : ∀ {vs : List V} {ds : List D}, DPs K H P vs ds → DPs K H (fun c => P c ∧ c ≠ a) vs ds
  | _, _, .nil => .nil
  | _, _, .cons h t => .cons (DP.live n h) (DPs.live n t)
end
mutual
theorem DP.there : ∀ {v : V} {d : D}, DP K H P v d → DP K H (fun c => P c ∧ H c ≠ none) v d
  | _, _, .non => .non
  | _, _, .bl b => .bl b
  | _, _, .int i => .int i
  | _, _, .str x => .str x
  | _, _, .lst p h t => .lst ⟨p, by rw [h]; exact fun z => nomatch z⟩ h (DPs.there t)
  | _, _, .tup h t => .tup h (DPs.there t)
  | _, _, .dK p h e t => .dK ⟨p, by rw [h]; exact fun z => nomatch z⟩ h e (DPs.there t)
  | _, _, .dT p h e t => .dT ⟨p, by rw [h]; exact fun z => nomatch z⟩ h e (DPs.there t)
  | _, _, .dL h e t => .dL h e (DPs.there t)
theorem DPs.there : ∀ {vs : List V} {ds : List D}, DPs K H P vs ds → DPs K H (fun c => P c ∧ H c ≠ none) vs ds
  | _, _, .nil => .nil
  | _, _, .cons h t => .cons (DP.there h) (DPs.there t)
end
theorem DPs.length : ∀ {vs : List V} {ds : List D}, DPs K H P vs ds → vs.length = ds.length
  | _, _, .nil => rfl
  | _, _, .cons _ t => by simp [t.length]
theorem DPs.get : ∀ {vs : List V} {ds : List D} {i : Nat} {d : D}, DPs K H P vs ds → ds[i]? = some d → ∃ v, vs[i]? = some v ∧ DP K H P v d
  | _, _, _, _, .nil, e => by simp at e
  | _, _, 0, _, .cons h _, e => by simp at e; subst e; exact ⟨_, rfl, h⟩
  | _, _, i + 1, d, .cons _ t, e => by
    obtain ⟨v, h1, h2⟩ := DPs.get (i := i) (d := d) t (by simpa using e)
    exact ⟨v, by simpa using h1, h2⟩
theorem DPs.getV : ∀ {vs : List V} {ds : List D} {i : Nat} {v : V}, DPs K H P vs ds → vs[i]? = some v → ∃ d, ds[i]? = some d ∧ DP K H P v d
  | _, _, _, _, .nil, e => by simp at e
  | _, _, 0, _, .cons h _, e => by simp at e; subst e; exact ⟨_, rfl, h⟩
  | _, _, i + 1, v, .cons _ t, e => by
    obtain ⟨d, h1, h2⟩ := DPs.getV (i := i) (v := v) t (by simpa using e)
    exact ⟨d, by simpa using h1, h2⟩
theorem DPs.append : ∀ {vs ws : List V} {ds es : List D}, DPs K H P vs ds → DPs K H P ws es → DPs K H P (vs ++ ws) (ds ++ es)
  | _, _, _, _, .nil, s => s
  | _, _, _, _, .cons r t, s => .cons r (DPs.append t s)
theorem DPs.take : ∀ {vs : List V} {ds : List D} (n : Nat), DPs K H P vs ds → DPs K H P (vs.take n) (ds.take n)
  | _, _, 0, _ => by simp; exact .nil
  | _, _, _ + 1, .nil => by simp; exact .nil
  | _, _, n + 1, .cons r t => by simp; exact .cons r (DPs.take n t)
theorem DPs.drop : ∀ {vs : List V} {ds : List D} (n : Nat), DPs K H P vs ds → DPs K H P (vs.drop n) (ds.drop n)
  | _, _, 0, h => by simpa using h
  | _, _, _ + 1, .nil => by simp; exact .nil
  | _, _, n + 1, .cons _ t => by simp; exact DPs.drop n t
theorem DPs.set : ∀ {vs : List V} {ds : List D} {v : V} {d : D} (i : Nat), DPs K H P vs ds → DP K H P v d → DPs K H P (vs.set i v) (ds.set i d)
  | _, _, _, _, _, .nil, _ => .nil
  | _, _, _, _, 0, .cons _ t, r => .cons r t
  | _, _, _, _, i + 1, .cons q t, r => .cons q (DPs.set i t r)
theorem DPs.eraseIdx : ∀ {vs : List V} {ds : List D} (i : Nat), DPs K H P vs ds → DPs K H P (vs.eraseIdx i) (ds.eraseIdx i)
  | _, _, _, .nil => .nil
  | _, _, 0, .cons _ t => by simpa using t
  | _, _, i + 1, .cons q t => by simp; exact .cons q (DPs.eraseIdx i t)
theorem DPs.reverse : ∀ {vs : List V} {ds : List D}, DPs K H P vs ds → DPs K H P vs.reverse ds.reverse
  | _, _, .nil => .nil
  | _, _, .cons q t => by simp only [List.reverse_cons]; exact (DPs.reverse t).append (.cons q .nil)
theorem DPs.ints : ∀ {vs : List V} {ns : List Int}, DPs K H P vs (ns.map PyData.int) → vs = ns.map V.int
  | _, [], .nil => rfl
  | _, n :: ns, .cons q t => by cases q; rw [DPs.ints t]; rfl
theorem DPs.ofInts : ∀ ns : List Int, DPs K H P (ns.map V.int) (ns.map PyData.int)
  | [] => .nil
  | n :: ns => .cons (.int n) (DPs.ofInts ns)
end

/-! ### the state of a def's body over trees -/
/-- the entry: what was tracked; the pool of draws -/
structure Gh where
  H0 : Hp
  pool : Option Addr
  ps : Nat
  pq : Addr
  arg : Addr → Prop
  ret : Hp → V → PyData → Prop
/-- a slot: frozen data (b: its lists are younger than the entry), a list that the slot owns (b: the lists in it are younger than the entry) -/
inductive Sl where
  | fz (d : D) (b : Bool)
  | own (ds : List D) (b : Bool)
  | dK (kvs : List (Key × D))
  | dT (kvs : List (List Key × D))
  | reg (φ : List Addr → Hp → V → Prop)
abbrev Slots := List (Option Sl)
abbrev Ow := Addr → Option (Option Nat)
def PoolAt (K : PySem.W.Frag) (H : Hp) (p q : Addr) : Prop :=
  ∃ (ns : List Int) (i c n s : Int), H p = some (.lst [.ref q, .int i, .int c, .int n, .int s]) ∧ H q = some (.lst (ns.map V.int)) ∧ q ≠ p ∧ 0 ≤ i
/-- b: younger than the entry; and else one of the arguments' -/
structure FzB (G : Gh) (b : Bool) (a : Addr) : Prop where
  n : b = true → G.H0 a = none
  p : G.H0 a = none ∨ G.arg a
instance {G : Gh} {b : Bool} {a : Addr} : CoeFun (FzB G b a) (fun _ => b = true → G.H0 a = none) := ⟨FzB.n⟩
theorem FzB.of {G : Gh} {b : Bool} {a : Addr} (h : G.H0 a = none) : FzB G b a := ⟨fun _ => h, .inl h⟩
theorem FzB.to {G : Gh} {b c : Bool} {a : Addr} (h : FzB G b a) (f : c = true → b = true) : FzB G c a := ⟨fun z => h.n (f z), h.p⟩
def Fz (G : Gh) (ow : Ow) (b : Bool) (a : Addr) : Prop := ow a = none ∧ FzB G b a
/-- a dict's items -/
def DKs {κ : Type} (K : PySem.W.Frag) (H : Hp) (P : Addr → Prop) : List (κ × V) → List (κ × D) → Prop := Paired fun p q => p.1 = q.1 ∧ DP K H P p.2 q.2
theorem DKs.keep {κ : Type} {K : PySem.W.Frag} {H H' : Hp} {P P' : Addr → Prop} {l : List (κ × V)} {m : List (κ × D)} (h : DKs K H P l m) (hl : ∀ a o, P a → H a = some o → H' a = some o) (ht : ∀ a o, H a = some o → ¬ Mut (H a) → H' a = some o) (hp : ∀ a, P a → P' a) : DKs K H' P' l m :=
  Paired.mapP h fun _ _ q => ⟨q.1, q.2.keep hl ht hp⟩
/-- lists that one slot owns, told by hand -/
def RegOk (ow : Ow) (H : Hp) (k : Nat) (v : V) (φ : List Addr → Hp → V → Prop) : Prop := ∃ A, (∀ a ∈ A, ow a = some (some k) ∧ Mut (H a)) ∧ φ A H v ∧ ∀ H1 H2 : Hp, (∀ a ∈ A, ∀ o, H1 a = some o → H2 a = some o) → φ A H1 v → φ A H2 v
theorem RegOk.keep {ow ow' : Ow} {H H' : Hp} {k : Nat} {v : V} {φ : List Addr → Hp → V → Prop} (h : RegOk ow H k v φ) (hk : ∀ a o, ow a = some (some k) → H a = some o → H' a = some o ∧ ow' a = some (some k)) : RegOk ow' H' k v φ := by
  obtain ⟨A, hA, hφ, hl⟩ := h
  have st : ∀ a ∈ A, ∃ o, H a = some o ∧ Mut (some o) := fun a ha => by
    have m := (hA a ha).2
    cases e : H a with
    | none => rw [e] at m; exact m.elim
    | some o => rw [e] at m; exact ⟨o, rfl, m⟩
  refine ⟨A, fun a ha => ?_, hl H H' (fun a ha o e => (hk a o (hA a ha).1 e).1) hφ, hl⟩
  obtain ⟨o, e, m⟩ := st a ha
  obtain ⟨e1, e2⟩ := hk a o (hA a ha).1 e
  exact ⟨e2, by rw [e1]; exact m⟩
def SlOk (K : PySem.W.Frag) (G : Gh) (ow : Ow) (H : Hp) (k : Nat) (v : V) : Sl → Prop
  | .fz d b => DP K H (Fz G ow b) v d
  | .own ds b => ∃ a xs, v = .ref a ∧ ow a = some (some k) ∧ H a = some (.lst xs) ∧ DPs K H (Fz G ow b) xs ds
  | .dK kvs => ∃ a xs, v = .ref a ∧ ow a = some (some k) ∧ H a = some (.dK xs) ∧ DKs K H (Fz G ow true) xs kvs
  | .dT kvs => ∃ a xs, v = .ref a ∧ ow a = some (some k) ∧ H a = some (.dT xs) ∧ DKs K H (Fz G ow true) xs kvs
  | .reg φ => RegOk ow H k v φ
structure Sim (K : PySem.W.Frag) (G : Gh) (τ : Slots) (ow : Ow) (σ : L2.St) (H : Hp) : Prop where
  len : τ.length = σ.length
  sl : ∀ k s, τ[k]? = some (some s) → ∃ v, σ[k]? = some (some v) ∧ SlOk K G ow H k v s
  own : ∀ a k, ow a = some k → Mut (H a)
  ent : ∀ a o, G.H0 a = some o → G.pool ≠ some a → H a = some o ∧ ow a = none
  pool : ∀ p, G.pool = some p → PoolAt K H p G.pq ∧ ow p = some none ∧ ow G.pq = none
  pl : ∀ p, G.pool = some p → σ[G.ps]? = some (some (.ref p))
/-- the heap grows; the pool may turn -/
structure Grow (K : PySem.W.Frag) (G : Gh) (H H' : Hp) : Prop where
  keep : ∀ a o, H a = some o → G.pool ≠ some a → H' a = some o
  pool : ∀ p, G.pool = some p → PoolAt K H p G.pq → PoolAt K H' p G.pq
section
variable {K : PySem.W.Frag} {G : Gh} {τ : Slots} {ow : Ow} {σ : L2.St} {H H1 H2 H' : Hp}
theorem Grow.refl : Grow K G H H := ⟨fun _ _ e _ => e, fun _ _ h => h⟩
theorem Grow.trans (a : Grow K G H H1) (b : Grow K G H1 H2) : Grow K G H H2 := ⟨fun c o e n => b.keep c o (a.keep c o e n) n, fun p e h => b.pool p e (a.pool p e h)⟩
theorem PoolAt.ex {p q : Addr} (h : PoolAt K H p q) : ∃ xs, H p = some (.lst xs) := let ⟨_, _, _, _, _, e, _⟩ := h; ⟨_, e⟩
theorem PoolAt.keep {p q : Addr} (h : PoolAt K H p q) (kp : ∀ o, H p = some o → H' p = some o) (k : ∀ o, H q = some o → H' q = some o) : PoolAt K H' p q := by
  obtain ⟨ns, i, c, n, s, e, hs, ne, hi⟩ := h
  exact ⟨ns, i, c, n, s, kp _ e, k _ hs, ne, hi⟩
theorem Grow.ofSame (k : ∀ a o, H a = some o → H' a = some o) : Grow K G H H' := ⟨fun a o e _ => k a o e, fun _ _ h => h.keep (k _) (k _)⟩
theorem Grow.upd {a : Addr} {o : HO} (h : H a = none) : Grow K G H (L2.upd H a o) := Grow.ofSame fun b u e => by rw [upd_ne (ne_of_none e h)]; exact e
theorem Sim.npool (S : Sim K G τ ow σ H) {a : Addr} (h : ow a = none) : G.pool ≠ Option.some a := fun e => by
  have := (S.pool a e).2.1
  rw [h] at this; cases this
theorem Sim.nslot (S : Sim K G τ ow σ H) {a : Addr} {k : Nat} (h : ow a = some (some k)) : G.pool ≠ Option.some a := fun e => by
  have := (S.pool a e).2.1
  rw [h] at this; cases this
theorem Sim.nmut (S : Sim K G τ ow σ H) {a : Addr} (h : ¬ Mut (H a)) : G.pool ≠ Option.some a := fun e => by
  obtain ⟨xs, q⟩ := (S.pool a e).1.ex
  rw [q] at h; exact h trivial
theorem Sim.fresh0 (S : Sim K G τ ow σ H) {a : Addr} (h : H a = none) : G.H0 a = none := by
  cases e : G.H0 a with
  | none => rfl
  | some o =>
    by_cases hp : G.pool = Option.some a
    · obtain ⟨xs, q⟩ := (S.pool a hp).1.ex
      rw [h] at q; cases q
    · have := (S.ent a o e hp).1
      rw [h] at this; cases this
theorem Sim.freshO (S : Sim K G τ ow σ H) {a : Addr} (h : H a = none) : ow a = none := by
  cases e : ow a with
  | none => rfl
  | some k => have := S.own a k e; rw [h] at this; exact this.elim
theorem Sim.slot0 (S : Sim K G τ ow σ H) {a : Addr} {k : Nat} (h : ow a = some (some k)) : G.H0 a = none := by
  cases e : G.H0 a with
  | none => rfl
  | some o => have := (S.ent a o e (S.nslot h)).2; rw [h] at this; cases this
/-- data whose lists are not the pool stays as the heap grows -/
theorem DP.grow (S : Sim K G τ ow σ H) (g : Grow K G H H') {P : Addr → Prop} (hp : ∀ a, P a → G.pool ≠ Option.some a) {v : V} {d : D} (h : DP K H P v d) : DP K H' P v d :=
  h.keep (fun a o p e => g.keep a o e (hp a p)) (fun a o e n => g.keep a o e (S.nmut n)) fun _ p => p
theorem DPs.grow (S : Sim K G τ ow σ H) (g : Grow K G H H') {P : Addr → Prop} (hp : ∀ a, P a → G.pool ≠ Option.some a) {v : List V} {d : List D} (h : DPs K H P v d) : DPs K H' P v d :=
  h.keep (fun a o p e => g.keep a o e (hp a p)) (fun a o e n => g.keep a o e (S.nmut n)) fun _ p => p
theorem Sim.fzp (S : Sim K G τ ow σ H) {b : Bool} : ∀ a, Fz G ow b a → G.pool ≠ Option.some a := fun _ h => S.npool h.1
theorem Sim.grow (S : Sim K G τ ow σ H) (g : Grow K G H H') : Sim K G τ ow σ H' := by
  refine ⟨S.len, fun k s e => ?_, fun a k e => ?_, fun a o e n => ⟨g.keep a o (S.ent a o e n).1 n, (S.ent a o e n).2⟩, fun p e => ⟨g.pool p e (S.pool p e).1, (S.pool p e).2⟩, S.pl⟩
  · obtain ⟨v, e1, h⟩ := S.sl k s e
    refine ⟨v, e1, ?_⟩
    cases s with
    | fz d b => exact DP.grow S g S.fzp h
    | own ds b =>
      obtain ⟨a, xs, e2, o, e3, h⟩ := h
      exact ⟨a, xs, e2, o, g.keep a _ e3 (S.nslot o), DPs.grow S g S.fzp h⟩
    | dK kvs =>
      obtain ⟨a, xs, e2, o, e3, h⟩ := h
      exact ⟨a, xs, e2, o, g.keep a _ e3 (S.nslot o), DKs.keep h (fun a o p e => g.keep a o e (S.fzp a p)) (fun a o e n => g.keep a o e (S.nmut n)) fun _ p => p⟩
    | dT kvs =>
      obtain ⟨a, xs, e2, o, e3, h⟩ := h
      exact ⟨a, xs, e2, o, g.keep a _ e3 (S.nslot o), DKs.keep h (fun a o p e => g.keep a o e (S.fzp a p)) (fun a o e n => g.keep a o e (S.nmut n)) fun _ p => p⟩
    | reg φ => exact RegOk.keep h fun c o oc e => ⟨g.keep c o e (S.nslot oc), oc⟩
  · have m := S.own a k e
    by_cases hp : G.pool = Option.some a
    · obtain ⟨xs, q⟩ := (g.pool a hp (S.pool a hp).1).ex
      rw [q]; trivial
    · cases q : H a with
      | none => rw [q] at m; exact m.elim
      | some o => rw [g.keep a o q hp]; rw [q] at m; exact m
end

/-! ### results of expressions -/
/-- a new list that nobody else knows; frozen data; a list that a slot owns. b: the lists in it (of fz: and itself) are younger than the entry -/
inductive Kd where
  | nw (b : Bool) | fz (b : Bool) | ow (b : Bool)
def Kd.b : Kd → Bool
  | .nw b => b
  | .fz b => b
  | .ow b => b
def RV (K : PySem.W.Frag) (G : Gh) (ow : Ow) (H H' : Hp) (v : V) (d : D) : Kd → Prop
  | .fz b => DP K H' (Fz G ow b) v d
  | .nw b => ∃ a xs ds, v = .ref a ∧ d = .list ds ∧ H a = none ∧ H' a = some (.lst xs) ∧ DPs K H' (fun c => Fz G ow b c ∧ c ≠ a) xs ds
  | .ow b => ∃ a xs ds, v = .ref a ∧ d = .list ds ∧ (G.pool ≠ some a ∧ ∃ k, ow a = some (some k)) ∧ G.H0 a = none ∧ H' a = some (.lst xs) ∧ DPs K H' (Fz G ow b) xs ds
section
variable {K : PySem.W.Frag} {G : Gh} {τ : Slots} {ow : Ow} {σ : L2.St} {H H1 H2 H' : Hp} {v : V} {d : D} {kd : Kd}
theorem RV.grow (S : Sim K G τ ow σ H) (g : Grow K G H H1) (g' : Grow K G H1 H2) (r : RV K G ow H H1 v d kd) : RV K G ow H H2 v d kd := by
  have S1 := S.grow g
  cases kd with
  | fz b => exact DP.grow S1 g' S.fzp r
  | ow b =>
    obtain ⟨a, xs, ds, e1, e2, n, n0, e3, h⟩ := r
    exact ⟨a, xs, ds, e1, e2, n, n0, g'.keep a _ e3 n.1, DPs.grow S1 g' S.fzp h⟩
  | nw b =>
    obtain ⟨a, xs, ds, e1, e2, n, e3, h⟩ := r
    refine ⟨a, xs, ds, e1, e2, n, g'.keep a _ e3 (S.npool (S.freshO n)), DPs.grow S1 g' (fun c h => S.npool h.1.1) h⟩
theorem Grow.none (S : Sim K G τ ow σ H) (g : Grow K G H H1) {a : Addr} (n : H1 a = none) : H a = Option.none := by
  cases q : H a with
  | none => rfl
  | some o =>
    by_cases hp : G.pool = Option.some a
    · obtain ⟨ys, z⟩ := (g.pool a hp (S.pool a hp).1).ex
      rw [n] at z; cases z
    · rw [g.keep a o q hp] at n; cases n
theorem RV.start (S : Sim K G τ ow σ H) (g : Grow K G H H1) (r : RV K G ow H1 H2 v d kd) : RV K G ow H H2 v d kd := by
  cases kd with
  | fz b => exact r
  | ow b => exact r
  | nw b =>
    obtain ⟨a, xs, ds, e1, e2, n, e3, h⟩ := r
    exact ⟨a, xs, ds, e1, e2, g.none S n, e3, h⟩
/-- every result can be read -/
theorem RV.dp (r : RV K G ow H H' v d kd) (hn : nd d = true) : Dp K H' v d := by
  cases kd with
  | fz b => exact DP.dp r hn
  | ow b =>
    obtain ⟨a, xs, ds, rfl, rfl, n, n0, e3, h⟩ := r
    exact .lst (.of e3) (h.dp (by simpa [nd] using hn))
  | nw b =>
    obtain ⟨a, xs, ds, rfl, rfl, n, e3, h⟩ := r
    exact .lst (.of e3) (h.dp (by simpa [nd] using hn))
theorem Fz.weak {a : Addr} {b : Bool} (h : Fz G ow b a) : Fz G ow false a := ⟨h.1, h.2.to fun z => by cases z⟩
theorem Fz.andL {a : Addr} {b c : Bool} (h : Fz G ow b a) : Fz G ow (b && c) a := ⟨h.1, h.2.to fun z => (Bool.and_eq_true_iff.mp z).1⟩
theorem Fz.andR {a : Addr} {b c : Bool} (h : Fz G ow c a) : Fz G ow (b && c) a := ⟨h.1, h.2.to fun z => (Bool.and_eq_true_iff.mp z).2⟩
/-- the items of a list -/
theorem RV.lst {ds : List D} (r : RV K G ow H H' v (.list ds) kd) : ∃ a xs, v = .ref a ∧ H' a = some (.lst xs) ∧ DPs K H' (Fz G ow kd.b) xs ds := by
  cases kd with
  | fz b =>
    have r' : DP K H' (Fz G ow b) v (.list ds) := r
    cases r' with
    | lst p h t => exact ⟨_, _, rfl, h, t⟩
  | ow b =>
    obtain ⟨a, xs, ds', rfl, e, n, n0, e3, h⟩ := r
    injection e with e
    subst e
    exact ⟨a, xs, rfl, e3, h⟩
  | nw b =>
    obtain ⟨a, xs, ds', rfl, e, n, e3, h⟩ := r
    injection e with e
    subst e
    exact ⟨a, xs, rfl, e3, h.mono fun _ h => h.1⟩
/-- the items of a tuple -/
theorem RV.tup {ds : List D} (r : RV K G ow H H' v (.tuple ds) kd) : ∃ a xs, v = .ref a ∧ H' a = some (.tup xs) ∧ DPs K H' (Fz G ow kd.b) xs ds := by
  cases kd with
  | fz b =>
    have r' : DP K H' (Fz G ow b) v (.tuple ds) := r
    cases r' with
    | tup h t => exact ⟨_, _, rfl, h, t⟩
  | ow b => obtain ⟨a, xs, ds', rfl, e, _⟩ := r; cases e
  | nw b => obtain ⟨a, xs, ds', rfl, e, _⟩ := r; cases e
theorem RV.isNon (r : RV K G ow H H' .non d kd) : d = .none := by
  cases kd with
  | fz b => cases (show DP K H' (Fz G ow b) .non d from r); rfl
  | ow b => obtain ⟨a, xs, ds, e, _⟩ := r; cases e
  | nw b => obtain ⟨a, xs, ds, e, _⟩ := r; cases e
theorem RV.int {i : Int} (r : RV K G ow H H' v (.int i) kd) : v = .int i := by
  have := r.dp rfl
  cases this; rfl
theorem RV.bool {i : Bool} (r : RV K G ow H H' v (.bool i) kd) : v = .bl i := by
  have := r.dp rfl
  cases this; rfl
theorem RV.str {i : Str} (r : RV K G ow H H' v (.str i) kd) : v = .str i := by
  have := r.dp rfl
  cases this; rfl
theorem RV.non (r : RV K G ow H H' v .none kd) : v = .non := by
  have := r.dp rfl
  cases this; rfl
/-- immutable data are frozen -/
theorem RV.im (r : RV K G ow H H' v d kd) (hi : im d = true) : RV K G ow H H' v d (.fz true) := by
  cases kd with
  | fz b => exact DP.ofIm (show DP K H' (Fz G ow b) v d from r) hi
  | ow b => obtain ⟨a, xs, ds', rfl, rfl, _⟩ := r; simp [TL.im] at hi
  | nw b => obtain ⟨a, xs, ds', rfl, rfl, _⟩ := r; simp [TL.im] at hi
/-- a new list is frozen -/
theorem RV.frz (S : Sim K G τ ow σ H) {b : Bool} (r : RV K G ow H H' v d (.nw b)) : RV K G ow H H' v d (.fz b) := by
  obtain ⟨a, xs, ds, rfl, rfl, n, e3, h⟩ := r
  show DP K H' (Fz G ow b) _ _
  exact .lst ⟨S.freshO n, .of (S.fresh0 n)⟩ e3 (h.mono fun _ h => h.1)
end
end TL

set_option maxHeartbeats 4000000
namespace TL
open PySem PySem.Spec PyProof.Rows L2

abbrev QD := D → Kd → Prop
abbrev WQ := Str → Prop
abbrev TX := Slots → QD → WQ → Prop
abbrev TXs := Slots → (List (D × Kd) → Prop) → WQ → Prop
abbrev TXb := Slots → (Bool → Prop) → WQ → Prop
/-- what leaves by an exception -/
def Wk (K : PySem.W.Frag) (G : Gh) (W : WX) (σ : L2.St) (H : Hp) (wq : WQ) : Prop := ∀ nm H', Grow K G H H' → wq nm → W (.ref (He.ga K nm)) none σ H'
theorem Wk.grow {K : PySem.W.Frag} {G : Gh} {W : WX} {σ : L2.St} {H H1 : Hp} {wq : WQ} (h : Wk K G W σ H wq) (g : Grow K G H H1) : Wk K G W σ H1 wq := fun nm H' g' q => h nm H' (g.trans g') q
structure GE (X : Cx) (G : Gh) (W : WX) (e : Expr) (t : TX) : Prop where
  ex : ∃ te, PE X e te ∧ ∀ (σ : L2.St) (H : Hp) (τ : Slots) (ow : Ow) (Q : QD) (wq : WQ) (Kt : VK), Sim X.K G τ ow σ H → t τ Q wq →
    (∀ v H' d kd, Grow X.K G H H' → RV X.K G ow H H' v d kd → Q d kd → Kt v H') → Wk X.K G W σ H wq → te σ H Kt
structure GB (X : Cx) (G : Gh) (W : WX) (e : Expr) (t : TXb) : Prop where
  ex : ∃ te, PT X e te ∧ ∀ (σ : L2.St) (H : Hp) (τ : Slots) (ow : Ow) (Q : Bool → Prop) (wq : WQ) (Kt : Bool → Hp → Prop), Sim X.K G τ ow σ H → t τ Q wq →
    (∀ b H', Grow X.K G H H' → Q b → Kt b H') → Wk X.K G W σ H wq → te σ H Kt
/-- .. whatever its 'whole' is -/
structure GW (X : Cx) (G : Gh) (W : WX) (e : Expr) (t : TXb) : Prop where
  ex : ∃ te, PW X e te ∧ ∀ (σ : L2.St) (H : Hp) (τ : Slots) (ow : Ow) (Q : Bool → Prop) (wq : WQ) (Kt : Bool → Hp → Prop), Sim X.K G τ ow σ H → t τ Q wq →
    (∀ b H', Grow X.K G H H' → Q b → Kt b H') → Wk X.K G W σ H wq → te σ H Kt
inductive RVs (K : PySem.W.Frag) (G : Gh) (ow : Ow) (H H' : Hp) : List V → List (D × Kd) → Prop
  | nil : RVs K G ow H H' [] []
  | cons {v : V} {vs : List V} {d : D} {kd : Kd} {ds : List (D × Kd)} : RV K G ow H H' v d kd → RVs K G ow H H' vs ds → RVs K G ow H H' (v :: vs) ((d, kd) :: ds)
structure GA (X : Cx) (G : Gh) (W : WX) (es : List Expr) (t : TXs) : Prop where
  ex : ∃ te, PA X es te ∧ ∀ (σ : L2.St) (H : Hp) (τ : Slots) (ow : Ow) (Q : List (D × Kd) → Prop) (wq : WQ) (Kt : List V → Hp → Prop), Sim X.K G τ ow σ H → t τ Q wq →
    (∀ vs H' ds, Grow X.K G H H' → RVs X.K G ow H H' vs ds → ds.length = es.length → Q ds → Kt vs H') → Wk X.K G W σ H wq → te σ H Kt
section
variable {X : Cx} {G : Gh} {W : WX} {pos : Pos}
theorem RV.ofFz {K : PySem.W.Frag} {ow : Ow} {H H' : Hp} {v : V} {d : D} {b : Bool} (h : DP K H' (Fz G ow b) v d) : RV K G ow H H' v d (.fz b) := h
theorem RV.sc {K : PySem.W.Frag} {ow : Ow} {H H' : Hp} {v : V} {d : D} (h : ∀ P, DP K H' P v d) : RV K G ow H H' v d (.fz true) := h _
/-! ### constants, names -/
def gC (d : D) : TX := fun _ Q _ => Q d (.fz true)
theorem ge_int {i j} : GE X G W (.Constant (.int i) j pos) (gC (.int i)) := ⟨_, pe_int, fun σ H τ ow Q wq Kt S h k _ => k _ _ _ _ Grow.refl (RV.sc fun _ => .int i) h⟩
theorem ge_bl {i j} : GE X G W (.Constant (.bool i) j pos) (gC (.bool i)) := ⟨_, pe_bl, fun σ H τ ow Q wq Kt S h k _ => k _ _ _ _ Grow.refl (RV.sc fun _ => .bl i) h⟩
theorem ge_str {i j} : GE X G W (.Constant (.str i) j pos) (gC (.str i)) := ⟨_, pe_str, fun σ H τ ow Q wq Kt S h k _ => k _ _ _ _ Grow.refl (RV.sc fun _ => .str i) h⟩
theorem ge_non {j} : GE X G W (.Constant .none j pos) (gC .none) := ⟨_, pe_non, fun σ H τ ow Q wq Kt S h k _ => k _ _ _ _ Grow.refl (RV.sc fun _ => .non) h⟩
theorem DP.up {K : PySem.W.Frag} {ow : Ow} {H : Hp} {b : Bool} {v : V} {d : D} (h : DP K H (Fz G ow b) v d) : DP K H (Fz G ow (b || im d)) v d := by
  cases hi : im d with
  | false => rw [Bool.or_false]; exact h
  | true => exact DP.ofIm h hi
theorem DPs.up {K : PySem.W.Frag} {ow : Ow} {H : Hp} {b : Bool} {v : List V} {d : List D} (h : DPs K H (Fz G ow b) v d) : DPs K H (Fz G ow (b || im.imAll d)) v d := by
  cases hi : im.imAll d with
  | false => rw [Bool.or_false]; exact h
  | true => exact DPs.ofIm h hi
def rdSl : Option (Option Sl) → QD → Prop
  | some (some (.fz d b)), Q => Q d (.fz (b || im d))
  | some (some (.own ds b)), Q => Q (.list ds) (.ow (b || im.imAll ds))
  | _, _ => False
def gV (k : Nat) : TX := fun τ Q _ => rdSl τ[k]? Q
theorem Sim.slot {K : PySem.W.Frag} {τ : Slots} {ow : Ow} {σ : L2.St} {H : Hp} (S : Sim K G τ ow σ H) {k : Nat} {Q : QD} (h : rdSl τ[k]? Q) : ∃ v d kd, σ[k]? = some (some v) ∧ RV K G ow H H v d kd ∧ Q d kd := by
  cases e : τ[k]? with
  | none => rw [e] at h; exact h.elim
  | some o =>
    cases o with
    | none => rw [e] at h; exact h.elim
    | some s =>
      rw [e] at h
      obtain ⟨v, e1, q⟩ := S.sl k s e
      cases s with
      | fz d b => exact ⟨v, d, .fz (b || im d), e1, DP.up q, h⟩
      | own ds b =>
        obtain ⟨a, xs, e2, o, e3, t⟩ := q
        exact ⟨v, .list ds, .ow (b || im.imAll ds), e1, ⟨a, xs, ds, e2, rfl, ⟨S.nslot o, _, o⟩, S.slot0 o, e3, t.up⟩, h⟩
      | dK kvs => exact h.elim
      | dT kvs => exact h.elim
      | reg φ => exact h.elim
theorem ge_var (k : Nat) {x : Str} (hN : X.N[k]? = some x := by rfl) (hv : Vis X.env.scope x := by first | exact Or.inl rfl | exact Or.inr (Or.inl rfl) | exact Or.inr (Or.inr rfl)) (hd : (x == ("__debug__" : Str)) = false := by decide)
    (hcd : (x == ("__classdict__" : Str)) = false := by decide) : GE X G W (.Name x pos) (gV k) :=
  ⟨_, pe_var hN hv hd hcd, fun σ H τ ow Q wq Kt S h kt _ => by
    obtain ⟨v, d, kd, e, r, q⟩ := S.slot h
    exact ⟨v, e, kt v H d kd Grow.refl r q⟩⟩
/-- a module's constant -/
theorem ge_globInt {x : Str} {i : Int} (hg : Gl X x := by rfl) (hm : ∃ t, X.mg x = some (.int i t)) (hd : (x == ("__debug__" : Str)) = false := by decide) : GE X G W (.Name x pos) (gC (.int i)) := by
  obtain ⟨t, hm⟩ := hm
  exact ⟨_, pe_glob (v := .int i) hg hm ⟨t, rfl⟩ hd, fun σ H τ ow Q wq Kt S h k _ => k _ _ _ _ Grow.refl (RV.sc fun _ => .int i) h⟩
theorem ge_globStr {x : Str} {i : Str} (hg : Gl X x := by rfl) (hm : ∃ t, X.mg x = some (.str i t)) (hd : (x == ("__debug__" : Str)) = false := by decide) : GE X G W (.Name x pos) (gC (.str i)) := by
  obtain ⟨t, hm⟩ := hm
  exact ⟨_, pe_glob (v := .str i) hg hm ⟨t, rfl⟩ hd, fun σ H τ ow Q wq Kt S h k _ => k _ _ _ _ Grow.refl (RV.sc fun _ => .str i) h⟩

/-! ### argument lists -/
def gNil : TXs := fun _ Q _ => Q []
def gCons (ta : TX) (tr : TXs) : TXs := fun τ Q wq => ta τ (fun d kd => tr τ (fun ds => Q ((d, kd) :: ds)) wq) wq
theorem ga_nil : GA X G W [] gNil := ⟨_, pa_nil, fun σ H τ ow Q wq Kt S h k _ => k _ _ _ Grow.refl .nil rfl h⟩
theorem RVs.startG {K : PySem.W.Frag} {τ : Slots} {ow : Ow} {σ : L2.St} {H H1 H2 : Hp} (S : Sim K G τ ow σ H) (g : Grow K G H H1) : ∀ {vs : List V} {ds : List (D × Kd)}, RVs K G ow H1 H2 vs ds → RVs K G ow H H2 vs ds
  | _, _, .nil => .nil
  | _, _, .cons r t => .cons (r.start S g) (RVs.startG S g t)
theorem ga_cons {e : Expr} {es : List Expr} {ta : TX} {tr : TXs} (ha : GE X G W e ta) (hr : GA X G W es tr) (hs : starEach (e :: es) X.env = (false, eval e X.env) :: starEach es X.env := by rfl) : GA X G W (e :: es) (gCons ta tr) := by
  obtain ⟨te, p1, f1⟩ := ha.ex
  obtain ⟨t2, p2, f2⟩ := hr.ex
  refine ⟨_, pa_cons p1 p2 hs, fun σ H τ ow Q wq Kt S h k w => ?_⟩
  refine f1 σ H τ ow _ wq _ S h (fun v H1 d kd g1 r1 q1 => ?_) w
  refine f2 σ H1 τ ow _ wq _ (S.grow g1) q1 (fun vs H2 ds g2 r2 l2 q2 => ?_) (w.grow g1)
  exact k (v :: vs) H2 _ (g1.trans g2) (.cons (r1.grow S g1 g2) (r2.startG S g1)) (by simp [l2]) q2

/-! ### two operands -/
/-- by what stands there -/
def OpG (X : Cx) (G : Gh) (r : R2) (f : D → Bool → D → Bool → QD → Prop) : Prop :=
  ∀ {σ : L2.St} {H1 H : Hp} {τ : Slots} {ow : Ow} {x y : V} {dx dy : D} {kx ky : Kd} {Q : QD} {Kt : VK}, Sim X.K G τ ow σ H1 → Grow X.K G H1 H → RV X.K G ow H1 H x dx kx → RV X.K G ow H1 H y dy ky → f dx kx.b dy ky.b Q →
    (∀ v H' d kd, Grow X.K G H H' → RV X.K G ow H1 H' v d kd → Q d kd → Kt v H') → r x y H Kt
def gBin (f : D → Bool → D → Bool → QD → Prop) (ta tb : TX) : TX := fun τ Q wq => ta τ (fun dx kx => tb τ (fun dy ky => f dx kx.b dy ky.b Q) wq) wq
theorem ge_op2 {a b e : Expr} {ta tb : TX} {r : R2} {f : D → Bool → D → Bool → QD → Prop} (hf : OpG X G r f) (ha : GE X G W a ta) (hb : GE X G W b tb) (mk : ∀ {t u : TE}, PE X a t → PE X b u → PE X e (tOp r t u)) : GE X G W e (gBin f ta tb) := by
  obtain ⟨te, p1, f1⟩ := ha.ex
  obtain ⟨t2, p2, f2⟩ := hb.ex
  refine ⟨_, mk p1 p2, fun σ H τ ow Q wq Kt S h k w => ?_⟩
  refine f1 σ H τ ow _ wq _ S h (fun x H1 dx kx g1 r1 q1 => ?_) w
  refine f2 σ H1 τ ow _ wq _ (S.grow g1) q1 (fun y H2 dy ky g2 r2 q2 => ?_) (w.grow g1)
  exact hf S (g1.trans g2) (r1.grow S g1 g2) (r2.start S g1) q2 fun v H' d kd g r q => k v H' d kd ((g1.trans g2).trans g) r q
theorem ge_bin {a b : Expr} {ta tb : TX} {op : Operator} {r : R2} {f : D → Bool → D → Bool → QD → Prop} (ho : OpR X (binaryOp op) r) (hf : OpG X G r f) (ha : GE X G W a ta) (hb : GE X G W b tb) : GE X G W (.BinOp a op b pos) (gBin f ta tb) :=
  ge_op2 hf ha hb fun p q => pe_op ho p q
theorem ge_cmp {a b : Expr} {ta tb : TX} {op : CmpOp} {r : R2} {f : D → Bool → D → Bool → QD → Prop} (ho : OpR X (compareOp op) r) (hf : OpG X G r f) (ha : GE X G W a ta) (hb : GE X G W b tb)
    (hm : behindInMarks op b = false := by first | exact nomark _ (by decide) (by decide) | rfl) : GE X G W (.Compare a [op] [b] pos) (gBin f ta tb) :=
  ge_op2 hf ha hb fun p q => pe_cmpR ho p q hm
theorem OpG.or {r r' : R2} {f f' : D → Bool → D → Bool → QD → Prop} (h : OpG X G r f) (h' : OpG X G r' f') : OpG X G (fun x y H Q => r x y H Q ∨ r' x y H Q) (fun a b c d Q => f a b c d Q ∨ f' a b c d Q) := by
  intro σ H1 H τ ow x y dx dy kx ky Q Kt S g rx ry hf k
  rcases hf with hf | hf
  · exact .inl (h S g rx ry hf k)
  · exact .inr (h' S g rx ry hf k)
theorem OpG.of {r : R2} {f f' : D → Bool → D → Bool → QD → Prop} (h : OpG X G r f) (hi : ∀ a b c d Q, f' a b c d Q → f a b c d Q) : OpG X G r f' := by
  intro σ H1 H τ ow x y dx dy kx ky Q Kt S g rx ry hf k
  exact h S g rx ry (hi _ _ _ _ _ hf) k
/-- two ints to a scalar -/
def fI2 (C : Int → Int → Prop) (g : Int → Int → D) : D → Bool → D → Bool → QD → Prop
  | .int i, _, .int j, _, Q => C i j ∧ Q (g i j) (.fz true)
  | _, _, _, _, _ => False
theorem og_I2 {C : Int → Int → Prop} {g : Int → Int → D} {gv : Int → Int → V} (hg : ∀ K H P i j, DP K H P (gv i j) (g i j)) : OpG X G (rI C gv) (fI2 C g) := by
  intro σ H1 H τ ow x y dx dy kx ky Q Kt S gr rx ry hf k
  unfold fI2 at hf
  split at hf
  · exact ⟨_, _, rx.int, ry.int, hf.1, k _ _ _ _ Grow.refl (RV.sc fun _ => hg _ _ _ _ _) hf.2⟩
  · exact hf.elim
def fI0 (g : Int → Int → D) : D → Bool → D → Bool → QD → Prop
  | .int i, _, .int j, _, Q => Q (g i j) (.fz true)
  | _, _, _, _, _ => False
theorem og_I0 {g : Int → Int → D} {gv : Int → Int → V} (hg : ∀ K H P i j, DP K H P (gv i j) (g i j)) : OpG X G (rI0 gv) (fI0 g) := by
  intro σ H1 H τ ow x y dx dy kx ky Q Kt S gr rx ry hf k
  unfold fI0 at hf
  split at hf
  · exact ⟨_, _, rx.int, ry.int, k _ _ _ _ Grow.refl (RV.sc fun _ => hg _ _ _ _ _) hf⟩
  · exact hf.elim
/-- a new list over items that stand -/
theorem RV.new {K : PySem.W.Frag} {τ : Slots} {ow : Ow} {σ : L2.St} {H1 H : Hp} {p : Addr} {b : Bool} {xs : List V} {ds : List D} (S : Sim K G τ ow σ H1) (g : Grow K G H1 H) (hp : H p = none) (h : DPs K H (Fz G ow b) xs ds) :
    RV K G ow H1 (upd H p (.lst xs)) (.ref p) (.list ds) (.nw b) := by
  have S2 := S.grow g
  refine ⟨p, xs, ds, rfl, rfl, g.none S hp, upd_same, ?_⟩
  have hh : DPs K H (fun c => Fz G ow b c ∧ c ≠ p) xs ds := DPs.live hp h
  exact hh.grow S2 (Grow.upd hp) fun c q => S2.npool q.1.1
/-- a new tuple -/
theorem RV.newT {K : PySem.W.Frag} {τ : Slots} {ow : Ow} {σ : L2.St} {H1 H : Hp} {p : Addr} {b : Bool} {xs : List V} {ds : List D} (S : Sim K G τ ow σ H1) (g : Grow K G H1 H) (hp : H p = none) (h : DPs K H (Fz G ow b) xs ds) :
    RV K G ow H1 (upd H p (.tup xs)) (.ref p) (.tuple ds) (.fz b) := by
  have S2 := S.grow g
  show DP K _ (Fz G ow b) _ _
  exact .tup upd_same (h.grow S2 (Grow.upd hp) S2.fzp)
end
end TL

set_option maxHeartbeats 4000000
namespace TL
open PySem PySem.Spec PyProof.Rows L2
section
variable {X : Cx} {G : Gh} {W : WX} {pos : Pos}
/-! ### + - * // % << >> & ** -/
def fAdd : D → Bool → D → Bool → QD → Prop
  | .int i, _, .int j, _, Q => Q (.int (i + j)) (.fz true)
  | .str a, _, .str b, _, Q => a.length + b.length ≤ sizeLine ∧ Q (.str (a ++ b)) (.fz true)
  | .list xs, b, .list ys, c, Q => xs.length + ys.length ≤ sizeLine ∧ Q (.list (xs ++ ys)) (.nw (b && c))
  | .tuple xs, b, .tuple ys, c, Q => xs.length + ys.length ≤ sizeLine ∧ Q (.tuple (xs ++ ys)) (.fz (b && c))
  | _, _, _, _, _ => False
def rAdd (K : PySem.W.Frag) : R2 := fun x y H Q => (rI0 (fun i j => .int (i + j)) x y H Q) ∨ (rCat x y H Q ∨ (rCatA K x y H Q ∨ ∃ i j, x = .str i ∧ y = .str j ∧ i.length + j.length ≤ sizeLine ∧ Q (.str (i ++ j)) H))
theorem op_addAny : OpR X (binaryOp .Add) (rAdd X.K) := op_add.or (op_cat.or (op_catA.or op_add_str))
theorem DPs.nilV {K : PySem.W.Frag} {H : Hp} {P : Addr → Prop} {xs : List V} {ds : List D} (h : DPs K H P xs ds) : xs = [] ↔ ds = [] := by
  cases h with
  | nil => simp
  | cons _ _ => simp
theorem og_add : OpG X G (rAdd X.K) fAdd := by
  intro σ H1 H τ ow x y dx dy kx ky Q Kt S gr rx ry hf k
  unfold fAdd at hf
  split at hf
  · exact .inl ⟨_, _, rx.int, ry.int, k _ _ _ _ Grow.refl (RV.sc fun _ => .int _) hf⟩
  · exact .inr (.inr (.inr ⟨_, _, rx.str, ry.str, hf.1, k _ _ _ _ Grow.refl (RV.sc fun _ => .str _) hf.2⟩))
  · obtain ⟨a, xs, rfl, e1, t1⟩ := rx.lst
    obtain ⟨b, ys, rfl, e2, t2⟩ := ry.lst
    refine .inr (.inl ⟨a, b, xs, ys, rfl, rfl, e1, e2, by rw [t1.length, t2.length]; exact hf.1, fun p hp => k _ _ _ _ (Grow.upd hp) (RV.new S gr hp ?_) hf.2⟩)
    exact (t1.mono fun c h => h.andL).append (t2.mono fun c h => h.andR)
  · obtain ⟨a, xs, rfl, e1, t1⟩ := rx.tup
    obtain ⟨b, ys, rfl, e2, t2⟩ := ry.tup
    have t1' := t1.mono fun c h => (Fz.andL (c := ky.b) h)
    have t2' := t2.mono fun c h => (Fz.andR (b := kx.b) h)
    refine .inr (.inr (.inl ⟨a, b, xs, ys, rfl, rfl, .of e1, .of e2, by rw [t1.length, t2.length]; exact hf.1, fun h0 => ?_, fun h1 h0 => ?_, fun h1 h2 p hp => ?_⟩))
    · have := t1.nilV.mp h0
      subst this
      exact k _ _ _ _ Grow.refl (RV.ofFz (.tup e2 t2')) (by simpa using hf.2)
    · have := t2.nilV.mp h0
      subst this
      exact k _ _ _ _ Grow.refl (RV.ofFz (.tup e1 t1')) (by simpa using hf.2)
    · exact k _ _ _ _ (Grow.upd hp) (RV.newT S gr hp (t1'.append t2')) hf.2
  · exact hf.elim
theorem ge_add {a b : Expr} {ta tb : TX} (ha : GE X G W a ta) (hb : GE X G W b tb) : GE X G W (.BinOp a .Add b pos) (gBin fAdd ta tb) := ge_bin op_addAny og_add ha hb
theorem dpI {f : Int → Int → Int} : ∀ K H P i j, DP K H P (V.int (f i j)) (PyData.int (f i j)) := fun _ _ _ _ _ => .int _
theorem dpB {f : Int → Int → Bool} : ∀ K H P i j, DP K H P (V.bl (f i j)) (PyData.bool (f i j)) := fun _ _ _ _ _ => .bl _
abbrev fSub := fI0 fun i j => .int (i - j)
abbrev fMod := fI2 (fun _ j => 0 < j) fun i j => .int (i % j)
abbrev fDiv := fI2 CDiv fun i j => .int (i / j)
abbrev fShl := fI2 CPow fun i j => .int (i * 2 ^ j.toNat)
abbrev fShr := fI2 (fun _ j => 0 ≤ j) fun i j => .int (i / 2 ^ j.toNat)
abbrev fAnd := fI0 fun i j => .int (Builtin.bitAnd i j)
abbrev fPow := fI2 CPow fun i j => .int (i ^ j.toNat)
theorem ge_sub {a b : Expr} {ta tb : TX} (ha : GE X G W a ta) (hb : GE X G W b tb) : GE X G W (.BinOp a .Sub b pos) (gBin fSub ta tb) := ge_bin op_sub (og_I0 dpI) ha hb
theorem ge_mod {a b : Expr} {ta tb : TX} (ha : GE X G W a ta) (hb : GE X G W b tb) : GE X G W (.BinOp a .Mod b pos) (gBin fMod ta tb) := ge_bin op_mod (og_I2 dpI) ha hb
theorem ge_div {a b : Expr} {ta tb : TX} (ha : GE X G W a ta) (hb : GE X G W b tb) : GE X G W (.BinOp a .FloorDiv b pos) (gBin fDiv ta tb) := ge_bin op_fdiv (og_I2 dpI) ha hb
theorem ge_shl {a b : Expr} {ta tb : TX} (ha : GE X G W a ta) (hb : GE X G W b tb) : GE X G W (.BinOp a .LShift b pos) (gBin fShl ta tb) := ge_bin op_shl (og_I2 dpI) ha hb
theorem ge_shr {a b : Expr} {ta tb : TX} (ha : GE X G W a ta) (hb : GE X G W b tb) : GE X G W (.BinOp a .RShift b pos) (gBin fShr ta tb) := ge_bin op_shr (og_I2 dpI) ha hb
theorem ge_and {a b : Expr} {ta tb : TX} (ha : GE X G W a ta) (hb : GE X G W b tb) : GE X G W (.BinOp a .BitAnd b pos) (gBin fAnd ta tb) := ge_bin op_and (og_I0 dpI) ha hb
theorem ge_pow {a b : Expr} {ta tb : TX} (ha : GE X G W a ta) (hb : GE X G W b tb) : GE X G W (.BinOp a .Pow b pos) (gBin fPow ta tb) := ge_bin op_pow (og_I2 dpI) ha hb
def fMul : D → Bool → D → Bool → QD → Prop
  | .int i, _, .int j, _, Q => CMul i j ∧ Q (.int (i * j)) (.fz true)
  | .list xs, b, .int k, _, Q => -(2 ^ 63) ≤ k ∧ k < 2 ^ 63 ∧ xs.length * k.toNat ≤ sizeLine ∧ im.imAll xs = true ∧ Q (.list (List.replicate k.toNat xs).flatten) (.nw true)
  | _, _, _, _, _ => False
theorem DPs.rep {K : PySem.W.Frag} {H : Hp} {P : Addr → Prop} {xs : List V} {ds : List D} (h : DPs K H P xs ds) : ∀ k : Nat, DPs K H P (List.replicate k xs).flatten (List.replicate k ds).flatten
  | 0 => .nil
  | k + 1 => by rw [List.replicate_succ, List.replicate_succ, List.flatten_cons, List.flatten_cons]; exact h.append (DPs.rep h k)
def rMul : R2 := fun x y H Q => rI CMul (fun i j => .int (i * j)) x y H Q ∨ rRep x y H Q
theorem og_mul : OpG X G rMul fMul := by
  intro σ H1 H τ ow x y dx dy kx ky Q Kt S gr rx ry hf k
  unfold fMul at hf
  split at hf
  · exact .inl ⟨_, _, rx.int, ry.int, hf.1, k _ _ _ _ Grow.refl (RV.sc fun _ => .int _) hf.2⟩
  · obtain ⟨a, xs, rfl, e1, t1⟩ := rx.lst
    obtain ⟨h1, h2, h3, h4, h5⟩ := hf
    refine .inr ⟨a, _, xs, rfl, ry.int, e1, h1, h2, by rw [t1.length]; exact h3, fun p hp => k _ _ _ _ (Grow.upd hp) (RV.new S gr hp ?_) h5⟩
    exact (t1.ofIm h4).rep _
  · exact hf.elim
theorem ge_mul {a b : Expr} {ta tb : TX} (ha : GE X G W a ta) (hb : GE X G W b tb) : GE X G W (.BinOp a .Mult b pos) (gBin fMul ta tb) := ge_bin (op_mul.or op_rep) og_mul ha hb
/-! ### unary -/
def fNeg : D → QD → Prop
  | .int i, Q => Q (.int (-i)) (.fz true)
  | _, _ => False
def gUn (f : D → QD → Prop) (ta : TX) : TX := fun τ Q wq => ta τ (fun d _ => f d Q) wq
theorem ge_neg {a : Expr} {ta : TX} (ha : GE X G W a ta) : GE X G W (.UnaryOp .USub a pos) (gUn fNeg ta) := by
  obtain ⟨te, p1, f1⟩ := ha.ex
  refine ⟨_, pe_un un_neg p1, fun σ H τ ow Q wq Kt S h k w => ?_⟩
  refine f1 σ H τ ow _ wq _ S h (fun x H1 dx kx g1 r1 q1 => ?_) w
  unfold fNeg at q1
  split at q1
  · exact ⟨_, r1.int, k _ _ _ _ g1 (RV.sc fun _ => .int _) q1⟩
  · exact q1.elim
/-! ### comparisons -/
/-- == of data -/
def fEq : D → Bool → D → Bool → QD → Prop
  | .int i, _, .int j, _, Q => Q (.bool (decide (i = j))) (.fz true)
  | .bool i, _, .bool j, _, Q => Q (.bool (decide (i = j))) (.fz true)
  | .str i, _, .str j, _, Q => Q (.bool (decide (i = j))) (.fz true)
  | d, _, e, _, Q => SeqAt.shaped d = true ∧ SeqAt.shaped e = true ∧ Q (.bool (PyData.eqv d e)) (.fz true)
def fNe : D → Bool → D → Bool → QD → Prop
  | .int i, _, .int j, _, Q => Q (.bool (!decide (i = j))) (.fz true)
  | .bool i, _, .bool j, _, Q => Q (.bool (!decide (i = j))) (.fz true)
  | .str i, _, .str j, _, Q => Q (.bool (!decide (i = j))) (.fz true)
  | d, _, e, _, Q => SeqAt.shaped d = true ∧ SeqAt.shaped e = true ∧ Q (.bool (!PyData.eqv d e)) (.fz true)
def rEqA (K : PySem.W.Frag) : R2 := fun x y H Q => rEq x y H Q ∨ rEqD K x y H Q
def rNeA (K : PySem.W.Frag) : R2 := fun x y H Q => rNe x y H Q ∨ rNeD K x y H Q
theorem og_eq : OpG X G (rEqA X.K) fEq := by
  intro σ H1 H τ ow x y dx dy kx ky Q Kt S gr rx ry hf k
  unfold fEq at hf
  split at hf
  · refine .inl ⟨by rw [rx.int, ry.int]; rfl, ?_⟩
    rw [rx.int, ry.int, show decide (V.int _ = V.int _) = decide (_ = _) from decide_eq_decide.mpr ⟨fun e => V.int.inj e, fun e => by rw [e]⟩]
    exact k _ _ _ _ Grow.refl (RV.sc fun _ => .bl _) hf
  · refine .inl ⟨by rw [rx.bool, ry.bool]; rfl, ?_⟩
    rw [rx.bool, ry.bool, show decide (V.bl _ = V.bl _) = decide (_ = _) from decide_eq_decide.mpr ⟨fun e => V.bl.inj e, fun e => by rw [e]⟩]
    exact k _ _ _ _ Grow.refl (RV.sc fun _ => .bl _) hf
  · refine .inl ⟨by rw [rx.str, ry.str]; rfl, ?_⟩
    rw [rx.str, ry.str, show decide (V.str _ = V.str _) = decide (_ = _) from decide_eq_decide.mpr ⟨fun e => V.str.inj e, fun e => by rw [e]⟩]
    exact k _ _ _ _ Grow.refl (RV.sc fun _ => .bl _) hf
  · exact .inr ⟨_, _, rx.dp (nd_shaped hf.1), ry.dp (nd_shaped hf.2.1), hf.1, hf.2.1, k _ _ _ _ Grow.refl (RV.sc fun _ => .bl _) hf.2.2⟩
theorem og_ne : OpG X G (rNeA X.K) fNe := by
  intro σ H1 H τ ow x y dx dy kx ky Q Kt S gr rx ry hf k
  unfold fNe at hf
  split at hf
  · refine .inl ⟨by rw [rx.int, ry.int]; rfl, ?_⟩
    rw [rx.int, ry.int, show decide (V.int _ = V.int _) = decide (_ = _) from decide_eq_decide.mpr ⟨fun e => V.int.inj e, fun e => by rw [e]⟩]
    exact k _ _ _ _ Grow.refl (RV.sc fun _ => .bl _) hf
  · refine .inl ⟨by rw [rx.bool, ry.bool]; rfl, ?_⟩
    rw [rx.bool, ry.bool, show decide (V.bl _ = V.bl _) = decide (_ = _) from decide_eq_decide.mpr ⟨fun e => V.bl.inj e, fun e => by rw [e]⟩]
    exact k _ _ _ _ Grow.refl (RV.sc fun _ => .bl _) hf
  · refine .inl ⟨by rw [rx.str, ry.str]; rfl, ?_⟩
    rw [rx.str, ry.str, show decide (V.str _ = V.str _) = decide (_ = _) from decide_eq_decide.mpr ⟨fun e => V.str.inj e, fun e => by rw [e]⟩]
    exact k _ _ _ _ Grow.refl (RV.sc fun _ => .bl _) hf
  · exact .inr ⟨_, _, rx.dp (nd_shaped hf.1), ry.dp (nd_shaped hf.2.1), hf.1, hf.2.1, k _ _ _ _ Grow.refl (RV.sc fun _ => .bl _) hf.2.2⟩
theorem op_eqA (hu : X.A.units + 64 < cLine) : OpR X (compareOp .Eq) (rEqA X.K) := op_eq.or (op_eqD hu)
theorem op_neA (hu : X.A.units + 64 < cLine) : OpR X (compareOp .NotEq) (rNeA X.K) := op_ne.or (op_neD hu)
/-- < of ints, of tuples of ints -/
def fLt : D → Bool → D → Bool → QD → Prop
  | .int i, _, .int j, _, Q => Q (.bool (decide (i < j))) (.fz true)
  | .tuple ds, _, .tuple es, _, Q => ∃ ns ms : List Int, ds = ns.map .int ∧ es = ms.map .int ∧ Q (.bool (HT.lexLt ns ms)) (.fz true)
  | _, _, _, _, _ => False
def rLtA (K : PySem.W.Frag) : R2 := fun x y H Q => rI0 (fun i j => .bl (decide (i < j))) x y H Q ∨ rLtT K x y H Q
theorem op_ltA (hu : X.A.units < cLine) : OpR X (compareOp .Lt) (rLtA X.K) := op_lt.or (op_ltT hu)
theorem og_lt : OpG X G (rLtA X.K) fLt := by
  intro σ H1 H τ ow x y dx dy kx ky Q Kt S gr rx ry hf k
  unfold fLt at hf
  split at hf
  · exact .inl ⟨_, _, rx.int, ry.int, k _ _ _ _ Grow.refl (RV.sc fun _ => .bl _) hf⟩
  · obtain ⟨ns, ms, rfl, rfl, q⟩ := hf
    obtain ⟨a, xs, rfl, e1, t1⟩ := rx.tup
    obtain ⟨b, ys, rfl, e2, t2⟩ := ry.tup
    have z1 := t1.ints
    have z2 := t2.ints
    subst z1 z2
    exact .inr ⟨a, b, ns, ms, rfl, rfl, .of e1, .of e2, k _ _ _ _ Grow.refl (RV.sc fun _ => .bl _) q⟩
  · exact hf.elim
abbrev fLe := fI0 fun i j => .bool (decide (i ≤ j))
abbrev fGt := fI0 fun i j => .bool (decide (j < i))
abbrev fGe := fI0 fun i j => .bool (decide (j ≤ i))
theorem og_le : OpG X G (rI0 fun i j => .bl (decide (i ≤ j))) fLe := og_I0 dpB
theorem og_gt : OpG X G (rI0 fun i j => .bl (decide (j < i))) fGt := og_I0 dpB
theorem og_ge : OpG X G (rI0 fun i j => .bl (decide (j ≤ i))) fGe := og_I0 dpB
/-- in, not in: a text in a text; data in a list, a tuple -/
def fIn (neg : Bool) : D → Bool → D → Bool → QD → Prop
  | .str i, _, .str j, _, Q => Q (.bool (neg ^^ !(Builtin.Str.occurrences j i 0 j.length 1).isEmpty)) (.fz true)
  | d, _, .list ds, _, Q => SeqAt.shaped d = true ∧ SeqAt.shaped (.list ds) = true ∧ Q (.bool (neg ^^ ds.any fun z => PyData.eqv z d)) (.fz true)
  | d, _, .tuple ds, _, Q => SeqAt.shaped d = true ∧ SeqAt.shaped (.tuple ds) = true ∧ Q (.bool (neg ^^ ds.any fun z => PyData.eqv z d)) (.fz true)
  | _, _, _, _, _ => False
def rInTD (K : PySem.W.Frag) (neg : Bool) : R2 := fun x y H Q => ∃ d ds, Dp K H x d ∧ Dp K H y (.tuple ds) ∧ SeqAt.shaped d = true ∧ SeqAt.shaped (.tuple ds) = true ∧ Q (.bl (neg ^^ ds.any fun z => PyData.eqv z d)) H
theorem room_in_t {A : Around} {d : PyData} {ds : List PyData} (sd : SeqAt.shaped d = true) (hu : A.units + 65 < cLine) : A.units + 1 + min (PyData.depthAll ds) d.depth < cLine := by
  have h : d.depth ≤ 64 := by
    have := (Bool.and_eq_true_iff.mp (show (d.canLay0 && decide (d.depth ≤ 64)) = true from sd)).2
    exact of_decide_eq_true this
  have := Nat.min_le_right (PyData.depthAll ds) d.depth
  omega
theorem canT {ds : List PyData} (se : SeqAt.shaped (.tuple ds) = true) : PyData.canLayAll0 ds = true := by
  have h := SeqAt.canLay_of_shaped se
  simpa [PyData.canLay0] using h
theorem op_inTD (hu : X.A.units + 65 < cLine) : OpR X (compareOp .In) (rInTD X.K false) := by
  intro pins s σ H x y v u Q I rx ry h
  obtain ⟨d, ds, hd, he, sd, se, q⟩ := h
  obtain ⟨as, r1⟩ := Dp.reads I d x v hd rx
  obtain ⟨bs, r2⟩ := Dp.reads I (.tuple ds) y u he ry
  exact SeqAt.in_tuple_reads r2 r1 (canT se) (SeqAt.canLay_of_shaped sd) (room_in_t sd hu) ⟨.bl _, H, I, rfl, by simpa using q⟩
theorem op_notInTD (hu : X.A.units + 65 < cLine) : OpR X (compareOp .NotIn) (rInTD X.K true) := by
  intro pins s σ H x y v u Q I rx ry h
  obtain ⟨d, ds, hd, he, sd, se, q⟩ := h
  obtain ⟨as, r1⟩ := Dp.reads I d x v hd rx
  obtain ⟨bs, r2⟩ := Dp.reads I (.tuple ds) y u he ry
  exact SeqAt.notIn_tuple_reads r2 r1 (canT se) (SeqAt.canLay_of_shaped sd) (room_in_t sd hu) ⟨.bl _, H, I, rfl, by simpa using q⟩
def rInA (K : PySem.W.Frag) (neg : Bool) : R2 := fun x y H Q => (∃ i j, x = .str i ∧ y = .str j ∧ Q (.bl (neg ^^ !(Builtin.Str.occurrences j i 0 j.length 1).isEmpty)) H) ∨
  ((∃ d ds, Dp K H x d ∧ Dp K H y (.list ds) ∧ SeqAt.shaped d = true ∧ SeqAt.shaped (.list ds) = true ∧ Q (.bl (neg ^^ ds.any fun z => PyData.eqv z d)) H) ∨ rInTD K neg x y H Q)
theorem OpR.imp {f : Value → Value → Sem Value} {r r' : R2} (h : OpR X f r) (hi : ∀ x y H Q, r' x y H Q → r x y H Q) : OpR X f r' := fun pins s σ H x y v u Q I rx ry q => h pins s σ H x y v u Q I rx ry (hi x y H Q q)
theorem op_inA (hu : X.A.units + 65 < cLine) : OpR X (compareOp .In) (rInA X.K false) := by
  refine OpR.imp (op_in_str.or ((op_inD hu).or (op_inTD hu))) fun x y H Q h => ?_
  rcases h with ⟨i, j, e1, e2, q⟩ | ⟨d, ds, h1, h2, h3, h4, q⟩ | h
  · exact .inl ⟨i, j, e1, e2, by simpa using q⟩
  · exact .inr (.inl ⟨d, ds, h1, h2, h3, h4, by simpa using q⟩)
  · exact .inr (.inr h)
theorem op_notInA (hu : X.A.units + 65 < cLine) : OpR X (compareOp .NotIn) (rInA X.K true) := by
  refine OpR.imp (op_notIn_str.or ((op_notInD hu).or (op_notInTD hu))) fun x y H Q h => ?_
  rcases h with ⟨i, j, e1, e2, q⟩ | ⟨d, ds, h1, h2, h3, h4, q⟩ | h
  · exact .inl ⟨i, j, e1, e2, by simpa using q⟩
  · exact .inr (.inl ⟨d, ds, h1, h2, h3, h4, by simpa using q⟩)
  · exact .inr (.inr h)
theorem og_in {neg : Bool} : OpG X G (rInA X.K neg) (fIn neg) := by
  intro σ H1 H τ ow x y dx dy kx ky Q Kt S gr rx ry hf k
  unfold fIn at hf
  split at hf
  · exact .inl ⟨_, _, rx.str, ry.str, k _ _ _ _ Grow.refl (RV.sc fun _ => .bl _) hf⟩
  · exact .inr (.inl ⟨_, _, rx.dp (nd_shaped hf.1), ry.dp (nd_shaped hf.2.1), hf.1, hf.2.1, k _ _ _ _ Grow.refl (RV.sc fun _ => .bl _) hf.2.2⟩)
  · exact .inr (.inr ⟨_, _, rx.dp (nd_shaped hf.1), ry.dp (nd_shaped hf.2.1), hf.1, hf.2.1, k _ _ _ _ Grow.refl (RV.sc fun _ => .bl _) hf.2.2⟩)
  · exact hf.elim
/-- is None, is not None -/
def fIsN (neg : Bool) : D → Bool → D → Bool → QD → Prop
  | .none, _, .none, _, Q => Q (.bool (!neg)) (.fz true)
  | .dict _, _, .none, _, _ => False
  | _, _, .none, _, Q => Q (.bool neg) (.fz true)
  | _, _, _, _, _ => False
theorem og_isN : OpG X G (fun x y H Q => y = .non ∧ Q (.bl (decide (x = .non))) H) (fIsN false) := by
  intro σ H1 H τ ow x y dx dy kx ky Q Kt S gr rx ry hf k
  unfold fIsN at hf
  split at hf
  · exact ⟨ry.non, by rw [rx.non, decide_eq_true rfl]; exact k _ _ _ _ Grow.refl (RV.sc fun _ => .bl _) hf⟩
  · exact hf.elim
  · rename_i h0 h1
    have : decide (x = .non) = false := decide_eq_false fun e => by
      subst e
      exact h0 rx.isNon
    exact ⟨ry.non, by rw [this]; exact k _ _ _ _ Grow.refl (RV.sc fun _ => .bl _) hf⟩
  · exact hf.elim
theorem og_notN : OpG X G (fun x y H Q => y = .non ∧ Q (.bl (!decide (x = .non))) H) (fIsN true) := by
  intro σ H1 H τ ow x y dx dy kx ky Q Kt S gr rx ry hf k
  unfold fIsN at hf
  split at hf
  · exact ⟨ry.non, by rw [rx.non, decide_eq_true rfl]; exact k _ _ _ _ Grow.refl (RV.sc fun _ => .bl _) hf⟩
  · exact hf.elim
  · rename_i h0 h1
    have : decide (x = .non) = false := decide_eq_false fun e => by
      subst e
      exact h0 rx.isNon
    exact ⟨ry.non, by rw [this]; exact k _ _ _ _ Grow.refl (RV.sc fun _ => .bl _) hf⟩
  · exact hf.elim
end
end TL

set_option maxHeartbeats 4000000
namespace TL
open PySem PySem.Spec PyProof.Rows L2
section
variable {X : Cx} {G : Gh} {W : WX} {pos : Pos}
/-! ### tests -/
def asB (Q : Bool → Prop) : QD := fun d _ => match d with
  | .bool b => Q b
  | _ => False
def gT (t : TX) : TXb := fun τ Q wq => t τ (asB Q) wq
theorem RV.asB {K : PySem.W.Frag} {ow : Ow} {H H' : Hp} {v : V} {d : D} {kd : Kd} {Q : Bool → Prop} (r : RV K G ow H H' v d kd) (h : asB Q d kd) : ∃ b, v = .bl b ∧ Q b := by
  cases d with
  | bool b => exact ⟨b, r.bool, h⟩
  | _ => exact h.elim
theorem gb_cmp {a b : Expr} {ta tb : TX} {op : CmpOp} {r : R2} {f : D → Bool → D → Bool → QD → Prop} (ho : OpR X (compareOp op) r) (hf : OpG X G r f) (ha : GE X G W a ta) (hb : GE X G W b tb)
    (hm : behindInMarks op b = false := by first | exact nomark _ (by decide) (by decide) | rfl) : GB X G W (.Compare a [op] [b] pos) (gT (gBin f ta tb)) := by
  obtain ⟨te, p1, f1⟩ := ha.ex
  obtain ⟨t2, p2, f2⟩ := hb.ex
  refine ⟨_, pt_cmpR ho p1 p2 hm, fun σ H τ ow Q wq Kt S h k w => ?_⟩
  refine f1 σ H τ ow _ wq _ S h (fun x H1 dx kx g1 r1 q1 => ?_) w
  refine f2 σ H1 τ ow _ wq _ (S.grow g1) q1 (fun y H2 dy ky g2 r2 q2 => ?_) (w.grow g1)
  refine hf S (g1.trans g2) (r1.grow S g1 g2) (r2.start S g1) q2 fun v H' d kd g r q => ?_
  obtain ⟨b, e, q'⟩ := r.asB q
  exact ⟨b, e, k b H' ((g1.trans g2).trans g) q'⟩
def fTru : D → (Bool → Prop) → Prop
  | .none, Q => Q false
  | .bool b, Q => Q b
  | .int i, Q => Q (i != 0)
  | .str y, Q => y.length ≤ sizeLine ∧ Q ((y.length : Int) != 0)
  | .list ds, Q => Q (!ds.isEmpty)
  | .tuple ds, Q => Q (!ds.isEmpty)
  | .dict _, _ => False
def gTru (t : TX) : TXb := fun τ Q wq => t τ (fun d _ => fTru d Q) wq
theorem DPs.isE {K : PySem.W.Frag} {H : Hp} {P : Addr → Prop} {xs : List V} {ds : List D} (h : DPs K H P xs ds) : xs.isEmpty = ds.isEmpty := by cases h <;> rfl
theorem gb_truth {a : Expr} {ta : TX} (ha : GE X G W a ta) (he : ∀ whole, isTrue a X.env whole = (do let v ← whole; standAt a.pos; holding [v] (truthy v)) := by intro _; rfl) : GB X G W a (gTru ta) := by
  obtain ⟨te, p1, f1⟩ := ha.ex
  refine ⟨_, pt_truth p1 he, fun σ H τ ow Q wq Kt S h k w => ?_⟩
  refine f1 σ H τ ow _ wq _ S h (fun x H1 dx kx g1 r1 q1 => ?_) w
  cases dx with
  | none => exact ⟨false, by rw [r1.non]; rfl, k _ _ g1 q1⟩
  | bool b => exact ⟨b, by rw [r1.bool]; rfl, k _ _ g1 q1⟩
  | int i => exact ⟨_, by rw [r1.int]; rfl, k _ _ g1 q1⟩
  | str y => exact ⟨_, by rw [r1.str]; exact ⟨q1.1, rfl⟩, k _ _ g1 q1.2⟩
  | list ds =>
    obtain ⟨a, xs, rfl, e1, t1⟩ := r1.lst
    exact ⟨!ds.isEmpty, .inl ⟨xs, .of e1, by rw [t1.isE]⟩, k _ _ g1 q1⟩
  | tuple ds =>
    obtain ⟨a, xs, rfl, e1, t1⟩ := r1.tup
    exact ⟨!ds.isEmpty, .inr (.inl ⟨xs, .of e1, by rw [t1.isE]⟩), k _ _ g1 q1⟩
  | dict _ => exact q1.elim
def gNot (t : TXb) : TXb := fun τ Q wq => t τ (fun b => Q (!b)) wq
theorem gb_not {a : Expr} {ta : TXb} (ha : GB X G W a ta) : GB X G W (.UnaryOp .Not a pos) (gNot ta) := by
  obtain ⟨te, p1, f1⟩ := ha.ex
  exact ⟨_, pt_not p1, fun σ H τ ow Q wq Kt S h k w => f1 σ H τ ow _ wq _ S h (fun b H1 g1 q1 => k _ _ g1 q1) w⟩
theorem GW.gb {a : Expr} {ta : TXb} (ha : GW X G W a ta) : GB X G W a ta := by
  obtain ⟨te, p1, f1⟩ := ha.ex
  exact ⟨te, p1.pt, f1⟩
def gAndB (t u : TXb) : TXb := fun τ Q wq => t τ (fun b => if b = true then u τ Q wq else Q false) wq
def gOrB (t u : TXb) : TXb := fun τ Q wq => t τ (fun b => if b = true then Q true else u τ Q wq) wq
theorem gw_and1 {a : Expr} {ta : TXb} (ha : GB X G W a ta) : GW X G W (.BoolOp .And [a] pos) ta := by
  obtain ⟨te, p1, f1⟩ := ha.ex
  exact ⟨te, pw_and1 p1, f1⟩
theorem gw_or1 {a : Expr} {ta : TXb} (ha : GB X G W a ta) : GW X G W (.BoolOp .Or [a] pos) ta := by
  obtain ⟨te, p1, f1⟩ := ha.ex
  exact ⟨te, pw_or1 p1, f1⟩
theorem gw_and {a b : Expr} {rest : List Expr} {ta tb : TXb} (ha : GB X G W a ta) (hb : GW X G W (.BoolOp .And (b :: rest) pos) tb) : GW X G W (.BoolOp .And (a :: b :: rest) pos) (gAndB ta tb) := by
  obtain ⟨te, p1, f1⟩ := ha.ex
  obtain ⟨t2, p2, f2⟩ := hb.ex
  refine ⟨_, pw_and p1 p2, fun σ H τ ow Q wq Kt S h k w => f1 σ H τ ow _ wq _ S h (fun b H1 g1 q1 => ?_) w⟩
  cases b with
  | true => exact f2 σ H1 τ ow Q wq _ (S.grow g1) q1 (fun b H2 g2 q2 => k b H2 (g1.trans g2) q2) (w.grow g1)
  | false => exact k _ _ g1 q1
theorem gw_or {a b : Expr} {rest : List Expr} {ta tb : TXb} (ha : GB X G W a ta) (hb : GW X G W (.BoolOp .Or (b :: rest) pos) tb) : GW X G W (.BoolOp .Or (a :: b :: rest) pos) (gOrB ta tb) := by
  obtain ⟨te, p1, f1⟩ := ha.ex
  obtain ⟨t2, p2, f2⟩ := hb.ex
  refine ⟨_, pw_or p1 p2, fun σ H τ ow Q wq Kt S h k w => f1 σ H τ ow _ wq _ S h (fun b H1 g1 q1 => ?_) w⟩
  cases b with
  | false => exact f2 σ H1 τ ow Q wq _ (S.grow g1) q1 (fun b H2 g2 q2 => k b H2 (g1.trans g2) q2) (w.grow g1)
  | true => exact k _ _ g1 q1
/-! ### and, or, not as values; a if t else b -/
def gAndV (t u : TX) : TX := fun τ Q wq => t τ (asB fun b => if b = true then u τ Q wq else Q (.bool false) (.fz true)) wq
def gOrV (t u : TX) : TX := fun τ Q wq => t τ (asB fun b => if b = true then Q (.bool true) (.fz true) else u τ Q wq) wq
def gNotV (t : TX) : TX := fun τ Q wq => t τ (asB fun b => Q (.bool (!b)) (.fz true)) wq
theorem ge_one {op} {a : Expr} {ta : TX} (ha : GE X G W a ta) : GE X G W (.BoolOp op [a] pos) ta := by
  obtain ⟨te, p1, f1⟩ := ha.ex
  exact ⟨te, pe_one p1, f1⟩
theorem ge_and' {a b : Expr} {rest : List Expr} {ta tb : TX} (ha : GE X G W a ta) (hb : GE X G W (.BoolOp .And (b :: rest) pos) tb) : GE X G W (.BoolOp .And (a :: b :: rest) pos) (gAndV ta tb) := by
  obtain ⟨te, p1, f1⟩ := ha.ex
  obtain ⟨t2, p2, f2⟩ := hb.ex
  refine ⟨_, pe_and p1 p2, fun σ H τ ow Q wq Kt S h k w => f1 σ H τ ow _ wq _ S h (fun v H1 d kd g1 r1 q1 => ?_) w⟩
  obtain ⟨b, e, q'⟩ := r1.asB q1
  refine ⟨b, e, ?_⟩
  cases b with
  | true => exact f2 σ H1 τ ow Q wq _ (S.grow g1) q' (fun v H2 d kd g2 r2 q2 => k v H2 d kd (g1.trans g2) (r2.start S g1) q2) (w.grow g1)
  | false => exact k _ _ _ _ g1 (RV.sc fun _ => .bl _) q'
theorem ge_or' {a b : Expr} {rest : List Expr} {ta tb : TX} (ha : GE X G W a ta) (hb : GE X G W (.BoolOp .Or (b :: rest) pos) tb) : GE X G W (.BoolOp .Or (a :: b :: rest) pos) (gOrV ta tb) := by
  obtain ⟨te, p1, f1⟩ := ha.ex
  obtain ⟨t2, p2, f2⟩ := hb.ex
  refine ⟨_, pe_or p1 p2, fun σ H τ ow Q wq Kt S h k w => f1 σ H τ ow _ wq _ S h (fun v H1 d kd g1 r1 q1 => ?_) w⟩
  obtain ⟨b, e, q'⟩ := r1.asB q1
  refine ⟨b, e, ?_⟩
  cases b with
  | false => exact f2 σ H1 τ ow Q wq _ (S.grow g1) q' (fun v H2 d kd g2 r2 q2 => k v H2 d kd (g1.trans g2) (r2.start S g1) q2) (w.grow g1)
  | true => exact k _ _ _ _ g1 (RV.sc fun _ => .bl _) q'
/-- not of a bool, as a value -/
theorem ge_not {a : Expr} {ta : TX} (ha : GE X G W a ta) : GE X G W (.UnaryOp .Not a pos) (gNotV ta) := by
  obtain ⟨te, p1, f1⟩ := ha.ex
  refine ⟨_, pe_not p1, fun σ H τ ow Q wq Kt S h k w => f1 σ H τ ow _ wq _ S h (fun v H1 d kd g1 r1 q1 => ?_) w⟩
  obtain ⟨b, e, q'⟩ := r1.asB q1
  exact ⟨b, e, k _ _ _ _ g1 (RV.sc fun _ => .bl _) q'⟩
def gIf (c : TXb) (t u : TX) : TX := fun τ Q wq => c τ (fun b => if b = true then t τ Q wq else u τ Q wq) wq
theorem ge_if {c a b : Expr} {tc : TXb} {ta tb : TX} (hc : GB X G W c tc) (ha : GE X G W a ta) (hb : GE X G W b tb) : GE X G W (.IfExp c a b pos) (gIf tc ta tb) := by
  obtain ⟨t0, p0, f0⟩ := hc.ex
  obtain ⟨te, p1, f1⟩ := ha.ex
  obtain ⟨t2, p2, f2⟩ := hb.ex
  refine ⟨_, pe_ifExp p0 p1 p2, fun σ H τ ow Q wq Kt S h k w => f0 σ H τ ow _ wq _ S h (fun b H1 g1 q1 => ?_) w⟩
  cases b with
  | true => exact f1 σ H1 τ ow Q wq _ (S.grow g1) q1 (fun v H2 d kd g2 r2 q2 => k v H2 d kd (g1.trans g2) (r2.start S g1) q2) (w.grow g1)
  | false => exact f2 σ H1 τ ow Q wq _ (S.grow g1) q1 (fun v H2 d kd g2 r2 q2 => k v H2 d kd (g1.trans g2) (r2.start S g1) q2) (w.grow g1)
/-! ### a op b op' c -/
def gCh (f f' : D → Bool → D → Bool → QD → Prop) (ta tb tc : TX) : TX := fun τ Q wq => ta τ (fun dx kx => tb τ (fun dy ky => f dx kx.b dy ky.b (asB fun b => if b = true then tc τ (fun dz kz => f' dy ky.b dz kz.b Q) wq else Q (.bool false) (.fz true))) wq) wq
theorem ge_ch {a b c : Expr} {ta tb tc : TX} {op op' : CmpOp} {r r' : R2} {f f' : D → Bool → D → Bool → QD → Prop} (ho : OpR X (compareOp op) r) (hf : OpG X G r f) (ho' : OpR X (compareOp op') r') (hf' : OpG X G r' f') (ha : GE X G W a ta) (hb : GE X G W b tb) (hc : GE X G W c tc)
    (hm : lastMarks [op, op'] [b, c] = false := by with_unfolding_all rfl) : GE X G W (.Compare a [op, op'] [b, c] pos) (gCh f f' ta tb tc) := by
  obtain ⟨te, p1, f1⟩ := ha.ex
  obtain ⟨t2, p2, f2⟩ := hb.ex
  obtain ⟨t3, p3, f3⟩ := hc.ex
  refine ⟨_, pe_chain ho ho' p1 p2 p3 hm, fun σ H τ ow Q wq Kt S h k w => ?_⟩
  refine f1 σ H τ ow _ wq _ S h (fun x H1 dx kx g1 r1 q1 => ?_) w
  refine f2 σ H1 τ ow _ wq _ (S.grow g1) q1 (fun y H2 dy ky g2 r2 q2 => ?_) (w.grow g1)
  refine hf S (g1.trans g2) (r1.grow S g1 g2) (r2.start S g1) q2 fun v H3 d kd g3 r3 q3 => ?_
  obtain ⟨b, e, q'⟩ := r3.asB q3
  refine ⟨b, e, ?_⟩
  have g13 := (g1.trans g2).trans g3
  cases b with
  | true =>
    refine f3 σ H3 τ ow _ wq _ (S.grow g13) q' (fun z H4 dz kz g4 r4 q4 => ?_) (w.grow g13)
    exact hf' S (g13.trans g4) ((r2.start S g1).grow S (g1.trans g2) (g3.trans g4)) (r4.start S g13) q4 fun v H5 d kd g5 r5 q5 => k v H5 d kd ((g13.trans g4).trans g5) r5 q5
  | false => exact k _ _ _ _ g13 (RV.sc fun _ => .bl _) q'
theorem gb_ch {a b c : Expr} {ta tb tc : TX} {op op' : CmpOp} {r r' : R2} {f f' : D → Bool → D → Bool → QD → Prop} (ho : OpR X (compareOp op) r) (hf : OpG X G r f) (ho' : OpR X (compareOp op') r') (hf' : OpG X G r' f') (ha : GE X G W a ta) (hb : GE X G W b tb) (hc : GE X G W c tc)
    (hm : lastMarks [op, op'] [b, c] = false := by with_unfolding_all rfl) : GB X G W (.Compare a [op, op'] [b, c] pos) (gT (gCh f f' ta tb tc)) := by
  obtain ⟨te, p1, f1⟩ := ha.ex
  obtain ⟨t2, p2, f2⟩ := hb.ex
  obtain ⟨t3, p3, f3⟩ := hc.ex
  refine ⟨_, pt_chain ho ho' p1 p2 p3 hm, fun σ H τ ow Q wq Kt S h k w => ?_⟩
  refine f1 σ H τ ow _ wq _ S h (fun x H1 dx kx g1 r1 q1 => ?_) w
  refine f2 σ H1 τ ow _ wq _ (S.grow g1) q1 (fun y H2 dy ky g2 r2 q2 => ?_) (w.grow g1)
  refine hf S (g1.trans g2) (r1.grow S g1 g2) (r2.start S g1) q2 fun v H3 d kd g3 r3 q3 => ?_
  obtain ⟨b, e, q'⟩ := r3.asB q3
  refine ⟨b, e, ?_⟩
  have g13 := (g1.trans g2).trans g3
  cases b with
  | true =>
    refine f3 σ H3 τ ow _ wq _ (S.grow g13) q' (fun z H4 dz kz g4 r4 q4 => ?_) (w.grow g13)
    refine hf' S (g13.trans g4) ((r2.start S g1).grow S (g1.trans g2) (g3.trans g4)) (r4.start S g13) q4 fun v H5 d kd g5 r5 q5 => ?_
    obtain ⟨b, e, q'⟩ := r5.asB q5
    exact ⟨b, e, k b H5 ((g13.trans g4).trans g5) q'⟩
  | false => exact ⟨false, rfl, k _ _ g13 q'⟩
end
end TL

set_option maxHeartbeats 4000000
namespace TL
open PySem PySem.Spec PyProof.Rows L2
section
variable {X : Cx} {G : Gh} {W : WX} {pos : Pos}
/-! ### displays -/
/-- what may be put into a new object: not a list that a slot owns -/
def frOk : List (D × Kd) → Prop
  | [] => True
  | (_, .ow _) :: _ => False
  | _ :: r => frOk r
def allB : List (D × Kd) → Bool
  | [] => true
  | (_, kd) :: r => kd.b && allB r
theorem RVs.dps {K : PySem.W.Frag} {ow : Ow} {τ : Slots} {σ : L2.St} {H H' : Hp} (S : Sim K G τ ow σ H) : ∀ {vs : List V} {ds : List (D × Kd)}, RVs K G ow H H' vs ds → frOk ds → DPs K H' (Fz G ow (allB ds)) vs (ds.map (·.1))
  | _, _, .nil, _ => .nil
  | _, _, .cons (kd := kd) r t, h => by
    cases kd with
    | ow b => exact h.elim
    | fz b => exact .cons ((show DP K H' (Fz G ow b) _ _ from r).mono fun c q => q.andL) ((RVs.dps S t h).mono fun c q => q.andR)
    | nw b => exact .cons ((show DP K H' (Fz G ow b) _ _ from r.frz S).mono fun c q => q.andL) ((RVs.dps S t h).mono fun c q => q.andR)
def gTup (t : TXs) : TX := fun τ Q wq => t τ (fun ds => frOk ds ∧ Q (.tuple (ds.map (·.1))) (.fz (allB ds))) wq
def gLst (t : TXs) : TX := fun τ Q wq => t τ (fun ds => frOk ds ∧ Q (.list (ds.map (·.1))) (.nw (allB ds))) wq
theorem small4 {n : Nat} (h : n ≤ 1000) : n ≤ sizeLine := Nat.le_trans h (by rw [sizeLine_eq]; decide)
theorem ge_tup {es : List Expr} {x1} {t : TXs} (ha : GA X G W es t) (hl : es.length ≤ 1000 := by decide) : GE X G W (.Tuple es x1 pos) (gTup t) := by
  obtain ⟨te, p1, f1⟩ := ha.ex
  refine ⟨_, pe_tup p1, fun σ H τ ow Q wq Kt S h k w => f1 σ H τ ow _ wq _ S h (fun vs H1 ds g1 r1 l1 q1 => ?_) w⟩
  have dd := r1.dps S q1.1
  exact ⟨by rw [dd.length, List.length_map, l1]; exact small4 hl, fun p hp => k _ _ _ _ (g1.trans (Grow.upd hp)) (RV.newT S g1 hp dd) q1.2⟩
theorem ge_lst {es : List Expr} {t : TXs} (ha : GA X G W es t) (hl : es.length ≤ 1000 := by decide) : GE X G W (.List es pos) (gLst t) := by
  obtain ⟨te, p1, f1⟩ := ha.ex
  refine ⟨_, pe_lst p1, fun σ H τ ow Q wq Kt S h k w => f1 σ H τ ow _ wq _ S h (fun vs H1 ds g1 r1 l1 q1 => ?_) w⟩
  have dd := r1.dps S q1.1
  exact ⟨by rw [dd.length, List.length_map, l1]; exact small4 hl, fun p hp => k _ _ _ _ (g1.trans (Grow.upd hp)) (RV.new S g1 hp dd) q1.2⟩
/-! ### subscripts -/
def fIx : D → Bool → D → Bool → QD → Prop
  | .list ds, b, .int i, _, Q => (match atI ds i with
    | some d => Q d (.fz (b || im d))
    | none => False)
  | .tuple ds, b, .int i, _, Q => (match atI ds i with
    | some d => Q d (.fz (b || im d))
    | none => False)
  | .str z, _, .int i, _, Q => z.length ≤ sizeLine ∧ (match atI z.cps.toList i with
    | some c => Q (.str ⟨#[c]⟩) (.fz true)
    | none => False)
  | _, _, _, _, _ => False
theorem DPs.atI {K : PySem.W.Frag} {H : Hp} {P : Addr → Prop} {xs : List V} {ds : List D} {i : Int} {d : D} (h : DPs K H P xs ds) (e : L2.atI ds i = some d) : ∃ v, L2.atI xs i = some v ∧ DP K H P v d := by
  unfold L2.atI at e ⊢
  rw [h.length]
  cases q : ixN ds.length i with
  | none => rw [q] at e; cases e
  | some j =>
    rw [q] at e
    obtain ⟨v, e1, r⟩ := h.get (show ds[j]? = some d from e)
    exact ⟨v, e1, r⟩
theorem og_ix : OpG X G (rIx X.K) fIx := by
  intro σ H1 H τ ow x y dx dy kx ky Q Kt S gr rx ry hf k
  unfold fIx at hf
  split at hf
  · obtain ⟨a, xs, rfl, e1, t1⟩ := rx.lst
    split at hf
    · rename_i d e
      obtain ⟨v, e2, r⟩ := t1.atI e
      exact .inl ⟨a, xs, _, v, rfl, ry.int, .of e1, e2, k _ _ _ _ Grow.refl (RV.ofFz r.up) hf⟩
    · exact hf.elim
  · obtain ⟨a, xs, rfl, e1, t1⟩ := rx.tup
    split at hf
    · rename_i d e
      obtain ⟨v, e2, r⟩ := t1.atI e
      exact .inr (.inl ⟨a, xs, _, v, rfl, ry.int, .of e1, e2, k _ _ _ _ Grow.refl (RV.ofFz r.up) hf⟩)
    · exact hf.elim
  · obtain ⟨hz, hf⟩ := hf
    split at hf
    · rename_i c e
      exact .inr (.inr ⟨_, _, c, rx.str, ry.int, hz, e, k _ _ _ _ Grow.refl (RV.sc fun _ => .str _) hf⟩)
    · exact hf.elim
  · exact hf.elim
theorem ge_ix {a b : Expr} {ta tb : TX} (ha : GE X G W a ta) (hb : GE X G W b tb) (hs : PlainIx b := by exact fun _ _ => rfl) : GE X G W (.Subscript a b pos) (gBin fIx ta tb) :=
  ge_op2 og_ix ha hb fun p q => pe_ix ix_seq p q hs
/-! ### slices -/
abbrev TXo := Slots → (Option Int → Prop) → WQ → Prop
structure GO (X : Cx) (G : Gh) (W : WX) (e : Option Expr) (t : TXo) : Prop where
  ex : ∃ te, PO X e te ∧ ∀ (σ : L2.St) (H : Hp) (τ : Slots) (ow : Ow) (Q : Option Int → Prop) (wq : WQ) (Kt : Option Int → Hp → Prop), Sim X.K G τ ow σ H → t τ Q wq →
    (∀ o H', Grow X.K G H H' → Q o → Kt o H') → Wk X.K G W σ H wq → te σ H Kt
def gNoP : TXo := fun _ Q _ => Q none
def asI (Q : Int → Prop) : QD := fun d _ => match d with
  | .int i => Q i
  | _ => False
def gP (t : TX) : TXo := fun τ Q wq => t τ (asI fun i => Q (some i)) wq
theorem RV.asI {K : PySem.W.Frag} {ow : Ow} {H H' : Hp} {v : V} {d : D} {kd : Kd} {Q : Int → Prop} (r : RV K G ow H H' v d kd) (h : asI Q d kd) : ∃ i, v = .int i ∧ Q i := by
  cases d with
  | int b => exact ⟨b, r.int, h⟩
  | _ => exact h.elim
theorem go_none : GO X G W none gNoP := ⟨_, po_none, fun σ H τ ow Q wq Kt S h k _ => k _ _ Grow.refl h⟩
theorem go_some {e : Expr} {t : TX} (h : GE X G W e t) : GO X G W (some e) (gP t) := by
  obtain ⟨te, p1, f1⟩ := h.ex
  refine ⟨_, po_some p1, fun σ H τ ow Q wq Kt S h k w => f1 σ H τ ow _ wq _ S h (fun v H1 d kd g1 r1 q1 => ?_) w⟩
  obtain ⟨i, e, q⟩ := r1.asI q1
  exact ⟨i, e, k _ _ g1 q⟩
def cutD (xs : List D) (lo hi : Option Int) : List D := (xs.drop (HT.sIx xs.length 0 lo)).take (HT.sIx xs.length xs.length hi - HT.sIx xs.length 0 lo)
def fSl : D → Bool → Option Int → Option Int → QD → Prop
  | .list ds, b, lo, hi, Q => Q (.list (cutD ds lo hi)) (.nw b)
  | .tuple ds, b, lo, hi, Q => Q (.tuple (cutD ds lo hi)) (.fz b)
  | .str z, _, lo, hi, Q => z.length ≤ sizeLine ∧ Q (.str (cutS z lo hi)) (.fz true)
  | _, _, _, _, _ => False
def gSl (t : TX) (tl th : TXo) : TX := fun τ Q wq => t τ (fun d kd => tl τ (fun lo => th τ (fun hi => fSl d kd.b lo hi Q) wq) wq) wq
theorem DPs.cut {K : PySem.W.Frag} {H : Hp} {P : Addr → Prop} {xs : List V} {ds : List D} (h : DPs K H P xs ds) (lo hi : Option Int) : DPs K H P (cutV xs lo hi) (cutD ds lo hi) := by
  unfold cutV cutD
  rw [h.length]
  exact (h.drop _).take _
theorem cut_whole {ds : List D} {lo hi : Option Int} (h : HT.sIx ds.length 0 lo = 0 ∧ HT.sIx ds.length ds.length hi = ds.length) : cutD ds lo hi = ds := by
  unfold cutD
  rw [h.1, h.2]
  simp
theorem ge_sl {a : Expr} {lo hi : Option Expr} {ta : TX} {tl th : TXo} {p2 : Pos} (ha : GE X G W a ta) (hl : GO X G W lo tl) (hh : GO X G W hi th) : GE X G W (.Subscript a (.Slice lo hi none p2) pos) (gSl ta tl th) := by
  obtain ⟨te, p1, f1⟩ := ha.ex
  obtain ⟨t2, p2', f2⟩ := hl.ex
  obtain ⟨t3, p3, f3⟩ := hh.ex
  refine ⟨_, pe_slice (sl_list.or (sl_tupA.or sl_str)) p1 p2' p3, fun σ H τ ow Q wq Kt S h k w => ?_⟩
  refine f1 σ H τ ow _ wq _ S h (fun x H1 d kd g1 r1 q1 => ?_) w
  refine f2 σ H1 τ ow _ wq _ (S.grow g1) q1 (fun l H2 g2 q2 => ?_) (w.grow g1)
  refine f3 σ H2 τ ow _ wq _ (S.grow (g1.trans g2)) q2 (fun u H3 g3 q3 => ?_) (w.grow (g1.trans g2))
  have g13 := (g1.trans g2).trans g3
  have r3 := r1.grow S g1 (g2.trans g3)
  unfold fSl at q3
  split at q3
  · obtain ⟨a, xs, rfl, e1, t1⟩ := r3.lst
    exact .inl ⟨a, xs, rfl, .of e1, fun p hp => k _ _ _ _ (g13.trans (Grow.upd hp)) (RV.new S g13 hp (t1.cut _ _)) q3⟩
  · obtain ⟨a, xs, rfl, e1, t1⟩ := r3.tup
    refine .inr (.inl ⟨a, xs, rfl, .of e1, fun hw => ?_, fun _ p hp => k _ _ _ _ (g13.trans (Grow.upd hp)) (RV.newT S g13 hp (t1.cut _ _)) q3⟩)
    rw [t1.length] at hw
    rw [cut_whole hw] at q3
    exact k _ _ _ _ g13 (RV.ofFz (.tup e1 t1)) q3
  · exact .inr (.inr ⟨_, r3.str, q3.1, k _ _ _ _ g13 (RV.sc fun _ => .str _) q3.2⟩)
  · exact q3.elim
/-! ### built-in functions and types -/
def CalG (X : Cx) (G : Gh) (r : List V → Hp → VK → Prop) (f : List (D × Kd) → QD → Prop) : Prop :=
  ∀ {σ : L2.St} {H1 H : Hp} {τ : Slots} {ow : Ow} {vs : List V} {ds : List (D × Kd)} {Q : QD} {Kt : VK}, Sim X.K G τ ow σ H1 → Grow X.K G H1 H → RVs X.K G ow H1 H vs ds → f ds Q →
    (∀ v H' d kd, Grow X.K G H H' → RV X.K G ow H1 H' v d kd → Q d kd → Kt v H') → r vs H Kt
def gCall (f : List (D × Kd) → QD → Prop) (t : TXs) : TX := fun τ Q wq => t τ (fun ds => f ds Q) wq
theorem ge_callB {e : Expr} {es : List Expr} {x : Str} {p : Pos} {id : String} {r : List V → Hp → VK → Prop} {f : List (D × Kd) → QD → Prop} {t : TXs} (hc : CallR X (.builtin id) r) (hf : CalG X G r f) (ha : GA X G W (e :: es) t) (hm : X.mg x = none)
    (hv : bootBuiltins x = some (.builtin id)) (hg : Gl X x := by rfl) (hn : x ≠ "__name__" := by decide) (hdb : (x == ("__debug__" : Str)) = false := by decide)
    (he : starEach (e :: es) X.env = (false, eval e X.env) :: starEach es X.env := by rfl) (hpl : (backTo pos (starEach es X.env)).any (·.1) = false := by rfl) : GE X G W (.Call (.Name x p) (e :: es) [] pos) (gCall f t) := by
  obtain ⟨te, p1, f1⟩ := ha.ex
  refine ⟨_, pe_callB hc hg hm hv p1 hn hdb he hpl, fun σ H τ ow Q wq Kt S h k w => f1 σ H τ ow _ wq _ S h (fun vs H1 ds g1 r1 l1 q1 => ?_) w⟩
  exact hf S g1 r1 q1 fun v H' d kd g r q => k v H' d kd (g1.trans g) r q
theorem ge_callTy {e : Expr} {es : List Expr} {x : Str} {p : Pos} {T : String} {r : List V → Hp → VK → Prop} {f : List (D × Kd) → QD → Prop} {t : TXs} (hc : CallR X (.type T) r) (hf : CalG X G r f) (ha : GA X G W (e :: es) t) (hm : X.mg x = none)
    (hv : bootBuiltins x = some (.type T)) (hg : Gl X x := by rfl) (hn : x ≠ "__name__" := by decide) (hdb : (x == ("__debug__" : Str)) = false := by decide)
    (he : starEach (e :: es) X.env = (false, eval e X.env) :: starEach es X.env := by rfl) (hpl : (backTo pos (starEach es X.env)).any (·.1) = false := by rfl) : GE X G W (.Call (.Name x p) (e :: es) [] pos) (gCall f t) := by
  obtain ⟨te, p1, f1⟩ := ha.ex
  refine ⟨_, pe_callTy hc hg hm hv p1 hn hdb he hpl, fun σ H τ ow Q wq Kt S h k w => f1 σ H τ ow _ wq _ S h (fun vs H1 ds g1 r1 l1 q1 => ?_) w⟩
  exact hf S g1 r1 q1 fun v H' d kd g r q => k v H' d kd (g1.trans g) r q
def fLen : List (D × Kd) → QD → Prop
  | [(.list ds, _)], Q => Q (.int ds.length) (.fz true)
  | [(.tuple ds, _)], Q => Q (.int ds.length) (.fz true)
  | [(.str z, _)], Q => z.length ≤ sizeLine ∧ Q (.int z.length) (.fz true)
  | _, _ => False
def rLenA (K : PySem.W.Frag) : List V → Hp → VK → Prop := fun xs H Q => (∃ p ys, xs = [.ref p] ∧ (SqL K H p ys ∨ SqT K H p ys) ∧ Q (.int ys.length) H) ∨ ∃ z, xs = [.str z] ∧ z.length ≤ sizeLine ∧ Q (.int z.length) H
theorem call_lenA : CallR X (.builtin "len") (rLenA X.K) := call_len_seq.or call_len_str
theorem cg_len : CalG X G (rLenA X.K) fLen := by
  intro σ H1 H τ ow vs ds Q Kt S gr r hf k
  unfold fLen at hf
  split at hf
  · cases r with
    | cons r1 t =>
      cases t
      obtain ⟨a, xs, rfl, e1, t1⟩ := r1.lst
      exact .inl ⟨a, xs, rfl, .inl (.of e1), by rw [t1.length]; exact k _ _ _ _ Grow.refl (RV.sc fun _ => .int _) hf⟩
  · cases r with
    | cons r1 t =>
      cases t
      obtain ⟨a, xs, rfl, e1, t1⟩ := r1.tup
      exact .inl ⟨a, xs, rfl, .inr (.of e1), by rw [t1.length]; exact k _ _ _ _ Grow.refl (RV.sc fun _ => .int _) hf⟩
  · cases r with
    | cons r1 t =>
      cases t
      exact .inr ⟨_, by rw [r1.str], hf.1, k _ _ _ _ Grow.refl (RV.sc fun _ => .int _) hf.2⟩
  · exact hf.elim
theorem ge_len {e : Expr} {p : Pos} {t : TXs} (hm : X.mg "len" = none) (ha : GA X G W [e] t) (hg : Gl X "len" := by rfl) (he : starEach [e] X.env = (false, eval e X.env) :: starEach [] X.env := by rfl) : GE X G W (.Call (.Name "len" p) [e] [] pos) (gCall fLen t) :=
  ge_callB call_lenA cg_len ha hm PySem.boot_len hg (by decide) (by decide) he
/-- tuple(x), list(x) of a list, a tuple -/
def fTuple : List (D × Kd) → QD → Prop
  | [(.list ds, kd)], Q => Q (.tuple ds) (.fz (kd.b || im.imAll ds))
  | [(.tuple ds, kd)], Q => Q (.tuple ds) (.fz (kd.b || im.imAll ds))
  | _, _ => False
def fList : List (D × Kd) → QD → Prop
  | [(.list ds, kd)], Q => Q (.list ds) (.nw (kd.b || im.imAll ds))
  | [(.tuple ds, kd)], Q => Q (.list ds) (.nw (kd.b || im.imAll ds))
  | _, _ => False
theorem cg_tuple : CalG X G (fun xs H Q => ∃ p ys, xs = [.ref p] ∧ ((SqL X.K H p ys ∧ ∀ l, H l = none → Q (.ref l) (upd H l (.tup ys))) ∨ (SqT X.K H p ys ∧ Q (.ref p) H))) fTuple := by
  intro σ H1 H τ ow vs ds Q Kt S gr r hf k
  unfold fTuple at hf
  split at hf
  · cases r with
    | cons r1 t =>
      cases t
      obtain ⟨a, xs, rfl, e1, t1⟩ := r1.lst
      exact ⟨a, xs, rfl, .inl ⟨.of e1, fun l hl => k _ _ _ _ (Grow.upd hl) (RV.newT S gr hl t1.up) hf⟩⟩
  · cases r with
    | cons r1 t =>
      cases t
      obtain ⟨a, xs, rfl, e1, t1⟩ := r1.tup
      exact ⟨a, xs, rfl, .inr ⟨.of e1, k _ _ _ _ Grow.refl (RV.ofFz (.tup e1 t1.up)) hf⟩⟩
  · exact hf.elim
theorem cg_list : CalG X G (fun xs H Q => ∃ p ys, xs = [.ref p] ∧ (SqL X.K H p ys ∨ SqT X.K H p ys) ∧ ∀ l, H l = none → Q (.ref l) (upd H l (.lst ys))) fList := by
  intro σ H1 H τ ow vs ds Q Kt S gr r hf k
  unfold fList at hf
  split at hf
  · cases r with
    | cons r1 t =>
      cases t
      obtain ⟨a, xs, rfl, e1, t1⟩ := r1.lst
      exact ⟨a, xs, rfl, .inl (.of e1), fun l hl => k _ _ _ _ (Grow.upd hl) (RV.new S gr hl t1.up) hf⟩
  · cases r with
    | cons r1 t =>
      cases t
      obtain ⟨a, xs, rfl, e1, t1⟩ := r1.tup
      exact ⟨a, xs, rfl, .inr (.of e1), fun l hl => k _ _ _ _ (Grow.upd hl) (RV.new S gr hl t1.up) hf⟩
  · exact hf.elim
theorem ge_tuple {e : Expr} {p : Pos} {t : TXs} (hm : X.mg "tuple" = none) (ha : GA X G W [e] t) (hg : Gl X "tuple" := by rfl) (he : starEach [e] X.env = (false, eval e X.env) :: starEach [] X.env := by rfl) : GE X G W (.Call (.Name "tuple" p) [e] [] pos) (gCall fTuple t) :=
  ge_callTy call_tuple_of cg_tuple ha hm (by decide +kernel) hg (by decide) (by decide) he
theorem ge_list {e : Expr} {p : Pos} {t : TXs} (hm : X.mg "list" = none) (ha : GA X G W [e] t) (hg : Gl X "list" := by rfl) (he : starEach [e] X.env = (false, eval e X.env) :: starEach [] X.env := by rfl) : GE X G W (.Call (.Name "list" p) [e] [] pos) (gCall fList t) :=
  ge_callTy call_list_of cg_list ha hm (by decide +kernel) hg (by decide) (by decide) he
/-- int(x) -/
def fInt : List (D × Kd) → QD → Prop
  | [(.int i, _)], Q => Q (.int i) (.fz true)
  | [(.bool b, _)], Q => Q (.int (if b then 1 else 0)) (.fz true)
  | _, _ => False
theorem cg_int : CalG X G (fun xs H Q => (∃ i, xs = [.int i] ∧ Q (.int i) H) ∨ ∃ k, xs = [.bl k] ∧ Q (.int (if k then 1 else 0)) H) fInt := by
  intro σ H1 H τ ow vs ds Q Kt S gr r hf k
  unfold fInt at hf
  split at hf
  · cases r with
    | cons r1 t => cases t; exact .inl ⟨_, by rw [r1.int], k _ _ _ _ Grow.refl (RV.sc fun _ => .int _) hf⟩
  · cases r with
    | cons r1 t => cases t; exact .inr ⟨_, by rw [r1.bool], k _ _ _ _ Grow.refl (RV.sc fun _ => .int _) hf⟩
  · exact hf.elim
theorem ge_toInt {e : Expr} {p : Pos} {t : TXs} (hm : X.mg "int" = none) (ha : GA X G W [e] t) (hg : Gl X "int" := by rfl) (he : starEach [e] X.env = (false, eval e X.env) :: starEach [] X.env := by rfl) : GE X G W (.Call (.Name "int" p) [e] [] pos) (gCall fInt t) :=
  ge_callTy call_int1 cg_int ha hm (by decide +kernel) hg (by decide) (by decide) he
/-- min, max of two ints -/
def fMin2 : List (D × Kd) → QD → Prop
  | [(.int i, _), (.int j, _)], Q => Q (.int (min i j)) (.fz true)
  | _, _ => False
def fMax2 : List (D × Kd) → QD → Prop
  | [(.int i, _), (.int j, _)], Q => Q (.int (max i j)) (.fz true)
  | _, _ => False
theorem min_if (i j : Int) : (if j < i then j else i) = min i j := by rw [Int.min_def]; split <;> split <;> omega
theorem max_if (i j : Int) : (if j > i then j else i) = max i j := by rw [Int.max_def]; split <;> split <;> omega
theorem cg_min2 : CalG X G (fun xs H Q => ∃ i j, xs = [.int i, .int j] ∧ Q (.int (if j < i then j else i)) H) fMin2 := by
  intro σ H1 H τ ow vs ds Q Kt S gr r hf k
  unfold fMin2 at hf
  split at hf
  · cases r with
    | cons r1 t =>
      cases t with
      | cons r2 t => cases t; exact ⟨_, _, by rw [r1.int, r2.int], by rw [min_if]; exact k _ _ _ _ Grow.refl (RV.sc fun _ => .int _) hf⟩
  · exact hf.elim
theorem cg_max2 : CalG X G (fun xs H Q => ∃ i j, xs = [.int i, .int j] ∧ Q (.int (if j > i then j else i)) H) fMax2 := by
  intro σ H1 H τ ow vs ds Q Kt S gr r hf k
  unfold fMax2 at hf
  split at hf
  · cases r with
    | cons r1 t =>
      cases t with
      | cons r2 t => cases t; exact ⟨_, _, by rw [r1.int, r2.int], by rw [max_if]; exact k _ _ _ _ Grow.refl (RV.sc fun _ => .int _) hf⟩
  · exact hf.elim
theorem ge_min2 {a b : Expr} {p : Pos} {t : TXs} (hc : X.calm = true) (hm : X.mg "min" = none) (ha : GA X G W [a, b] t) (hg : Gl X "min" := by rfl) (he : starEach [a, b] X.env = (false, eval a X.env) :: starEach [b] X.env := by rfl) (hpl : (backTo pos (starEach [b] X.env)).any (·.1) = false := by rfl) : GE X G W (.Call (.Name "min" p) [a, b] [] pos) (gCall fMin2 t) :=
  ge_callB (call_min2 hc) cg_min2 ha hm (by decide +kernel) hg (by decide) (by decide) he hpl
theorem ge_max2 {a b : Expr} {p : Pos} {t : TXs} (hc : X.calm = true) (hm : X.mg "max" = none) (ha : GA X G W [a, b] t) (hg : Gl X "max" := by rfl) (he : starEach [a, b] X.env = (false, eval a X.env) :: starEach [b] X.env := by rfl) (hpl : (backTo pos (starEach [b] X.env)).any (·.1) = false := by rfl) : GE X G W (.Call (.Name "max" p) [a, b] [] pos) (gCall fMax2 t) :=
  ge_callB (call_max2 hc) cg_max2 ha hm (by decide +kernel) hg (by decide) (by decide) he hpl
/-- all of a list of bools -/
def fAll : List (D × Kd) → QD → Prop
  | [(.list ds, _)], Q => ∃ bs : List Bool, ds = bs.map .bool ∧ Q (.bool (bs.all id)) (.fz true)
  | _, _ => False
theorem DPs.bools {K : PySem.W.Frag} {H : Hp} {P : Addr → Prop} : ∀ {vs : List V} {bs : List Bool}, DPs K H P vs (bs.map PyData.bool) → vs = bs.map V.bl
  | _, [], .nil => rfl
  | _, n :: ns, .cons q t => by cases q; rw [DPs.bools t]; rfl
theorem cg_all : CalG X G (rAll X.K) fAll := by
  intro σ H1 H τ ow vs ds Q Kt S gr r hf k
  unfold fAll at hf
  split at hf
  · obtain ⟨bs, rfl, q⟩ := hf
    cases r with
    | cons r1 t =>
      cases t
      obtain ⟨a, xs, rfl, e1, t1⟩ := r1.lst
      have := t1.bools
      subst this
      exact ⟨a, bs, rfl, .of e1, k _ _ _ _ Grow.refl (RV.sc fun _ => .bl _) q⟩
  · exact hf.elim
theorem ge_all {e : Expr} {p : Pos} {t : TXs} (hc : X.calm = true) (hm : X.mg "all" = none) (ha : GA X G W [e] t) (hg : Gl X "all" := by rfl) (he : starEach [e] X.env = (false, eval e X.env) :: starEach [] X.env := by rfl) : GE X G W (.Call (.Name "all" p) [e] [] pos) (gCall fAll t) :=
  ge_callB (cr_all hc) cg_all ha hm (by decide +kernel) hg (by decide) (by decide) he
/-! ### isinstance(e, T) -/
def tyD : D → String
  | .none => "NoneType"
  | .bool _ => "bool"
  | .int _ => "int"
  | .str _ => "str"
  | .list _ => "list"
  | .tuple _ => "tuple"
  | .dict _ => "dict"
def fIsi (T : String) : D → QD → Prop := fun d Q => (match d with
  | .dict _ => Q (.bool ("dict" == T)) (.fz true)
  | _ => Q (.bool (tyD d == T || (tyD d == "bool" && T == "int"))) (.fz true))
theorem tyx {K : PySem.W.Frag} {ow : Ow} {H H' : Hp} {v : V} {d : D} {kd : Kd} (r : RV K G ow H H' v d kd) : TyX K H' v (.type (tyD d)) := by
  cases d with
  | none => rw [r.non]; exact .base .non
  | bool b => rw [r.bool]; exact .base (.bl _)
  | int i => rw [r.int]; exact .base (.int _)
  | str x => rw [r.str]; exact .base (.str _)
  | list ds =>
    obtain ⟨a, xs, rfl, e1, t1⟩ := r.lst
    exact .base (.lst e1)
  | tuple ds =>
    obtain ⟨a, xs, rfl, e1, t1⟩ := r.tup
    exact .base (.tup e1)
  | dict kvs =>
    cases kd with
    | fz b =>
      have r' : DP K H' (Fz G ow b) v (.dict kvs) := r
      generalize e : PyData.dict kvs = z at r'
      cases r' with
      | dK p h _ _ => exact .base (.dK h)
      | dT p h _ _ => exact .base (.dT h)
      | dL h _ _ => exact .fDict h
      | _ => cases e
    | ow b => obtain ⟨a, xs, ds', rfl, e, _⟩ := r; cases e
    | nw b => obtain ⟨a, xs, ds', rfl, e, _⟩ := r; cases e
def gIsi (T : String) (t : TX) : TX := fun τ Q wq => t τ (fun d _ => fIsi T d Q) wq
def KitTy (T : String) : Prop := ∀ (K : PySem.W.Frag) (t : String), t ∈ ["NoneType", "bool", "int", "str", "list", "tuple", "dict"] → PySem.W.kitOne K (.type t) (.type T) = some (t == T || (t == "bool" && T == "int"))
theorem ge_isi {e : Expr} {x : Str} {T : String} {p p2 : Pos} {t : TX} (hk : KitTy T) (hm : X.mg "isinstance" = none) (hmT : X.mg x = none) (hvT : bootBuiltins x = some (.type T)) (ha : GE X G W e t) (hg : Gl X "isinstance" := by rfl) (hgT : Gl X x := by rfl) (hnT : x ≠ "__name__" := by decide) (hdT : (x == ("__debug__" : Str)) = false := by decide)
    (he : starEach [e, .Name x p2] X.env = (false, eval e X.env) :: starEach [.Name x p2] X.env := by rfl) (he2 : starEach [.Name x p2] X.env = (false, eval (.Name x p2) X.env) :: starEach [] X.env := by rfl)
    (hpl : (backTo pos (starEach [.Name x p2] X.env)).any (·.1) = false := by rfl) : GE X G W (.Call (.Name "isinstance" p) [e, .Name x p2] [] pos) (gIsi T t) := by
  obtain ⟨te, p1, f1⟩ := ha.ex
  refine ⟨_, pe_callB call_isi hg hm (by decide +kernel) (pa_cons p1 (pa_cons (pe_bltn (v := .ty T) hgT hmT hvT rfl hnT hdT) pa_nil he2) he) (by decide) (by decide) he hpl, fun σ H τ ow Q wq Kt S h k w => f1 σ H τ ow _ wq _ S h (fun v H1 d kd g1 r1 q1 => ?_) w⟩
  have q2 : Q (.bool (tyD d == T || (tyD d == "bool" && T == "int"))) (.fz true) := by
    cases d with
    | dict kvs => simpa [tyD, fIsi] using q1
    | _ => exact q1
  refine ⟨v, .ty T, .type (tyD d), .type T, _, rfl, .ty T, tyx r1, hk _ _ ?_, k _ _ _ _ g1 (RV.sc fun _ => .bl _) q2⟩
  cases d <;> simp [tyD]
theorem kit_int : KitTy "int" := by
  intro K t h
  simp only [List.mem_cons, List.mem_nil_iff, or_false] at h
  rcases h with rfl | rfl | rfl | rfl | rfl | rfl | rfl <;> rfl
theorem kit_bool : KitTy "bool" := by
  intro K t h
  simp only [List.mem_cons, List.mem_nil_iff, or_false] at h
  rcases h with rfl | rfl | rfl | rfl | rfl | rfl | rfl <;> rfl
theorem kit_str : KitTy "str" := by
  intro K t h
  simp only [List.mem_cons, List.mem_nil_iff, or_false] at h
  rcases h with rfl | rfl | rfl | rfl | rfl | rfl | rfl <;> rfl
theorem kit_list : KitTy "list" := by
  intro K t h
  simp only [List.mem_cons, List.mem_nil_iff, or_false] at h
  rcases h with rfl | rfl | rfl | rfl | rfl | rfl | rfl <;> rfl
theorem kit_tuple : KitTy "tuple" := by
  intro K t h
  simp only [List.mem_cons, List.mem_nil_iff, or_false] at h
  rcases h with rfl | rfl | rfl | rfl | rfl | rfl | rfl <;> rfl
end
end TL

set_option maxHeartbeats 4000000
namespace TL
open PySem PySem.Spec PyProof.Rows L2

/-! ### what a def promises, over trees -/
/-- the arguments (without the pool), what is wanted of the value, of an exception -/
abbrev FSp := List D → (D → Prop) → WQ → Prop
/-- what a def hands back: its lists are new -/
def RR (K : PySem.W.Frag) (H H' : Hp) (v : V) (d : D) : Prop := match d with
  | .list ds => ∃ a xs, v = .ref a ∧ H a = none ∧ H' a = some (.lst xs) ∧ DPs K H' (fun c => H c = none ∧ c ≠ a) xs ds
  | d => DP K H' (fun c => H c = none) v d
def gh0 (H : Hp) (po : Option Addr) (pq : Addr) : Gh := ⟨H, po, 0, pq, fun _ => True, fun _ _ _ => True⟩
def addP : Option Addr → List V → List V
  | some p, us => V.ref p :: us
  | none, us => us
def spT (K : PySem.W.Frag) (pool : Bool) (n : Nat) (S : FSp) : Sp := fun vs H Q E => ∃ (po : Option Addr) (pq : Addr) (us : List V) (ds : List D),
  vs = addP po us ∧ po.isSome = pool ∧ us.length = n ∧ (∀ p, po = some p → PoolAt K H p pq) ∧ DPs K H (fun a => po ≠ some a) us ds ∧
  ∃ (Qt : D → Prop) (Et : WQ), S ds Qt Et ∧ (∀ v H' d, Grow K (gh0 H po pq) H H' → RR K H H' v d → Qt d → Q v H') ∧ ∀ nm H', Grow K (gh0 H po pq) H H' → Et nm → E (.ref (He.ga K nm)) none H'
theorem spT.len {K : PySem.W.Frag} {pool : Bool} {n : Nat} {S : FSp} {vs : List V} {H : Hp} {Q : VK} {E : XK} (h : spT K pool n S vs H Q E) : vs.length = n + (if pool then 1 else 0) := by
  obtain ⟨po, pq, us, ds, e, ep, el, _⟩ := h
  cases po with
  | none => subst e; simp at ep; simp [← ep, el, addP]
  | some p => subst e; simp at ep; simp [← ep, el, addP]
section
variable {X : Cx} {G : Gh} {W : WX} {pos : Pos}
def resKd : D → Kd
  | .list _ => .nw true
  | _ => .fz true
/-- what a call hands back, at the caller -/
theorem RR.rv {K : PySem.W.Frag} {τ : Slots} {ow : Ow} {σ : L2.St} {H0 H H' : Hp} {v : V} {d : D} (S : Sim K G τ ow σ H0) (g : Grow K G H0 H) (h : RR K H H' v d) : RV K G ow H0 H' v d (resKd d) := by
  have S1 := S.grow g
  cases d with
  | list ds =>
    obtain ⟨a, xs, rfl, n, e, t⟩ := h
    exact ⟨a, xs, ds, rfl, rfl, g.none S n, e, t.mono fun c q => ⟨⟨S1.freshO q.1, .of (S1.fresh0 q.1)⟩, q.2⟩⟩
  | _ => exact (show DP K H' (fun c => H c = none) _ _ from h).mono fun c q => ⟨S1.freshO q, .of (S1.fresh0 q)⟩
theorem RVs.any {K : PySem.W.Frag} {ow : Ow} {τ : Slots} {σ : L2.St} {H H' : Hp} (S : Sim K G τ ow σ H) {P : Addr → Prop} (hp : ∀ a, G.pool ≠ some a → P a) : ∀ {vs : List V} {ds : List (D × Kd)}, RVs K G ow H H' vs ds → DPs K H' P vs (ds.map (·.1))
  | _, _, .nil => .nil
  | _, _, .cons (kd := kd) r t => by
    refine .cons ?_ (RVs.any S hp t)
    cases kd with
    | fz b => exact (show DP K H' (Fz G ow b) _ _ from r).mono fun c q => hp c (S.npool q.1)
    | ow b =>
      obtain ⟨a, xs, ds, rfl, rfl, n, n0, e3, h⟩ := r
      exact .lst (hp a n.1) e3 (h.mono fun c q => hp c (S.npool q.1))
    | nw b =>
      obtain ⟨a, xs, ds, rfl, rfl, n, e3, h⟩ := r
      exact .lst (hp a (S.npool (S.freshO n))) e3 (h.mono fun c q => hp c (S.npool q.1.1))
theorem RVs.length {K : PySem.W.Frag} {ow : Ow} {H H' : Hp} : ∀ {vs : List V} {ds : List (D × Kd)}, RVs K G ow H H' vs ds → vs.length = ds.length
  | _, _, .nil => rfl
  | _, _, .cons _ t => by simp [RVs.length t]
def gFn (S : FSp) (t : TXs) : TX := fun τ Q wq => t τ (fun ds => S (ds.map (·.1)) (fun d => Q d (resKd d)) wq) wq
/-- f(e, ..), a def of the text -/
theorem ge_fn {e : Expr} {es : List Expr} {x : Str} {p : Pos} {k : Nat} {f : Addr} {fd : FuncData} {ps : List Str} {n : Nat} {S : FSp} {t : TXs} (F : FnOk X.prog X.w X.K X.mg X.base (L2.CX X.prog X.w) k f fd ps (spT X.K false n S)) (hr : Room k X.A) (tk : Takes X W)
    (hm : X.mg x = some (.ref f)) (hk : PySem.W.keepIn X.K (.ref f) = true) (hb : Binds X.K fd ps []) (ha : GA X G W (e :: es) t) (hn : (e :: es).length = n := by rfl) (hg : Gl X x := by rfl) (hdb : (x == ("__debug__" : Str)) = false := by decide)
    (he : starEach (e :: es) X.env = (false, eval e X.env) :: starEach es X.env := by rfl) (hpl : (backTo pos (starEach es X.env)).any (·.1) = false := by rfl) : GE X G W (.Call (.Name x p) (e :: es) [] pos) (gFn S t) := by
  obtain ⟨te, p1, f1⟩ := ha.ex
  refine ⟨_, pe_callS F hr hg hm hk hb (fun σ => passAt tk σ) p1 hdb he hpl, fun σ H τ ow Q wq Kt Sm h k w => f1 σ H τ ow _ wq _ Sm h (fun vs H1 ds g1 r1 l1 q1 => ?_) w⟩
  have up : ∀ {H' : Hp}, Grow X.K (gh0 H1 none 0) H1 H' → Grow X.K G H1 H' := fun g => Grow.ofSame fun a o e => g.keep a o e (fun z => by cases z)
  refine ⟨none, 0, vs, ds.map (·.1), rfl, rfl, by rw [r1.length, l1, hn], fun p e => (by cases e), r1.any Sm fun a _ z => (by cases z), _, wq, q1, fun v H' d g r q => ?_, fun nm H' g q => ?_⟩
  · exact k v H' d _ (g1.trans (up g)) (RR.rv Sm g1 r) q
  · exact w nm H' (g1.trans (up g)) q
/-- f(pool, e, ..) -/
theorem ge_fnP {es : List Expr} {x y : Str} {p py : Pos} {k : Nat} {f : Addr} {fd : FuncData} {ps : List Str} {n : Nat} {S : FSp} {t : TXs} (F : FnOk X.prog X.w X.K X.mg X.base (L2.CX X.prog X.w) k f fd ps (spT X.K true n S)) (hr : Room k X.A) (tk : Takes X W)
    (hm : X.mg x = some (.ref f)) (hk : PySem.W.keepIn X.K (.ref f) = true) (hb : Binds X.K fd ps []) (hP : ∃ q, G.pool = some q) (hN : X.N[G.ps]? = some y) (ha : GA X G W es t) (hn : es.length = n := by rfl) (hv : Vis X.env.scope y := by first | exact Or.inl rfl | exact Or.inr (Or.inl rfl) | exact Or.inr (Or.inr rfl)) (hg : Gl X x := by rfl) (hdb : (x == ("__debug__" : Str)) = false := by decide)
    (hd2 : (y == ("__debug__" : Str)) = false := by decide) (hcd : (y == ("__classdict__" : Str)) = false := by decide)
    (he : starEach (.Name y py :: es) X.env = (false, eval (.Name y py) X.env) :: starEach es X.env := by rfl) (hpl : (backTo pos (starEach es X.env)).any (·.1) = false := by rfl) : GE X G W (.Call (.Name x p) (.Name y py :: es) [] pos) (gFn S t) := by
  obtain ⟨te, p1, f1⟩ := ha.ex
  obtain ⟨q, hq⟩ := hP
  refine ⟨_, pe_callS F hr hg hm hk hb (fun σ => passAt tk σ) (pa_cons (pe_var hN hv hd2 hcd) p1 he) hdb he hpl, fun σ H τ ow Q wq Kt Sm h k w => ?_⟩
  refine ⟨V.ref q, Sm.pl q hq, f1 σ H τ ow _ wq _ Sm h (fun vs H1 ds g1 r1 l1 q1 => ?_) w⟩
  have S1 := Sm.grow g1
  have up : ∀ {H' : Hp}, Grow X.K (gh0 H1 (some q) G.pq) H1 H' → Grow X.K G H1 H' := fun g => ⟨fun a o e n => g.keep a o e (by rw [← hq]; exact n), fun p e h => g.pool p (by rw [← hq]; exact e) h⟩
  refine ⟨some q, G.pq, vs, ds.map (·.1), rfl, rfl, by rw [r1.length, l1, hn], fun p e => (by cases e; exact (S1.pool q hq).1), r1.any Sm fun a z => (by rw [← hq]; exact z), _, wq, q1, fun v H' d g r q => ?_, fun nm H' g q => ?_⟩
  · exact k v H' d _ (g1.trans (up g)) (RR.rv Sm g1 r) q
  · exact w nm H' (g1.trans (up g)) q

/-! ### a def that may give parts of its arguments -/
def spO (K : PySem.W.Frag) (pool : Bool) (n : Nat) (S : FSp) : Sp := fun vs H Q E => ∃ (po : Option Addr) (pq : Addr) (us : List V) (ds : List D) (P : Addr → Prop),
  vs = addP po us ∧ po.isSome = pool ∧ us.length = n ∧ (∀ p, po = some p → PoolAt K H p pq) ∧ (∀ a, P a → po ≠ some a) ∧ DPs K H P us ds ∧
  ∃ (Qt : D → Prop) (Et : WQ), S ds Qt Et ∧ (∀ v H' d, Grow K (gh0 H po pq) H H' → DP K H' (fun c => H c = none ∨ P c) v d → Qt d → Q v H') ∧ ∀ nm H', Grow K (gh0 H po pq) H H' → Et nm → E (.ref (He.ga K nm)) none H'
theorem spO.len {K : PySem.W.Frag} {pool : Bool} {n : Nat} {S : FSp} {vs : List V} {H : Hp} {Q : VK} {E : XK} (h : spO K pool n S vs H Q E) : vs.length = n + (if pool then 1 else 0) := by
  obtain ⟨po, pq, us, ds, P, e, ep, el, _⟩ := h
  cases po with
  | none => subst e; simp at ep; simp [← ep, el, addP]
  | some p => subst e; simp at ep; simp [← ep, el, addP]
def gFnO (S : FSp) (t : TXs) : TX := fun τ Q wq => t τ (fun ds => frOk ds ∧ S (ds.map (·.1)) (fun d => Q d (.fz (allB ds))) wq) wq
theorem ge_fnO {e : Expr} {es : List Expr} {x : Str} {p : Pos} {k : Nat} {f : Addr} {fd : FuncData} {ps : List Str} {n : Nat} {S : FSp} {t : TXs} (F : FnOk X.prog X.w X.K X.mg X.base (L2.CX X.prog X.w) k f fd ps (spO X.K false n S)) (hr : Room k X.A) (tk : Takes X W)
    (hm : X.mg x = some (.ref f)) (hk : PySem.W.keepIn X.K (.ref f) = true) (hb : Binds X.K fd ps []) (ha : GA X G W (e :: es) t) (hn : (e :: es).length = n := by rfl) (hg : Gl X x := by rfl) (hdb : (x == ("__debug__" : Str)) = false := by decide)
    (he : starEach (e :: es) X.env = (false, eval e X.env) :: starEach es X.env := by rfl) (hpl : (backTo pos (starEach es X.env)).any (·.1) = false := by rfl) : GE X G W (.Call (.Name x p) (e :: es) [] pos) (gFnO S t) := by
  obtain ⟨te, p1, f1⟩ := ha.ex
  refine ⟨_, pe_callS F hr hg hm hk hb (fun σ => passAt tk σ) p1 hdb he hpl, fun σ H τ ow Q wq Kt Sm h k w => f1 σ H τ ow _ wq _ Sm h (fun vs H1 ds g1 r1 l1 q1 => ?_) w⟩
  have S1 := Sm.grow g1
  have up : ∀ {H' : Hp}, Grow X.K (gh0 H1 none 0) H1 H' → Grow X.K G H1 H' := fun g => Grow.ofSame fun a o e => g.keep a o e (fun z => by cases z)
  refine ⟨none, 0, vs, ds.map (·.1), Fz G ow (allB ds), rfl, rfl, by rw [r1.length, l1, hn], fun p e => (by cases e), fun a _ z => (by cases z), RVs.dps Sm r1 q1.1, _, wq, q1.2, fun v H' d g r q => ?_, fun nm H' g q => ?_⟩
  · exact k v H' d (.fz (allB ds)) (g1.trans (up g)) (show DP X.K H' (Fz G ow (allB ds)) v d from r.mono fun c z => z.elim (fun z => ⟨S1.freshO z, .of (S1.fresh0 z)⟩) id) q
  · exact w nm H' (g1.trans (up g)) q
theorem ge_fnPO {es : List Expr} {x y : Str} {p py : Pos} {k : Nat} {f : Addr} {fd : FuncData} {ps : List Str} {n : Nat} {S : FSp} {t : TXs} (F : FnOk X.prog X.w X.K X.mg X.base (L2.CX X.prog X.w) k f fd ps (spO X.K true n S)) (hr : Room k X.A) (tk : Takes X W)
    (hm : X.mg x = some (.ref f)) (hk : PySem.W.keepIn X.K (.ref f) = true) (hb : Binds X.K fd ps []) (hP : ∃ q, G.pool = some q) (hN : X.N[G.ps]? = some y) (ha : GA X G W es t) (hn : es.length = n := by rfl) (hv : Vis X.env.scope y := by first | exact Or.inl rfl | exact Or.inr (Or.inl rfl) | exact Or.inr (Or.inr rfl)) (hg : Gl X x := by rfl) (hdb : (x == ("__debug__" : Str)) = false := by decide)
    (hd2 : (y == ("__debug__" : Str)) = false := by decide) (hcd : (y == ("__classdict__" : Str)) = false := by decide)
    (he : starEach (.Name y py :: es) X.env = (false, eval (.Name y py) X.env) :: starEach es X.env := by rfl) (hpl : (backTo pos (starEach es X.env)).any (·.1) = false := by rfl) : GE X G W (.Call (.Name x p) (.Name y py :: es) [] pos) (gFnO S t) := by
  obtain ⟨te, p1, f1⟩ := ha.ex
  obtain ⟨q, hq⟩ := hP
  refine ⟨_, pe_callS F hr hg hm hk hb (fun σ => passAt tk σ) (pa_cons (pe_var hN hv hd2 hcd) p1 he) hdb he hpl, fun σ H τ ow Q wq Kt Sm h k w => ?_⟩
  refine ⟨V.ref q, Sm.pl q hq, f1 σ H τ ow _ wq _ Sm h (fun vs H1 ds g1 r1 l1 q1 => ?_) w⟩
  have S1 := Sm.grow g1
  have up : ∀ {H' : Hp}, Grow X.K (gh0 H1 (some q) G.pq) H1 H' → Grow X.K G H1 H' := fun g => ⟨fun a o e n => g.keep a o e (by rw [← hq]; exact n), fun p e h => g.pool p (by rw [← hq]; exact e) h⟩
  refine ⟨some q, G.pq, vs, ds.map (·.1), Fz G ow (allB ds), rfl, rfl, by rw [r1.length, l1, hn], fun p e => (by cases e; exact (S1.pool q hq).1), fun a z => (by rw [← hq]; exact S1.npool z.1), RVs.dps Sm r1 q1.1, _, wq, q1.2, fun v H' d g r q => ?_, fun nm H' g q => ?_⟩
  · exact k v H' d (.fz (allB ds)) (g1.trans (up g)) (show DP X.K H' (Fz G ow (allB ds)) v d from r.mono fun c z => z.elim (fun z => ⟨S1.freshO z, .of (S1.fresh0 z)⟩) id) q
  · exact w nm H' (g1.trans (up g)) q

/-! ### statements -/
structure EndsT where
  nx : Slots → Prop
  rt : D → Slots → Prop
  bk : Slots → Prop := fun _ => False
  ct : Slots → Prop := fun _ => False
abbrev WS := Str → Slots → Prop
abbrev TSt := EndsT → WS → Slots → Prop
/-- frozen things stay frozen -/
def FrS (ow : Ow) (H : Hp) (ow' : Ow) (H' : Hp) : Prop := ∀ a o, H a = some o → ow a = none → H' a = some o ∧ ow' a = none
theorem FrS.refl {ow : Ow} {H : Hp} : FrS ow H ow H := fun _ _ e n => ⟨e, n⟩
theorem FrS.trans {ow ow1 ow2 : Ow} {H H1 H2 : Hp} (a : FrS ow H ow1 H1) (b : FrS ow1 H1 ow2 H2) : FrS ow H ow2 H2 := fun c o e n => b c o (a c o e n).1 (a c o e n).2
theorem Grow.frs {K : PySem.W.Frag} {τ : Slots} {ow : Ow} {σ : L2.St} {H H' : Hp} (S : Sim K G τ ow σ H) (g : Grow K G H H') : FrS ow H ow H' := fun a o e n => ⟨g.keep a o e (S.npool n), n⟩
/-- the end of a def -/
structure FinG (K : PySem.W.Frag) (G : Gh) (H' : Hp) : Prop where
  keep : ∀ a o, G.H0 a = some o → G.pool ≠ some a → H' a = some o
  pool : ∀ p, G.pool = some p → PoolAt K H' p G.pq
theorem Sim.fin {K : PySem.W.Frag} {τ : Slots} {ow : Ow} {σ : L2.St} {H : Hp} (S : Sim K G τ ow σ H) : FinG K G H := ⟨fun a o e n => (S.ent a o e n).1, fun p e => (S.pool p e).1⟩
structure EndsOk (K : PySem.W.Frag) (G : Gh) (W : WX) (ow : Ow) (H : Hp) (De : EndsT) (wq : WS) (Dh : Ends) : Prop where
  nx : ∀ τ' ow' σ' H', Sim K G τ' ow' σ' H' → FrS ow H ow' H' → De.nx τ' → Dh.nx σ' H'
  bk : ∀ τ' ow' σ' H', Sim K G τ' ow' σ' H' → FrS ow H ow' H' → De.bk τ' → Dh.bk σ' H'
  ct : ∀ τ' ow' σ' H', Sim K G τ' ow' σ' H' → FrS ow H ow' H' → De.ct τ' → Dh.ct σ' H'
  rt : ∀ v τ' ow' σ' H' d, Sim K G τ' ow' σ' H' → G.ret H' v d → De.rt d τ' → Dh.rt v H'
  ex : ∀ nm τ' ow' σ' H', Sim K G τ' ow' σ' H' → FrS ow H ow' H' → wq nm τ' → W (.ref (He.ga K nm)) none σ' H'
structure GS (X : Cx) (G : Gh) (W : WX) (st : Stmt) (t : TSt) : Prop where
  ex : ∃ ts, PS X st ts ∧ ∀ (σ : L2.St) (H : Hp) (τ : Slots) (ow : Ow) (De : EndsT) (wq : WS) (Dh : Ends), Sim X.K G τ ow σ H → t De wq τ → EndsOk X.K G W ow H De wq Dh → ts Dh σ H
structure GSs (X : Cx) (G : Gh) (W : WX) (st : List Stmt) (t : TSt) : Prop where
  ex : ∃ ts, PSs X st ts ∧ ∀ (σ : L2.St) (H : Hp) (τ : Slots) (ow : Ow) (De : EndsT) (wq : WS) (Dh : Ends), Sim X.K G τ ow σ H → t De wq τ → EndsOk X.K G W ow H De wq Dh → ts Dh σ H
theorem EndsOk.frs {K : PySem.W.Frag} {ow ow1 : Ow} {H H1 : Hp} {De : EndsT} {wq : WS} {Dh : Ends} (E : EndsOk K G W ow H De wq Dh) (f : FrS ow H ow1 H1) : EndsOk K G W ow1 H1 De wq Dh :=
  ⟨fun τ' ow' σ' H' S g => E.nx τ' ow' σ' H' S (f.trans g), fun τ' ow' σ' H' S g => E.bk τ' ow' σ' H' S (f.trans g), fun τ' ow' σ' H' S g => E.ct τ' ow' σ' H' S (f.trans g), E.rt, fun nm τ' ow' σ' H' S g => E.ex nm τ' ow' σ' H' S (f.trans g)⟩
theorem EndsOk.wk {K : PySem.W.Frag} {τ : Slots} {ow : Ow} {σ : L2.St} {H : Hp} {De : EndsT} {wq : WS} {Dh : Ends} (E : EndsOk K G W ow H De wq Dh) (S : Sim K G τ ow σ H) : Wk K G W σ H (fun nm => wq nm τ) := fun nm H' g q => E.ex nm τ ow σ H' (S.grow g) (g.frs S) q
def sNext : TSt := fun De _ τ => De.nx τ
def sSeq (t u : TSt) : TSt := fun De wq τ => t { De with nx := u De wq } wq τ
theorem gss_nil : GSs X G W [] sNext := ⟨_, pss_nil, fun σ H τ ow De wq Dh S h E => E.nx τ ow σ H S .refl h⟩
theorem gss_cons {st : Stmt} {rest : List Stmt} {t u : TSt} (h1 : GS X G W st t) (h2 : GSs X G W rest u) : GSs X G W (st :: rest) (sSeq t u) := by
  obtain ⟨t1, p1, f1⟩ := h1.ex
  obtain ⟨t2, p2, f2⟩ := h2.ex
  refine ⟨_, pss_cons p1 p2, fun σ H τ ow De wq Dh S h E => f1 σ H τ ow _ wq _ S h ⟨fun τ' ow' σ' H' S' g q => ?_, E.bk, E.ct, E.rt, E.ex⟩⟩
  exact f2 σ' H' τ' ow' De wq Dh S' q (E.frs g)
theorem gss_one {st : Stmt} {t : TSt} (h1 : GS X G W st t) : GSs X G W [st] t := by
  obtain ⟨t1, p1, f1⟩ := h1.ex
  exact ⟨_, pss_one p1, f1⟩
theorem gs_pass : GS X G W (.Pass pos) sNext := ⟨_, ps_pass, fun σ H τ ow De wq Dh S h E => E.nx τ ow σ H S .refl h⟩
def sBreak : TSt := fun De _ τ => De.bk τ
def sCont : TSt := fun De _ τ => De.ct τ
theorem gs_break : GS X G W (.Break pos) sBreak := ⟨_, ps_break, fun σ H τ ow De wq Dh S h E => E.bk τ ow σ H S .refl h⟩
theorem gs_continue : GS X G W (.Continue pos) sCont := ⟨_, ps_continue, fun σ H τ ow De wq Dh S h E => E.ct τ ow σ H S .refl h⟩
def sDrop (t : TX) : TSt := fun De wq τ => t τ (fun _ _ => De.nx τ) (fun nm => wq nm τ)
theorem gs_expr {e : Expr} {t : TX} (he : GE X G W e t) (hs : swapsWith e none pos.line X.env = pure false := by rfl) : GS X G W (.Expr e pos) (sDrop t) := by
  obtain ⟨t1, p1, f1⟩ := he.ex
  exact ⟨_, ps_expr p1 hs, fun σ H τ ow De wq Dh S h E => f1 σ H τ ow _ _ _ S h (fun v H' d kd g r q => E.nx τ ow σ H' (S.grow g) (g.frs S) q) (E.wk S)⟩
/-- what may be handed back -/
def retOk (d : D) : Kd → Prop
  | .nw b => b = true
  | .ow b => b = true
  | .fz b => (b = true ∨ im d = true) ∧ ∀ ds, d ≠ .list ds
def sRet (t : TX) : TSt := fun De wq τ => t τ (fun d kd => retOk d kd ∧ De.rt d τ) (fun nm => wq nm τ)
theorem RV.ret {K : PySem.W.Frag} {τ : Slots} {ow : Ow} {σ : L2.St} {H H' : Hp} {v : V} {d : D} {kd : Kd} (S : Sim K G τ ow σ H) (r : RV K G ow H H' v d kd) (h : retOk d kd) : RR K G.H0 H' v d := by
  cases kd with
  | nw b =>
    obtain ⟨a, xs, ds, rfl, rfl, n, e3, t⟩ := r
    have h : b = true := h
    exact ⟨a, xs, rfl, S.fresh0 n, e3, t.mono fun c q => ⟨q.1.2 h, q.2⟩⟩
  | ow b =>
    obtain ⟨a, xs, ds, rfl, rfl, n, n0, e3, t⟩ := r
    have h : b = true := h
    exact ⟨a, xs, rfl, n0, e3, t.mono fun c q => ⟨q.2 h, fun e => by
      obtain ⟨_, k, o⟩ := n
      rw [← e, q.1] at o; cases o⟩⟩
  | fz b =>
    obtain ⟨h1, h2⟩ := h
    have r' : DP K H' (fun c => G.H0 c = none) v d := by
      rcases h1 with h1 | h1
      · exact (show DP K H' (Fz G ow b) v d from r).mono fun c q => q.2 h1
      · exact DP.ofIm (show DP K H' (Fz G ow b) v d from r) h1
    cases d with
    | list ds => exact absurd rfl (h2 ds)
    | _ => exact r'
theorem gs_ret {e : Expr} {t : TX} (he : GE X G W e t) (hr : G.ret = RR X.K G.H0 := by rfl) : GS X G W (.Return (some e) pos) (sRet t) := by
  obtain ⟨t1, p1, f1⟩ := he.ex
  exact ⟨_, ps_ret p1, fun σ H τ ow De wq Dh S h E => f1 σ H τ ow _ _ _ S h (fun v H' d kd g r q => E.rt v τ ow σ H' d (S.grow g) (by rw [hr]; exact r.ret S q.1) q.2) (E.wk S)⟩
/-- what a def hands back that may give parts of its arguments -/
def RO (K : PySem.W.Frag) (H0 : Hp) (P : Addr → Prop) (H' : Hp) (v : V) (d : D) : Prop := DP K H' (fun c => H0 c = none ∨ P c) v d
theorem RV.retO {K : PySem.W.Frag} {τ : Slots} {ow : Ow} {σ : L2.St} {H H' : Hp} {v : V} {d : D} {kd : Kd} (S : Sim K G τ ow σ H) (r : RV K G ow H H' v d kd) : RO K G.H0 G.arg H' v d := by
  cases kd with
  | nw b =>
    obtain ⟨a, xs, ds, rfl, rfl, n, e3, t⟩ := r
    exact .lst (.inl (S.fresh0 n)) e3 (t.mono fun c q => q.1.2.p)
  | ow b =>
    obtain ⟨a, xs, ds, rfl, rfl, n, n0, e3, t⟩ := r
    exact .lst (.inl n0) e3 (t.mono fun c q => q.2.p)
  | fz b => exact (show DP K H' (Fz G ow b) v d from r).mono fun c q => q.2.p
def sRetO (t : TX) : TSt := fun De wq τ => t τ (fun d _ => De.rt d τ) (fun nm => wq nm τ)
theorem gs_retO {e : Expr} {t : TX} (he : GE X G W e t) (hr : G.ret = RO X.K G.H0 G.arg := by rfl) : GS X G W (.Return (some e) pos) (sRetO t) := by
  obtain ⟨t1, p1, f1⟩ := he.ex
  exact ⟨_, ps_ret p1, fun σ H τ ow De wq Dh S h E => f1 σ H τ ow _ _ _ S h (fun v H' d kd g r q => E.rt v τ ow σ H' d (S.grow g) (by rw [hr]; exact r.retO S) q) (E.wk S)⟩
def sRetN : TSt := fun De _ τ => De.rt .none τ
theorem gs_retN (hr : G.ret = RR X.K G.H0 ∨ G.ret = RO X.K G.H0 G.arg := by first | exact .inl rfl | exact .inr rfl) : GS X G W (.Return none pos) sRetN := ⟨_, ps_retN, fun σ H τ ow De wq Dh S h E => E.rt _ τ ow σ H .none S (by
  rcases hr with hr | hr
  · rw [hr]; exact (show DP X.K H _ _ _ from .non)
  · rw [hr]; exact (show DP X.K H _ _ _ from .non)) h⟩
def sIf (c : TXb) (t u : TSt) : TSt := fun De wq τ => c τ (fun b => if b = true then t De wq τ else u De wq τ) (fun nm => wq nm τ)
theorem gs_if {c : Expr} {a b : List Stmt} {tc : TXb} {t u : TSt} (hc : GB X G W c tc) (ha : GSs X G W a t) (hb : GSs X G W b u) : GS X G W (.If c a b pos) (sIf tc t u) := by
  obtain ⟨t0, p0, f0⟩ := hc.ex
  obtain ⟨t1, p1, f1⟩ := ha.ex
  obtain ⟨t2, p2, f2⟩ := hb.ex
  refine ⟨_, ps_if p0 p1 p2, fun σ H τ ow De wq Dh S h E => f0 σ H τ ow _ _ _ S h (fun b H' g q => ?_) (E.wk S)⟩
  cases b with
  | true => exact f1 σ H' τ ow De wq Dh (S.grow g) q (E.frs (g.frs S))
  | false => exact f2 σ H' τ ow De wq Dh (S.grow g) q (E.frs (g.frs S))
end
end TL

set_option maxHeartbeats 4000000
namespace TL
open PySem PySem.Spec PyProof.Rows L2
section
variable {X : Cx} {G : Gh} {W : WX} {pos : Pos}
/-! ### stores -/
theorem set_get {α : Type} {l : List (Option α)} {k j : Nat} {x y : α} (h : (l.set k (some x))[j]? = some (some y)) : (j = k ∧ y = x ∧ k < l.length) ∨ (j ≠ k ∧ l[j]? = some (some y)) := by
  by_cases e : k = j
  · subst e
    by_cases hl : k < l.length
    · rw [List.getElem?_set_self hl] at h
      exact .inl ⟨rfl, (Option.some.inj (Option.some.inj h)).symm, hl⟩
    · rw [List.getElem?_eq_none (by simpa using hl)] at h; cases h
  · rw [List.getElem?_set_ne e] at h
    exact .inr ⟨fun z => e z.symm, h⟩
theorem Sim.setFz {K : PySem.W.Frag} {τ : Slots} {ow : Ow} {σ : L2.St} {H : Hp} (S : Sim K G τ ow σ H) {k : Nat} {v : V} {d : D} {b : Bool} (hp : G.pool = none ∨ k ≠ G.ps) (h : DP K H (Fz G ow b) v d) : Sim K G (τ.set k (some (.fz d b))) ow (σ.set k (some v)) H := by
  refine ⟨by simp [S.len], fun j s e => ?_, S.own, S.ent, S.pool, fun p e => ?_⟩
  · rcases set_get e with ⟨rfl, rfl, hl⟩ | ⟨hne, e'⟩
    · exact ⟨v, by rw [List.getElem?_set_self (by rw [← S.len]; exact hl)], h⟩
    · rw [List.getElem?_set_ne (fun z => hne z.symm)]
      exact S.sl j s e'
  · have hk : k ≠ G.ps := hp.resolve_left fun z => by rw [z] at e; cases e
    rw [List.getElem?_set_ne hk]
    exact S.pl p e
/-- a new list comes into a slot -/
theorem Sim.setNw {K : PySem.W.Frag} {τ : Slots} {ow : Ow} {σ : L2.St} {H H' : Hp} (S : Sim K G τ ow σ H) (g : Grow K G H H') {k : Nat} {v : V} {ds : List D} {b : Bool} (hp : G.pool = none ∨ k ≠ G.ps) (r : RV K G ow H H' v (.list ds) (.nw b)) :
    ∃ ow', Sim K G (τ.set k (some (.own ds b))) ow' (σ.set k (some v)) H' ∧ FrS ow H ow' H' := by
  obtain ⟨a, xs, ds', rfl, e, n, e3, t⟩ := r
  injection e with e
  subst e
  have S' := S.grow g
  have hna := S.freshO n
  have hnp := S.npool hna
  refine ⟨fun c => if c = a then some (some k) else ow c, ⟨by simp [S.len], fun j s e => ?_, fun c j e => ?_, fun c o e hn => ?_, fun p e => ?_, fun p e => ?_⟩, fun c o e hn => ?_⟩
  · rcases set_get e with ⟨rfl, rfl, hl⟩ | ⟨hne, e'⟩
    · exact ⟨.ref a, by rw [List.getElem?_set_self (by rw [← S.len]; exact hl)], a, xs, rfl, if_pos rfl, e3, t.mono fun c q => ⟨by show (if c = a then _ else ow c) = none; rw [if_neg q.2]; exact q.1.1, q.1.2⟩⟩
    · rw [List.getElem?_set_ne (fun z => hne z.symm)]
      obtain ⟨v, e1, q⟩ := S.sl j s e'
      refine ⟨v, e1, ?_⟩
      have kl : ∀ c o, (Fz G ow true c ∧ c ≠ a) ∨ (Fz G ow false c ∧ c ≠ a) → H c = some o → H' c = some o := fun c o q e => g.keep c o e (S.npool (q.elim (·.1.1) (·.1.1)))
      have kt : ∀ c o, H c = some o → ¬ Mut (H c) → H' c = some o := fun c o e m => g.keep c o e (S.nmut m)
      have kp : ∀ (b : Bool) c, (Fz G ow b c ∧ c ≠ a) → Fz G (fun c => if c = a then some (some k) else ow c) b c := fun b c q => ⟨by show (if c = a then _ else ow c) = none; rw [if_neg q.2]; exact q.1.1, q.1.2⟩
      cases s with
      | fz d b' =>
        exact (DP.live n (show DP K H (Fz G ow b') v d from q)).keep (fun c o p e => g.keep c o e (S.npool p.1.1)) kt (kp b')
      | own ds b' =>
        obtain ⟨c, ys, rfl, o1, e4, t'⟩ := q
        exact ⟨c, ys, rfl, by show (if c = a then _ else ow c) = _; rw [if_neg (ne_of_none e4 n)]; exact o1, g.keep c _ e4 (S.nslot o1), (DPs.live n t').keep (fun c o p e => g.keep c o e (S.npool p.1.1)) kt (kp b')⟩
      | dK kvs =>
        obtain ⟨c, ys, rfl, o1, e4, t'⟩ := q
        refine ⟨c, ys, rfl, by show (if c = a then _ else ow c) = _; rw [if_neg (ne_of_none e4 n)]; exact o1, g.keep c _ e4 (S.nslot o1), ?_⟩
        exact Paired.mapP t' fun p q z => ⟨z.1, (DP.live n z.2).keep (fun c o p e => g.keep c o e (S.npool p.1.1)) kt (kp true)⟩
      | dT kvs =>
        obtain ⟨c, ys, rfl, o1, e4, t'⟩ := q
        refine ⟨c, ys, rfl, by show (if c = a then _ else ow c) = _; rw [if_neg (ne_of_none e4 n)]; exact o1, g.keep c _ e4 (S.nslot o1), ?_⟩
        exact Paired.mapP t' fun p q z => ⟨z.1, (DP.live n z.2).keep (fun c o p e => g.keep c o e (S.npool p.1.1)) kt (kp true)⟩
      | reg φ => exact RegOk.keep q fun c o oc e => ⟨g.keep c o e (S.nslot oc), by show (if c = a then _ else ow c) = _; rw [if_neg (ne_of_none e n)]; exact oc⟩
  · by_cases hc : c = a
    · subst hc; rw [e3]; trivial
    · have e : (if c = a then _ else ow c) = some j := e
      rw [if_neg hc] at e
      exact S'.own c j e
  · obtain ⟨e1, e2⟩ := S'.ent c o e hn
    have hc : c ≠ a := fun z => by
      subst z
      have := (S.ent _ o e hn).1
      rw [n] at this; cases this
    exact ⟨e1, by show (if c = a then _ else ow c) = _; rw [if_neg hc]; exact e2⟩
  · obtain ⟨e1, e2⟩ := S'.pool p e
    have hc : p ≠ a := fun z => by
      subst z
      obtain ⟨ys, q⟩ := (S.pool p e).1.ex
      rw [n] at q; cases q
    have hq : G.pq ≠ a := fun z => by
      obtain ⟨_, _, _, _, _, _, q, _⟩ := (S.pool p e).1
      rw [z, n] at q; cases q
    refine ⟨e1, ?_, ?_⟩
    · show (if p = a then _ else ow p) = _
      rw [if_neg hc]; exact e2.1
    · show (if G.pq = a then _ else ow G.pq) = _
      rw [if_neg hq]; exact e2.2
  · have hk : k ≠ G.ps := hp.resolve_left fun z => by rw [z] at e; cases e
    rw [List.getElem?_set_ne hk]
    exact S.pl p e
  · have hc : c ≠ a := ne_of_none e n
    exact ⟨g.keep c o e (S.npool hn), by show (if c = a then _ else ow c) = _; rw [if_neg hc]; exact hn⟩
/-- x = e -/
def setSl (d : D) : Kd → (Sl → Prop) → Prop
  | .fz b, Q => Q (.fz d b)
  | .nw b, Q => (match d with
    | .list ds => Q (.own ds b)
    | _ => False)
  | .ow _, _ => False
def sSet (k : Nat) (t : TX) : TSt := fun De wq τ => t τ (fun d kd => setSl d kd fun sl => De.nx (τ.set k (some sl))) (fun nm => wq nm τ)
theorem Sim.store {K : PySem.W.Frag} {τ : Slots} {ow : Ow} {σ : L2.St} {H H' : Hp} (S : Sim K G τ ow σ H) (g : Grow K G H H') {k : Nat} {v : V} {d : D} {kd : Kd} {Q : Sl → Prop} (hp : G.pool = none ∨ k ≠ G.ps) (r : RV K G ow H H' v d kd) (h : setSl d kd Q) :
    ∃ sl ow', Sim K G (τ.set k (some sl)) ow' (σ.set k (some v)) H' ∧ FrS ow H ow' H' ∧ Q sl := by
  cases kd with
  | fz b => exact ⟨_, ow, (S.grow g).setFz hp r, g.frs S, h⟩
  | ow b => exact h.elim
  | nw b =>
    cases d with
    | list ds =>
      obtain ⟨ow', S', f⟩ := S.setNw g hp r
      exact ⟨_, ow', S', f, h⟩
    | _ => exact h.elim
theorem gs_set {k : Nat} {x : Str} {e : Expr} {t : TX} {pos' : Pos} (hN : X.N.Nodup) (he : GE X G W e t) (hp : G.pool = none ∨ k ≠ G.ps) (hi : X.N[k]? = some x := by rfl) (hx : Loc X.env.scope x := by first | exact .inl rfl | exact .inr rfl) (hs : swapsWith e (some (.Name x pos')) pos.line X.env = pure false := by rfl) (hf : X.fn x = true ∨ X.env.scope.names.lookup x = some .local := by first | exact .inl rfl | exact .inr rfl | assumption) :
    GS X G W (.Assign [.Name x pos'] e pos) (sSet k t) := by
  obtain ⟨t1, p1, f1⟩ := he.ex
  refine ⟨_, ps_set hN hi hx p1 hs hf, fun σ H τ ow De wq Dh S h E => f1 σ H τ ow _ _ _ S h (fun v H' d kd g r q => ?_) (E.wk S)⟩
  obtain ⟨sl, ow', S', f, q⟩ := S.store g hp r q
  exact E.nx _ ow' _ _ S' f q
/-! ### an owned list is changed -/
theorem Sim.putL {K : PySem.W.Frag} {τ : Slots} {ow : Ow} {σ : L2.St} {H : Hp} (S : Sim K G τ ow σ H) {k : Nat} {ds : List D} {b : Bool} (e : τ[k]? = some (some (.own ds b))) :
    ∃ a xs, σ[k]? = some (some (.ref a)) ∧ ow a = some (some k) ∧ H a = some (.lst xs) ∧ DPs K H (Fz G ow b) xs ds ∧
      ∀ xs' ds' b', DPs K H (Fz G ow b') xs' ds' → Sim K G (τ.set k (some (.own ds' b'))) ow σ (upd H a (.lst xs')) ∧ FrS ow H ow (upd H a (.lst xs')) := by
  obtain ⟨v, e1, a, xs, rfl, o, e3, t⟩ := S.sl k _ e
  have nf : ∀ {c : Addr}, ow c = none → c ≠ a := fun h z => by rw [z, o] at h; cases h
  have kl : ∀ {b : Bool} {xs' : List V} (c : Addr) (ob : HO), Fz G ow b c → H c = some ob → upd H a (.lst xs') c = some ob := fun c ob p e => by rw [upd_ne (nf p.1)]; exact e
  have kt : ∀ {xs' : List V} (c : Addr) (ob : HO), H c = some ob → ¬ Mut (H c) → upd H a (.lst xs') c = some ob := fun c ob e m => by
    rw [upd_ne (fun z => m (by rw [z, e3]; trivial))]; exact e
  refine ⟨a, xs, e1, o, e3, t, fun xs' ds' b' t' => ⟨⟨by simp [S.len], fun j s ej => ?_, fun c j ej => ?_, fun c ob ec hn => ?_, fun p ep => ?_, S.pl⟩, fun c ob ec hn => ⟨by rw [upd_ne (nf hn)]; exact ec, hn⟩⟩⟩
  · rcases set_get ej with ⟨rfl, rfl, hl⟩ | ⟨hne, e'⟩
    · exact ⟨_, e1, a, xs', rfl, o, upd_same, t'.keep kl kt fun _ p => p⟩
    · obtain ⟨v, e4, q⟩ := S.sl j s e'
      refine ⟨v, e4, ?_⟩
      have na : ∀ {c : Addr}, ow c = some (some j) → c ≠ a := fun h z => by
        rw [z, o] at h
        injection h with h
        injection h with h
        exact hne h.symm
      cases s with
      | fz d b => exact (show DP K H (Fz G ow b) v d from q).keep kl kt fun _ p => p
      | own ds b =>
        obtain ⟨c, ys, rfl, o1, e5, t5⟩ := q
        exact ⟨c, ys, rfl, o1, by rw [upd_ne (na o1)]; exact e5, t5.keep kl kt fun _ p => p⟩
      | dK kvs =>
        obtain ⟨c, ys, rfl, o1, e5, t5⟩ := q
        exact ⟨c, ys, rfl, o1, by rw [upd_ne (na o1)]; exact e5, DKs.keep t5 kl kt fun _ p => p⟩
      | dT kvs =>
        obtain ⟨c, ys, rfl, o1, e5, t5⟩ := q
        exact ⟨c, ys, rfl, o1, by rw [upd_ne (na o1)]; exact e5, DKs.keep t5 kl kt fun _ p => p⟩
      | reg φ => exact RegOk.keep q fun c ob oc e => ⟨by rw [upd_ne (na oc)]; exact e, oc⟩
  · by_cases hc : c = a
    · subst hc; rw [upd_same]; trivial
    · rw [upd_ne hc]; exact S.own c j ej
  · obtain ⟨z1, z2⟩ := S.ent c ob ec hn
    exact ⟨by rw [upd_ne (nf z2)]; exact z1, z2⟩
  · obtain ⟨z1, z2⟩ := S.pool p ep
    have hpa : p ≠ a := fun z => by rw [z, o] at z2; cases z2.1
    exact ⟨z1.keep (fun ob e => by rw [upd_ne hpa]; exact e) (fun ob e => by rw [upd_ne (nf z2.2)]; exact e), z2⟩
end
end TL

set_option maxHeartbeats 4000000
namespace TL
open PySem PySem.Spec PyProof.Rows L2
section
variable {X : Cx} {G : Gh} {W : WX} {pos : Pos}
theorem wipe_get {σ : L2.St} : ∀ {vs : List Nat} {j : Nat}, (wipe σ vs)[j]? = if j ∈ vs then (σ[j]?).map (fun _ => none) else σ[j]?
  | [], j => by simp [wipe]
  | v :: vs, j => by
    unfold wipe
    by_cases e : v = j
    · subst e
      by_cases hl : v < (wipe σ vs).length
      · rw [List.getElem?_set_self hl, if_pos (List.mem_cons_self)]
        rw [wipe_length] at hl
        rw [List.getElem?_eq_getElem hl]; rfl
      · rw [List.getElem?_eq_none (by simpa using hl), if_pos (List.mem_cons_self)]
        rw [wipe_length] at hl
        rw [List.getElem?_eq_none (by omega)]; rfl
    · rw [List.getElem?_set_ne e, wipe_get (vs := vs) (j := j)]
      have : (j ∈ v :: vs) ↔ j ∈ vs := by simp [List.mem_cons, Ne.symm e]
      by_cases hj : j ∈ vs
      · rw [if_pos hj, if_pos (this.mpr hj)]
      · rw [if_neg hj, if_neg (fun z => hj (this.mp z))]
theorem wipe_set {σ : L2.St} {vs : List Nat} {i : Nat} {x : Option V} (h : i ∈ vs) : wipe (σ.set i x) vs = wipe σ vs := by
  apply List.ext_getElem?
  intro j
  rw [wipe_get, wipe_get]
  by_cases e : i = j
  · subst e
    rw [if_pos h, if_pos h]
    by_cases hl : i < σ.length
    · rw [List.getElem?_set_self hl, List.getElem?_eq_getElem hl]; rfl
    · rw [List.getElem?_eq_none (by simpa using hl), List.getElem?_eq_none (by omega)]
  · rw [List.getElem?_set_ne e]
theorem wipe_wipe {σ : L2.St} {vs : List Nat} : wipe (wipe σ vs) vs = wipe σ vs := by
  apply List.ext_getElem?
  intro j
  rw [wipe_get, wipe_get]
  by_cases e : j ∈ vs
  · rw [if_pos e, if_pos e]
    cases σ[j]? <;> rfl
  · rw [if_neg e, if_neg e]
/-! ### targets: frozen data comes -/
abbrev TGt := D → Bool → Slots → (Slots → Prop) → Prop
structure GG (X : Cx) (G : Gh) (tg : Expr) (ks : List Nat) (t : TGt) : Prop where
  ex : ∃ g, PG X tg g ∧ ∀ (σ : L2.St) (H : Hp) (τ : Slots) (ow : Ow) (x : V) (d : D) (b : Bool) (Q : Slots → Prop) (R : L2.St → Hp → Prop), Sim X.K G τ ow σ H → DP X.K H (Fz G ow b) x d → t d b τ Q →
    (∀ τ' σ', Sim X.K G τ' ow σ' H → (∀ vs, (∀ i ∈ ks, i ∈ vs) → wipe σ' vs = wipe σ vs) → Q τ' → R σ' H) → g x σ H R
def tN (k : Nat) : TGt := fun d b τ Q => Q (τ.set k (some (.fz d b)))
theorem gg_name (k : Nat) {x : Str} (hN : X.N.Nodup) (hp : G.pool = none ∨ k ≠ G.ps) (hi : X.N[k]? = some x := by rfl) (hx : Loc X.env.scope x := by first | exact .inl rfl | exact .inr rfl) (hf : X.fn x = true ∨ X.env.scope.names.lookup x = some .local := by first | exact .inl rfl | exact .inr rfl | assumption) : GG X G (.Name x pos) [k] (tN k) :=
  ⟨_, pg_name hN hi hx hf, fun σ H τ ow x d b Q R S h q kk => kk _ _ (S.setFz hp h) (fun vs hv => wipe_set (hv k (List.mem_singleton.mpr rfl))) q⟩
abbrev TGts := List D → Bool → Slots → (Slots → Prop) → Prop
structure GGs (X : Cx) (G : Gh) (tg : List Expr) (ks : List Nat) (t : TGts) : Prop where
  ex : ∃ g, PGs X tg g ∧ ∀ (σ : L2.St) (H : Hp) (τ : Slots) (ow : Ow) (xs : List V) (ds : List D) (b : Bool) (Q : Slots → Prop) (R : L2.St → Hp → Prop), Sim X.K G τ ow σ H → DPs X.K H (Fz G ow b) xs ds → t ds b τ Q →
    (∀ τ' σ', Sim X.K G τ' ow σ' H → (∀ vs, (∀ i ∈ ks, i ∈ vs) → wipe σ' vs = wipe σ vs) → Q τ' → R σ' H) → g xs σ H R
def tsNil : TGts := fun ds _ τ Q => ds = [] ∧ Q τ
def tsCons (t : TGt) (u : TGts) : TGts := fun ds b τ Q => match ds with
  | [] => False
  | d :: r => t d b τ fun τ' => u r b τ' Q
theorem ggs_nil : GGs X G [] [] tsNil := ⟨_, pgs_nil, fun σ H τ ow xs ds b Q R S h q k => by
  obtain ⟨rfl, q⟩ := q
  cases h
  exact ⟨rfl, k _ _ S (fun _ _ => rfl) q⟩⟩
theorem ggs_cons {e : Expr} {es : List Expr} {t : TGt} {u : TGts} {k1 k2 : List Nat} (h1 : GG X G e k1 t) (h2 : GGs X G es k2 u) (hs : (assignEach (e :: es) X.env).map (·.2) = assign e X.env :: (assignEach es X.env).map (·.2) := by rfl) : GGs X G (e :: es) (k1 ++ k2) (tsCons t u) := by
  obtain ⟨g1, p1, f1⟩ := h1.ex
  obtain ⟨g2, p2, f2⟩ := h2.ex
  refine ⟨_, pgs_cons p1 p2 hs, fun σ H τ ow xs ds b Q R S h q k => ?_⟩
  cases h with
  | nil => exact q.elim
  | cons h t =>
    refine ⟨_, _, rfl, f1 σ H τ ow _ _ b _ _ S h q fun τ' σ' S' w' q' => ?_⟩
    exact f2 σ' H τ' ow _ _ b Q R S' t q' fun τ2 σ2 S2 w2 q2 => k τ2 σ2 S2 (fun vs hv => (w2 vs fun i hi => hv i (List.mem_append_right _ hi)).trans (w' vs fun i hi => hv i (List.mem_append_left _ hi))) q2
/-- a, b, .. = a tuple of that length -/
def tTupG (n : Nat) (t : TGts) : TGt := fun d b τ Q => match d with
  | .tuple ds => ds.length = n ∧ t ds b τ Q
  | _ => False
theorem gg_tup {es : List Expr} {k : Nat} {ks : List Nat} {t : TGts} (n : Nat) (hc : X.calm = true) (h : GGs X G es ks t) (hn : (assignEach es X.env).length = n := by rfl) (hst : (assignEach es X.env).findIdx? (·.1) = none := by rfl) : GG X G (.Tuple es k pos) ks (tTupG n t) := by
  obtain ⟨g, p1, f1⟩ := h.ex
  refine ⟨_, pg_tup hc p1 hn hst, fun σ H τ ow x d b Q R S h q kk => ?_⟩
  cases d with
  | tuple ds =>
    cases h with
    | tup e t => exact ⟨_, _, rfl, .of e, by rw [t.length]; exact q.1, f1 σ H τ ow _ _ b Q R S t q.2 kk⟩
  | _ => exact q.elim
/-- (a, b, ..) = e -/
def sUnp (t : TX) (g : TGt) : TSt := fun De wq τ => t τ (fun d kd => (match kd with
  | .fz b => g d b τ De.nx
  | _ => False)) (fun nm => wq nm τ)
theorem gs_unp {tg e : Expr} {t : TX} {g : TGt} {ks : List Nat} (he : GE X G W e t) (hg : GG X G tg ks g) (hs : swapsWithSole [tg] e pos.line X.env = pure false := by rfl) (hw : swappedStores [tg] e X.env = pure none := by rfl)
    (h1 : (assignEach [tg] X.env).map (·.2) = [assign tg X.env] := by rfl) : GS X G W (.Assign [tg] e pos) (sUnp t g) := by
  obtain ⟨t1, p1, f1⟩ := he.ex
  obtain ⟨g1, p2, f2⟩ := hg.ex
  refine ⟨_, ps_asg p1 p2 hs hw h1, fun σ H τ ow De wq Dh S h E => f1 σ H τ ow _ _ _ S h (fun v H' d kd g r q => ?_) (E.wk S)⟩
  cases kd with
  | fz b => exact f2 σ H' τ ow v d b De.nx Dh.nx (S.grow g) r q fun τ' σ' S' _ q' => E.nx τ' ow σ' H' S' (g.frs S) q'
  | _ => exact q.elim

/-! ### what is walked -/
/-- the iterator J yields the data ds, now and later -/
def ItOk (K : PySem.W.Frag) (G : Gh) (ow : Ow) (H1 : Hp) (own : Bool) (J : It) (ds : List D) (b : Bool) : Prop :=
  ∀ τ2 ow2 σ2 H2, Sim K G τ2 ow2 σ2 H2 → (own = true → ∀ c o k, H1 c = some o → ow c = some (some k) → H2 c = some o) → FrS ow H1 ow2 H2 →
    (∀ i d, ds[i]? = some d → J.go i H2 ∧ ∀ x H3, J.yld i H2 x H3 → Grow K G H2 H3 ∧ DP K H3 (Fz G ow2 b) x d) ∧ J.stop ds.length H2
abbrev TIt := Slots → (List D → Bool → Bool → Prop) → WQ → Prop
structure GI (X : Cx) (G : Gh) (W : WX) (tg e : Expr) (t : TIt) : Prop where
  ex : ∃ wi, PI X tg e wi ∧ ∀ (σ : L2.St) (H : Hp) (τ : Slots) (ow : Ow) (Q : List D → Bool → Bool → Prop) (wq : WQ) (R : It → Hp → Prop), Sim X.K G τ ow σ H → t τ Q wq →
    (∀ J H1 ds b own, Grow X.K G H H1 → ItOk X.K G ow H1 own J ds b → Q ds b own → R J H1) → Wk X.K G W σ H wq → wi σ H R
/-- a list or a tuple -/
def iAny (K : PySem.W.Frag) (tl : TE) : TI := fun σ H R => tl σ H fun x H1 => (∃ a, x = .ref a ∧ (∃ xs, SqL K H1 a xs) ∧ R (Itl K a) H1) ∨ ∃ a, x = .ref a ∧ (∃ xs, SqT K H1 a xs) ∧ R (Itt K a) H1
theorem fp_new {pins : List (Addr × Obj)} {σ : L2.St} {H : Hp} {s : Shared} (J : Inv X pins σ H s) : ∀ c ∈ [s.heap.objs.size], FpOk X pins H c := fun c hc => by
  obtain rfl : c = s.heap.objs.size := List.mem_singleton.mp hc
  exact J.fpOk (Nat.le_refl _) J.fresh
theorem pi_any {tg l : Expr} {tl : TE} (hl : PE X l tl) : PI X tg l (iAny X.K tl) := by
  constructor
  intro pins s σ H R I h
  refine thn (hl.run pins s σ H _ I h) fun u s' hu => ?_
  obtain ⟨y, Hy, J, ry, cs⟩ := hu
  rcases cs with ⟨a, rfl, ⟨xs, hq⟩, q⟩ | ⟨a, rfl, ⟨xs, hq⟩, q⟩
  · obtain rfl : u = .ref a := ry
    obtain ⟨its, _, pl, _⟩ := J.list hq
    refine wpAny_pyIter_list pl.isList ⟨_, _, _, _, Hy, rfl, ?_, turn_list a _, ⟨_, Heap.get?_push_size _ rfl, rfl, rfl⟩, fp_new J, q⟩
    exact J.kept (t' := s'.toks) fun c o ec => Heap.get?_push_of_some _ ec
  · obtain rfl : u = .ref a := ry
    obtain ⟨its, _, pl, _⟩ := J.tuple hq
    refine wpAny_pyIter_tuple (show s'.heap.IsTuple a its.toArray from pl) ⟨_, _, _, _, Hy, rfl, ?_, turn_tuple a _, ⟨_, Heap.get?_push_size _ rfl, rfl, rfl⟩, fp_new J, q⟩
    exact J.kept (t' := s'.toks) fun c o ec => Heap.get?_push_of_some _ ec
def Kd.isOw : Kd → Bool
  | .ow _ => true
  | _ => false
def itD (d : D) (kd : Kd) (Q : List D → Bool → Bool → Prop) : Prop := match d with
  | .list ds => Q ds kd.b kd.isOw
  | .tuple ds => Q ds kd.b false
  | _ => False
def iSeq (t : TX) : TIt := fun τ Q wq => t τ (fun d kd => itD d kd Q) wq
/-- frozen data stay -/
theorem DPs.frs {K : PySem.W.Frag} {τ : Slots} {ow ow2 : Ow} {σ : L2.St} {H H2 : Hp} (S : Sim K G τ ow σ H) (f : FrS ow H ow2 H2) {b : Bool} {vs : List V} {ds : List D} (h : DPs K H (Fz G ow b) vs ds) : DPs K H2 (Fz G ow2 b) vs ds := by
  have nm : ∀ c o, H c = some o → ¬ Mut (H c) → ow c = none := fun c o e m => by
    cases q : ow c with
    | none => rfl
    | some k => exact absurd (S.own c k q) m
  have hh : DPs K H (fun c => Fz G ow b c ∧ H c ≠ none) vs ds := DPs.there h
  exact hh.keep (fun c o p e => (f c o e p.1.1).1) (fun c o e m => (f c o e (nm c o e m)).1) fun c p => by
    cases q : H c with
    | none => exact absurd q p.2
    | some o => exact ⟨(f c o q p.1.1).2, p.1.2⟩
theorem itok_list {K : PySem.W.Frag} {τ : Slots} {ow : Ow} {σ : L2.St} {H : Hp} {a : Addr} {xs : List V} {ds : List D} {b own : Bool} (S : Sim K G τ ow σ H) (e : H a = some (.lst xs)) (ho : (own = true ∧ ∃ k, ow a = some (some k)) ∨ ow a = none) (t : DPs K H (Fz G ow b) xs ds) : ItOk K G ow H own (Itl K a) ds b := by
  intro τ2 ow2 σ2 H2 S2 ho2 f
  have e2 : H2 a = some (.lst xs) := by
    rcases ho with ho | ho
    · exact ho2 ho.1 a _ _ e ho.2.choose_spec
    · exact (f a _ e ho).1
  have t2 := t.frs S f
  refine ⟨fun i d hd => ?_, xs, .of e2, by rw [t.length]; exact Nat.le_refl _⟩
  obtain ⟨v, hv, r⟩ := t2.get hd
  refine ⟨⟨xs, v, .of e2, hv⟩, fun x H3 y => ?_⟩
  obtain ⟨rfl, y⟩ := y
  have ex : x = v := Option.some.inj ((y xs (.of e2)).symm.trans hv)
  subst ex
  exact ⟨Grow.refl, r⟩
theorem itok_tup {K : PySem.W.Frag} {τ : Slots} {ow : Ow} {σ : L2.St} {H : Hp} {a : Addr} {xs : List V} {ds : List D} {b own : Bool} (S : Sim K G τ ow σ H) (e : SqT K H a xs) (t : DPs K H (Fz G ow b) xs ds) : ItOk K G ow H own (Itt K a) ds b := by
  intro τ2 ow2 σ2 H2 S2 ho2 f
  have nm : ∀ c o, H c = some o → ¬ Mut (H c) → ow c = none := fun c o e m => by
    cases q : ow c with
    | none => rfl
    | some k => exact absurd (S.own c k q) m
  have e2 : SqT K H2 a xs := SqT.keep e fun o e m => (f a o e (nm a o e m)).1
  have t2 := t.frs S f
  refine ⟨fun i d hd => ?_, xs, e2, by rw [t.length]; exact Nat.le_refl _⟩
  obtain ⟨v, hv, r⟩ := t2.get hd
  refine ⟨⟨xs, v, e2, hv⟩, fun x H3 y => ?_⟩
  obtain ⟨rfl, y⟩ := y
  have ex : x = v := Option.some.inj ((y xs e2).symm.trans hv)
  subst ex
  exact ⟨Grow.refl, r⟩
theorem gi_seq {tg e : Expr} {t : TX} (he : GE X G W e t) : GI X G W tg e (iSeq t) := by
  obtain ⟨te, p1, f1⟩ := he.ex
  refine ⟨_, pi_any p1, fun σ H τ ow Q wq R S h k w => f1 σ H τ ow _ wq _ S h (fun v H1 d kd g r q => ?_) w⟩
  have S1 := S.grow g
  cases d with
  | list ds =>
    have q : Q ds kd.b kd.isOw := q
    obtain ⟨a, xs, rfl, e, t⟩ := r.lst
    refine .inl ⟨a, rfl, ⟨xs, .of e⟩, k _ _ ds kd.b _ g (itok_list S1 e ?_ t) q⟩
    · cases kd with
      | fz b =>
        cases (show DP X.K H1 (Fz G ow b) _ _ from r) with
        | lst p _ _ => exact .inr p.1
      | nw b =>
        obtain ⟨a', xs', ds', ea, _, n, _⟩ := r
        cases ea
        exact .inr (S.freshO n)
      | ow b =>
        obtain ⟨a', xs', ds', ea, _, n, _⟩ := r
        cases ea
        exact .inl ⟨rfl, n.2⟩
  | tuple ds =>
    obtain ⟨a, xs, rfl, e, t⟩ := r.tup
    exact .inr ⟨a, rfl, ⟨xs, .of e⟩, k _ _ ds kd.b _ g (itok_tup S1 (.of e) t) q⟩
  | _ => exact q.elim
/-- range(n), range(a, b) -/
def rgD (lo : Int) (n : Nat) : List D := (List.range n).map fun i => .int (lo + (i : Nat))
theorem itok_range {K : PySem.W.Frag} {ow : Ow} {H : Hp} {lo : Int} {n : Nat} : ItOk K G ow H false (Itr lo n) (rgD lo n) true := by
  intro τ2 ow2 σ2 H2 S2 ho2 f
  refine ⟨fun i d hd => ?_, by show n ≤ (rgD lo n).length; simp [rgD]⟩
  have hi : i < n := by
    rcases Nat.lt_or_ge i n with h | h
    · exact h
    · rw [List.getElem?_eq_none (by simpa [rgD] using h)] at hd; cases hd
  refine ⟨hi, fun x H3 y => ?_⟩
  obtain ⟨rfl, rfl⟩ := y
  have : (rgD lo n)[i]? = some (.int (lo + (i : Nat))) := by simp [rgD, hi]
  rw [this] at hd
  cases hd
  exact ⟨Grow.refl, .int _⟩
def fRg : List (D × Kd) → (List D → Bool → Bool → Prop) → Prop
  | [(.int j, _)], Q => -(2 ^ 62) ≤ j ∧ j < 2 ^ 62 ∧ Q (rgD 0 j.toNat) true false
  | [(.int i, _), (.int j, _)], Q => (-(2 ^ 62) ≤ i ∧ i < 2 ^ 62 ∧ -(2 ^ 62) ≤ j ∧ j < 2 ^ 62) ∧ Q (rgD i (j - i).toNat) true false
  | _, _ => False
def iRg (t : TXs) : TIt := fun τ Q wq => t τ (fun ds => fRg ds Q) wq
theorem gi_range1 {tg a : Expr} {p : Pos} {t : TXs} (hm : X.mg "range" = none) (ha : GA X G W [a] t) (hg : Gl X "range" := by rfl) (hs : starEach [a] X.env = [(false, eval a X.env)] := by rfl) : GI X G W tg (.Call (.Name "range" p) [a] [] pos) (iRg t) := by
  obtain ⟨te, p1, f1⟩ := ha.ex
  refine ⟨_, pi_range1 hg hm p1 hs, fun σ H τ ow Q wq R S h k w => f1 σ H τ ow _ wq _ S h (fun vs H1 ds g r l q => ?_) w⟩
  cases r with
  | nil => cases l
  | cons r1 t =>
    cases t with
    | cons _ _ => simp at l
    | nil =>
      unfold fRg at q
      split at q
      · rename_i e; cases e; exact ⟨_, by rw [r1.int], q.1, q.2.1, k _ _ _ _ _ g itok_range q.2.2⟩
      · rename_i e; cases e
      · exact q.elim
theorem gi_range2 {tg a b : Expr} {p : Pos} {t : TXs} (hm : X.mg "range" = none) (ha : GA X G W [a, b] t) (hg : Gl X "range" := by rfl) (hs : starEach [a, b] X.env = [(false, eval a X.env), (false, eval b X.env)] := by rfl) (hs2 : starEach [b] X.env = [(false, eval b X.env)] := by rfl) : GI X G W tg (.Call (.Name "range" p) [a, b] [] pos) (iRg t) := by
  obtain ⟨te, p1, f1⟩ := ha.ex
  refine ⟨_, pi_range2 hg hm p1 hs hs2, fun σ H τ ow Q wq R S h k w => f1 σ H τ ow _ wq _ S h (fun vs H1 ds g r l q => ?_) w⟩
  cases r with
  | nil => cases l
  | cons r1 t =>
    cases t with
    | nil => simp at l
    | cons r2 t =>
      cases t with
      | cons _ _ => simp at l
      | nil =>
        unfold fRg at q
        split at q
        · rename_i e; cases e
        · rename_i e; cases e; exact ⟨_, _, by rw [r1.int, r2.int], q.1, k _ _ _ _ _ g itok_range q.2⟩
        · exact q.elim
/-! ### for -/
def forL (tg : TGt) (body : TSt) (De : EndsT) (wq : WS) (b : Bool) : List D → Slots → Prop
  | [], τ => De.nx τ
  | d :: ds, τ => tg d b τ fun τ1 => body { De with nx := forL tg body De wq b ds, ct := forL tg body De wq b ds, bk := De.nx } wq τ1
def sFor (it : TIt) (tg : TGt) (body : TSt) : TSt := fun De wq τ => it τ (fun ds b own => own = false ∧ forL tg body De wq b ds τ) (fun nm => wq nm τ)
theorem gs_for {tg iter : Expr} {body : List Stmt} {it : TIt} {g : TGt} {ks : List Nat} {tb : TSt} (hpo : PassesOwn (model X.prog X.w) X.A X.env X.xe) (hc : X.calm = true) (hi : GI X G W tg iter it) (hg : GG X G tg ks g) (hb : GSs X G W body tb)
    (hs : ∀ x, foldedSetIterable iter X.env x = pure x := by intro _; rfl) : GS X G W (.For tg iter body [] pos) (sFor it g tb) := by
  obtain ⟨wi, p1, f1⟩ := hi.ex
  obtain ⟨gg, p2, f2⟩ := hg.ex
  obtain ⟨t3, p3, f3⟩ := hb.ex
  refine ⟨_, ps_for hpo hc p1 p2 p3 hs, fun σ H τ ow De wq Dh S h E => f1 σ H τ ow _ _ _ S h (fun J H1 ds b own gr ok q => ?_) (E.wk S)⟩
  obtain ⟨rfl, q⟩ := q
  have S1 := S.grow gr
  refine ⟨fun i m σ2 H2 => ∃ τ2 ow2, Sim X.K G τ2 ow2 σ2 H2 ∧ FrS ow H1 ow2 H2 ∧ i + m = ds.length ∧ forL g tb De wq b (ds.drop i) τ2, ⟨ds.length, τ, ow, S1, .refl, by simp, by simpa using q⟩, ?_⟩
  rintro i m σ2 H2 ⟨τ2, ow2, S2, f, em, q2⟩
  obtain ⟨go, stop⟩ := ok τ2 ow2 σ2 H2 S2 (fun z => by cases z) f
  cases m with
  | zero =>
    have ei : i = ds.length := by omega
    subst ei
    rw [List.drop_length] at q2
    exact .inl ⟨stop, E.nx τ2 ow2 σ2 H2 S2 ((gr.frs S).trans f) q2⟩
  | succ m =>
    have hi : i < ds.length := by omega
    obtain ⟨go1, go2⟩ := go i ds[i] (List.getElem?_eq_getElem hi)
    refine .inr ⟨go1, fun σ' H' => ∃ τ3 ow3, Sim X.K G τ3 ow3 σ' H' ∧ FrS ow H1 ow3 H' ∧ forL g tb De wq b (ds.drop (i + 1)) τ3, fun σ' H' ⟨τ3, ow3, S3, f3, q3⟩ => ⟨m, Nat.lt_succ_self m, τ3, ow3, S3, f3, by omega, q3⟩, fun x H3 y => ?_⟩
    obtain ⟨gr3, r3⟩ := go2 x H3 y
    rw [List.drop_eq_getElem_cons hi] at q2
    have S3 := S2.grow gr3
    have f13 := f.trans (gr3.frs S2)
    refine f2 σ2 H3 τ2 ow2 x ds[i] b _ _ S3 r3 q2 fun τ4 σ4 S4 _ q4 => ?_
    refine f3 σ4 H3 τ4 ow2 _ wq _ S4 q4 ⟨fun τ' ow' σ' H' S' g' q' => ⟨τ', ow', S', f13.trans g', q'⟩, fun τ' ow' σ' H' S' g' q' => E.nx τ' ow' σ' H' S' (((gr.frs S).trans f13).trans g') q', fun τ' ow' σ' H' S' g' q' => ⟨τ', ow', S', f13.trans g', q'⟩, E.rt, fun nm τ' ow' σ' H' S' g' q' => E.ex nm τ' ow' σ' H' S' (((gr.frs S).trans f13).trans g') q'⟩
/-! ### while -/
def sWhile (c : TXb) (body : TSt) : TSt := fun De wq τ => ∃ I : Nat → Slots → Prop, (∃ m, I m τ) ∧ ∀ m τ, I m τ →
  c τ (fun b => if b = true then body { De with nx := fun τ' => ∃ m', m' < m ∧ I m' τ', ct := fun τ' => ∃ m', m' < m ∧ I m' τ', bk := De.nx } wq τ else De.nx τ) (fun nm => wq nm τ)
theorem gs_while {c : Expr} {body : List Stmt} {tc : TXb} {tb : TSt} (hpo : PassesOwn (model X.prog X.w) X.A X.env X.xe) (hc : GB X G W c tc) (hb : GSs X G W body tb) : GS X G W (.While c body [] pos) (sWhile tc tb) := by
  obtain ⟨t1, p1, f1⟩ := hc.ex
  obtain ⟨t2, p2, f2⟩ := hb.ex
  refine ⟨_, ps_while hpo p1 p2, fun σ H τ ow De wq Dh S h E => ?_⟩
  obtain ⟨I, ⟨m0, h0⟩, step⟩ := h
  refine ⟨fun m σ2 H2 => ∃ τ2 ow2, Sim X.K G τ2 ow2 σ2 H2 ∧ FrS ow H ow2 H2 ∧ I m τ2, ⟨m0, τ, ow, S, .refl, h0⟩, ?_⟩
  rintro m σ2 H2 ⟨τ2, ow2, S2, f, i2⟩
  refine f1 σ2 H2 τ2 ow2 _ _ _ S2 (step m τ2 i2) (fun b H3 g3 q3 => ?_) ((E.frs f).wk S2)
  have f3 := f.trans (g3.frs S2)
  cases b with
  | true =>
    refine ⟨fun σ' H' => ∃ m', m' < m ∧ ∃ τ3 ow3, Sim X.K G τ3 ow3 σ' H' ∧ FrS ow H ow3 H' ∧ I m' τ3, fun σ' H' q => q, ?_⟩
    exact f2 σ2 H3 τ2 ow2 _ wq _ (S2.grow g3) q3 ⟨fun τ' ow' σ' H' S' g' ⟨m', hm, q'⟩ => ⟨m', hm, τ', ow', S', f3.trans g', q'⟩, fun τ' ow' σ' H' S' g' q' => E.nx τ' ow' σ' H' S' (f3.trans g') q', fun τ' ow' σ' H' S' g' ⟨m', hm, q'⟩ => ⟨m', hm, τ', ow', S', f3.trans g', q'⟩, E.rt, fun nm τ' ow' σ' H' S' g' q' => E.ex nm τ' ow' σ' H' S' (f3.trans g') q'⟩
  | false => exact E.nx τ2 ow2 σ2 H3 (S2.grow g3) f3 q3
end
end TL

set_option maxHeartbeats 4000000
namespace TL
open PySem PySem.Spec PyProof.Rows L2
section
variable {X : Cx} {G : Gh} {W : WX} {pos : Pos}
def wipeT (τ : Slots) : List Nat → Slots
  | [] => τ
  | v :: vs => (wipeT τ vs).set v none
theorem wipeT_len {τ : Slots} : ∀ vs : List Nat, (wipeT τ vs).length = τ.length
  | [] => rfl
  | v :: vs => by unfold wipeT; rw [List.length_set, wipeT_len vs]
theorem wipeT_some {τ : Slots} {i : Nat} {x : Sl} : ∀ {vs : List Nat}, (wipeT τ vs)[i]? = some (some x) → τ[i]? = some (some x) ∧ i ∉ vs
  | [], h => ⟨h, by simp⟩
  | v :: vs, h => by
    unfold wipeT at h
    by_cases hi : v = i
    · subst hi
      by_cases hv : v < (wipeT τ vs).length
      · rw [List.getElem?_set_self hv] at h; cases h
      · rw [List.getElem?_eq_none (by simpa using hv)] at h; cases h
    · rw [List.getElem?_set_ne hi] at h
      obtain ⟨h1, h2⟩ := wipeT_some h
      exact ⟨h1, by simp only [List.mem_cons, not_or]; exact ⟨fun e => hi e.symm, h2⟩⟩
theorem Sim.wipe {K : PySem.W.Frag} {τ : Slots} {ow : Ow} {σ : L2.St} {H : Hp} (S : Sim K G τ ow σ H) {vs : List Nat} (hp : G.pool = none ∨ G.ps ∉ vs) : Sim K G (wipeT τ vs) ow (L2.wipe σ vs) H := by
  refine ⟨by rw [wipeT_len, wipe_length]; exact S.len, fun k s e => ?_, S.own, S.ent, S.pool, fun p e => ?_⟩
  · obtain ⟨e1, e2⟩ := wipeT_some e
    obtain ⟨v, e3, q⟩ := S.sl k s e1
    exact ⟨v, by rw [wipe_get, if_neg e2]; exact e3, q⟩
  · have h : G.ps ∉ vs := hp.resolve_left fun z => by rw [z] at e; cases e
    rw [wipe_get, if_neg h]
    exact S.pl p e
/-- a list at D that no slot knows -/
def owD (ow : Ow) (D : Addr) : Ow := fun c => if c = D then some none else ow c
theorem owD_none {ow : Ow} {D c : Addr} (h : owD ow D c = none) : c ≠ D ∧ ow c = none := by
  unfold owD at h
  by_cases e : c = D
  · rw [if_pos e] at h; cases h
  · rw [if_neg e] at h; exact ⟨e, h⟩
theorem owD_ne {ow : Ow} {D c : Addr} (h : c ≠ D) : owD ow D c = ow c := if_neg h
theorem Sim.hide {K : PySem.W.Frag} {τ : Slots} {ow : Ow} {σ : L2.St} {H : Hp} (S : Sim K G τ ow σ H) {D : Addr} (n : H D = none) (xs : List V) : Sim K G τ (owD ow D) σ (upd H D (.lst xs)) := by
  have ne : ∀ {c : Addr} {o : HO}, H c = some o → c ≠ D := fun e => ne_of_none e n
  have kl : ∀ (b : Bool) (c : Addr) (o : HO), (Fz G ow b c ∧ c ≠ D) → H c = some o → upd H D (.lst xs) c = some o := fun b c o p e => by rw [upd_ne p.2]; exact e
  have kt : ∀ (c : Addr) (o : HO), H c = some o → ¬ Mut (H c) → upd H D (.lst xs) c = some o := fun c o e _ => by rw [upd_ne (ne e)]; exact e
  have kp : ∀ (b : Bool) (c : Addr), (Fz G ow b c ∧ c ≠ D) → Fz G (owD ow D) b c := fun b c p => ⟨by rw [owD_ne p.2]; exact p.1.1, p.1.2⟩
  refine ⟨S.len, fun k s e => ?_, fun a k e => ?_, fun a o e hn => ?_, fun p e => ?_, S.pl⟩
  · obtain ⟨v, e1, q⟩ := S.sl k s e
    refine ⟨v, e1, ?_⟩
    cases s with
    | fz d b => exact (DP.live n (show DP K H (Fz G ow b) v d from q)).keep (kl b) kt (kp b)
    | own ds b =>
      obtain ⟨a, ys, rfl, o, e2, t⟩ := q
      exact ⟨a, ys, rfl, by rw [owD_ne (ne e2)]; exact o, by rw [upd_ne (ne e2)]; exact e2, (DPs.live n t).keep (kl b) kt (kp b)⟩
    | dK kvs =>
      obtain ⟨a, ys, rfl, o, e2, t⟩ := q
      exact ⟨a, ys, rfl, by rw [owD_ne (ne e2)]; exact o, by rw [upd_ne (ne e2)]; exact e2, Paired.mapP t fun _ _ z => ⟨z.1, (DP.live n z.2).keep (kl true) kt (kp true)⟩⟩
    | dT kvs =>
      obtain ⟨a, ys, rfl, o, e2, t⟩ := q
      exact ⟨a, ys, rfl, by rw [owD_ne (ne e2)]; exact o, by rw [upd_ne (ne e2)]; exact e2, Paired.mapP t fun _ _ z => ⟨z.1, (DP.live n z.2).keep (kl true) kt (kp true)⟩⟩
    | reg φ => exact RegOk.keep q fun c ob oc e => ⟨by rw [upd_ne (ne e)]; exact e, by rw [owD_ne (ne e)]; exact oc⟩
  · by_cases h : a = D
    · subst h; rw [upd_same]; trivial
    · rw [owD_ne h] at e
      rw [upd_ne h]; exact S.own a k e
  · obtain ⟨z1, z2⟩ := S.ent a o e hn
    exact ⟨by rw [upd_ne (ne z1)]; exact z1, by rw [owD_ne (ne z1)]; exact z2⟩
  · obtain ⟨z1, z2, z3⟩ := S.pool p e
    obtain ⟨_, _, _, _, _, y1, y2, _⟩ := id z1
    exact ⟨z1.keep (fun o q => by rw [upd_ne (ne q)]; exact q) (fun o q => by rw [upd_ne (ne q)]; exact q), by rw [owD_ne (ne y1)]; exact z2, by rw [owD_ne (ne y2)]; exact z3⟩
theorem Sim.more {K : PySem.W.Frag} {τ : Slots} {ow : Ow} {σ : L2.St} {H : Hp} {D : Addr} {ys : List V} (S : Sim K G τ (owD ow D) σ H) (nD : G.pool ≠ some D) (e : H D = some (.lst ys)) (xs : List V) : Sim K G τ (owD ow D) σ (upd H D (.lst xs)) := by
  have oD : owD ow D D = some none := if_pos rfl
  have kl : ∀ (b : Bool) (c : Addr) (o : HO), Fz G (owD ow D) b c → H c = some o → upd H D (.lst xs) c = some o := fun b c o p e => by rw [upd_ne (owD_none p.1).1]; exact e
  have kt : ∀ (c : Addr) (o : HO), H c = some o → ¬ Mut (H c) → upd H D (.lst xs) c = some o := fun c o ec m => by
    rw [upd_ne fun z => m (by rw [z, e]; trivial)]; exact ec
  have na : ∀ {k : Nat} {s : Sl} {a : Addr}, τ[k]? = some (some s) → owD ow D a = some (some k) → a ≠ D := fun {k s a} ek h z => by
    rw [z, oD] at h
    cases h
  refine ⟨S.len, fun k s ek => ?_, fun a k e => ?_, fun a o e hn => ?_, fun p e => ?_, S.pl⟩
  · obtain ⟨v, e1, q⟩ := S.sl k s ek
    refine ⟨v, e1, ?_⟩
    cases s with
    | fz d b => exact (show DP K H (Fz G _ b) v d from q).keep (kl b) kt fun _ p => p
    | own ds b =>
      obtain ⟨a, zs, rfl, o, e2, t⟩ := q
      exact ⟨a, zs, rfl, o, by rw [upd_ne (na ek o)]; exact e2, t.keep (kl b) kt fun _ p => p⟩
    | dK kvs =>
      obtain ⟨a, zs, rfl, o, e2, t⟩ := q
      exact ⟨a, zs, rfl, o, by rw [upd_ne (na ek o)]; exact e2, DKs.keep t (kl true) kt fun _ p => p⟩
    | dT kvs =>
      obtain ⟨a, zs, rfl, o, e2, t⟩ := q
      exact ⟨a, zs, rfl, o, by rw [upd_ne (na ek o)]; exact e2, DKs.keep t (kl true) kt fun _ p => p⟩
    | reg φ => exact RegOk.keep q fun c ob oc e => ⟨by rw [upd_ne (na ek oc)]; exact e, oc⟩
  · by_cases h : a = D
    · subst h; rw [upd_same]; trivial
    · rw [upd_ne h]; exact S.own a k e
  · obtain ⟨z1, z2⟩ := S.ent a o e hn
    exact ⟨by rw [upd_ne (owD_none z2).1]; exact z1, z2⟩
  · obtain ⟨z1, z2, z3⟩ := S.pool p e
    have hp : p ≠ D := fun z => nD (by rw [← z]; exact e)
    exact ⟨z1.keep (fun o q => by rw [upd_ne hp]; exact q) (fun o q => by rw [upd_ne (owD_none z3).1]; exact q), z2, z3⟩

/-! ### [elt for tg in iter if ..] -/
structure GTs (X : Cx) (G : Gh) (W : WX) (es : List Expr) (t : TXb) : Prop where
  ex : ∃ te, PTs X es te ∧ ∀ (σ : L2.St) (H : Hp) (τ : Slots) (ow : Ow) (Q : Bool → Prop) (wq : WQ) (Kt : Bool → Hp → Prop), Sim X.K G τ ow σ H → t τ Q wq →
    (∀ b H', Grow X.K G H H' → Q b → Kt b H') → Wk X.K G W σ H wq → te σ H Kt
def gYes : TXb := fun _ Q _ => Q true
theorem gts_nil : GTs X G W [] gYes := ⟨_, pts_nil, fun σ H τ ow Q wq Kt S h k _ => k _ _ Grow.refl h⟩
theorem gts_one {c : Expr} {t : TXb} (hc : GB X G W c t) : GTs X G W [c] t := by
  obtain ⟨te, p1, f1⟩ := hc.ex
  exact ⟨_, pts_one p1, f1⟩
abbrev WNo : WX := fun _ _ _ _ => False
def notOw : Kd → Prop
  | .ow _ => False
  | _ => True
def lcL (tg : TGt) (tt : TXb) (te : TX) (τ : Slots) (Q : QD) (b : Bool) : List D → List D → Bool → Prop
  | [], acc, f => Q (.list acc) (.nw f)
  | d :: ds, acc, f => tg d b τ fun τ1 => tt τ1 (fun ok => if ok = true then te τ1 (fun y ky => notOw ky ∧ lcL tg tt te τ Q b ds (acc ++ [y]) (f && ky.b)) (fun _ => False) else lcL tg tt te τ Q b ds acc f) (fun _ => False)
def gLc (it : TIt) (tg : TGt) (tt : TXb) (te : TX) (vs : List Nat) : TX := fun τ Q wq => it τ (fun ds b _ => ds.length ≤ sizeLine ∧ lcL tg tt te (wipeT τ vs) Q b ds [] true) wq
/-- the reading of a block's part, whatever the block's entry -/
abbrev blkX (X : Cx) (scope : Scope) (p : Shared × Hp × Addr × List (Str × Addr) × List Addr) : Cx := X.blk p.1 p.2.1 scope (compEnvC scope p.2.2.2.1 p.2.2.1 X.env) p.2.2.2.2
abbrev ggB (X : Cx) (scope : Scope) (tg : Expr) : TG := fun x σ H R => ∀ p, ∃ g, PG (blkX X scope p) tg g ∧ g x σ H R
abbrev gtB (X : Cx) (scope : Scope) (ifs : List Expr) : TT := fun σ H R => ∀ p, ∃ t, PTs (blkX X scope p) ifs t ∧ t σ H R
abbrev geB (X : Cx) (scope : Scope) (elt : Expr) : TE := fun σ H R => ∀ p, ∃ t, PE (blkX X scope p) elt t ∧ t σ H R
abbrev giB (X : Cx) (scope : Scope) (tg it : Expr) : TI := fun σ H R => ∀ p, ∃ t, PI (blkX X scope p) tg it t ∧ t σ H R
theorem pgB {scope : Scope} {tg : Expr} : ∀ p, PG (blkX X scope p) tg (ggB X scope tg) := fun p => ⟨fun pins s σ H v u Q I r h => by obtain ⟨g, pg, q⟩ := h p; exact pg.run pins s σ H v u Q I r q⟩
theorem ptB {scope : Scope} {ifs : List Expr} : ∀ p, PTs (blkX X scope p) ifs (gtB X scope ifs) := fun p => ⟨fun pins s σ H Q I h => by obtain ⟨g, pg, q⟩ := h p; exact pg.run pins s σ H Q I q⟩
theorem peB {scope : Scope} {elt : Expr} : ∀ p, PE (blkX X scope p) elt (geB X scope elt) := fun p => ⟨fun pins s σ H Q I h => by obtain ⟨g, pg, q⟩ := h p; exact pg.run pins s σ H Q I q⟩
theorem piB {scope : Scope} {tg it : Expr} : ∀ p, PI (blkX X scope p) tg it (giB X scope tg it) := fun p => ⟨fun pins s σ H Q I h => by obtain ⟨g, pg, q⟩ := h p; exact pg.run pins s σ H Q I q⟩
theorem lc_sem {elt tg : Expr} {ifs : List Expr} {scope : Scope} {vs : List Nat} {it : TIt} {wi : TI} {g : TGt} {ks : List Nat} {tt : TXb} {te : TX} (hp : G.pool = none ∨ G.ps ∉ vs)
    (f1 : ∀ (σ : L2.St) (H : Hp) (τ : Slots) (ow : Ow) (Q : List D → Bool → Bool → Prop) (wq : WQ) (R : It → Hp → Prop), Sim X.K G τ ow σ H → it τ Q wq → (∀ J H1 ds b own, Grow X.K G H H1 → ItOk X.K G ow H1 own J ds b → Q ds b own → R J H1) → Wk X.K G W σ H wq → wi σ H R)
    (hg : ∀ p, GG (blkX X scope p) G tg ks g) (ht : ∀ p, GTs (blkX X scope p) G WNo ifs tt) (he : ∀ p, GE (blkX X scope p) G WNo elt te) (hks : ∀ i ∈ ks, i ∈ vs)
    {σ : L2.St} {H : Hp} {τ : Slots} {ow : Ow} {Q : QD} {wq : WQ} {Kt : VK} (S : Sim X.K G τ ow σ H) (h : gLc it g tt te vs τ Q wq) (k : ∀ v H' d kd, Grow X.K G H H' → RV X.K G ow H H' v d kd → Q d kd → Kt v H') (w : Wk X.K G W σ H wq) :
    tLc wi (ggB X scope tg) (gtB X scope ifs) (geB X scope elt) vs σ H Kt := by
  refine f1 σ H τ ow _ wq _ S h (fun J H1 ds b ownf gr iok q => ?_) w
  obtain ⟨hz, q⟩ := q
  intro D nD
  have S1 := S.grow gr
  have ih := S1.hide nD []
  refine ⟨fun i m H2 => ∃ acc xs f, Sim X.K G τ (owD ow D) σ H2 ∧ Grow X.K G H1 H2 ∧ H2 D = some (.lst xs) ∧ DPs X.K H2 (Fz G (owD ow D) f) xs acc ∧ i + m = ds.length ∧ acc.length ≤ i ∧ lcL g tt te (wipeT τ (vs)) Q b (ds.drop i) acc f,
    ⟨ds.length, [], [], true, ih, Grow.upd nD, upd_same, .nil, by simp, Nat.le_refl _, by simpa using q⟩, ?_⟩
  rintro i m H2 ⟨acc, xs, f, S2, g2, eD, tD, em, ea, q2⟩
  have fr : FrS ow H1 (owD ow D) H2 := fun c o e n => ⟨g2.keep c o e (S1.npool n), by rw [owD_ne (ne_of_none e nD)]; exact n⟩
  obtain ⟨go, stop⟩ := iok τ _ σ H2 S2 (fun _ c o k e ok => g2.keep c o e (S1.nslot ok)) fr
  cases m with
  | zero =>
    have ei : i = ds.length := by omega
    subst ei
    rw [List.drop_length] at q2
    refine .inl ⟨stop, k (.ref D) H2 (.list acc) (.nw f) (gr.trans g2) ⟨D, xs, acc, rfl, rfl, gr.none S nD, eD, tD.mono fun c p => ?_⟩ q2⟩
    obtain ⟨p1, p2⟩ := owD_none p.1
    exact ⟨⟨p2, p.2⟩, p1⟩
  | succ m =>
    have hi : i < ds.length := by omega
    obtain ⟨go1, go2⟩ := go i ds[i] (List.getElem?_eq_getElem hi)
    refine .inr ⟨go1, fun H' => ∃ acc xs f, Sim X.K G τ (owD ow D) σ H' ∧ Grow X.K G H1 H' ∧ H' D = some (.lst xs) ∧ DPs X.K H' (Fz G (owD ow D) f) xs acc ∧ acc.length ≤ i + 1 ∧ lcL g tt te (wipeT τ (vs)) Q b (ds.drop (i + 1)) acc f,
      fun H' ⟨acc, xs, f, z1, z2, z3, z4, z5, z6⟩ => ⟨m, Nat.lt_succ_self m, acc, xs, f, z1, z2, z3, z4, by omega, z5, z6⟩, fun x H3 y => ?_⟩
    obtain ⟨g3, r3⟩ := go2 x H3 y
    have S3 := S2.grow g3
    have g13 := g2.trans g3
    have oD : owD ow D D = some none := if_pos rfl
    have nDp : G.pool ≠ some D := S1.npool (S1.freshO nD)
    have eD3 := g3.keep D _ eD nDp
    have tD3 := DPs.grow S2 g3 S2.fzp tD
    rw [List.drop_eq_getElem_cons hi] at q2
    simp only [lcL] at q2
    intro p
    obtain ⟨g0, pg0, fg⟩ := (hg p).ex
    refine ⟨g0, pg0, fg (L2.wipe σ (vs)) H3 (wipeT τ (vs)) (owD ow D) x ds[i] b _ _ (S3.wipe hp) r3 q2 fun τ4 σ4 S4 hw q4 => ⟨?_, ?_⟩⟩
    · exact (hw _ hks).trans wipe_wipe
    · intro p
      obtain ⟨t0, pt0, ft⟩ := (ht p).ex
      refine ⟨t0, pt0, ft σ4 H3 τ4 (owD ow D) _ _ _ S4 q4 (fun b' H4 g4 q5 => ?_) fun nm H' _ z => z⟩
      have S5 := S3.grow g4
      have g14 := g13.trans g4
      have eD4 := g4.keep D _ eD3 nDp
      have tD4 := DPs.grow S3 g4 S3.fzp tD3
      cases b' with
      | false =>
        show ∃ acc xs f, _
        exact ⟨acc, xs, f, S5, g14, eD4, tD4, by omega, q5⟩
      | true =>
        show geB X scope elt σ4 H4 _
        intro p
        obtain ⟨e0, pe0, fe⟩ := (he p).ex
        refine ⟨e0, pe0, fe σ4 H4 τ4 (owD ow D) _ _ _ (S4.grow g4) q5 (fun v H5 d kd g5 r5 q6 => ?_) fun nm H' _ z => z⟩
        obtain ⟨hk, q6⟩ := q6
        have S6 := S5.grow g5
        have eD5 := g5.keep D _ eD4 nDp
        have tD5 := DPs.grow S5 g5 S5.fzp tD4
        have rd : DP X.K H5 (Fz G (owD ow D) kd.b) v d := by
          cases kd with
          | fz b => exact r5
          | nw b => exact RV.frz S5 r5
          | ow b => exact hk.elim
        refine ⟨xs, eD5, by rw [tD.length]; omega, acc ++ [d], xs ++ [v], f && kd.b, S6.more nDp eD5 _, ?_, upd_same, ?_, by simp; omega, q6⟩
        · have g15 := g14.trans g5
          exact ⟨fun c o e n => by rw [upd_ne (ne_of_none e nD)]; exact g15.keep c o e n, fun pp e hh => by
            have hpD : pp ≠ D := fun z => by rw [e, z] at nDp; exact nDp rfl
            have z := g15.pool pp e hh
            refine z.keep (fun o q => by rw [upd_ne hpD]; exact q) (fun o q => ?_)
            have := (S6.pool pp e).2.2
            rw [upd_ne (owD_none this).1]; exact q⟩
        · have all : DPs X.K H5 (Fz G (owD ow D) (f && kd.b)) (xs ++ [v]) (acc ++ [d]) := (tD5.mono fun c q => q.andL).append (.cons (rd.mono fun c q => q.andR) .nil)
          exact all.keep (fun c o p e => by rw [upd_ne (owD_none p.1).1]; exact e) (fun c o e m => by rw [upd_ne fun z => m (by rw [z, eD5]; trivial)]; exact e) fun _ p => p
theorem ge_lc {elt tg iter : Expr} {ifs : List Expr} {scope : Scope} {own : List (Str × Nat)} {it : TIt} {g : TGt} {ks : List Nat} {tt : TXb} {te : TX} (hc : X.calm = true) (hN : X.N.Nodup) (hi : GI X G W tg iter it) (ok : BlkOk X.N X.env.scope scope own) (hp : G.pool = none ∨ G.ps ∉ own.map (·.2))
    (hg : ∀ p, GG (blkX X scope p) G tg ks g) (ht : ∀ p, GTs (blkX X scope p) G WNo ifs tt) (he : ∀ p, GE (blkX X scope p) G WNo elt te) (hks : ∀ i ∈ ks, i ∈ own.map (·.2))
    (hs : ∀ x, foldedSetIterable iter X.env x = pure x := by intro _; rfl) : GE X G W (.ListComp elt [⟨tg, iter, ifs, 0⟩] scope pos) (gLc it g tt te (own.map (·.2))) := by
  obtain ⟨wi, p1, f1⟩ := hi.ex
  exact ⟨_, pe_lc hc hN p1 ok (fun s H C cl fp => pgB (s, H, C, cl, fp)) (fun s H C cl fp => ptB (s, H, C, cl, fp)) (fun s H C cl fp => peB (s, H, C, cl, fp)) hs, fun σ H τ ow Q wq Kt S h k w => lc_sem hp f1 hg ht he hks S h k w⟩
/-- y = [..] -/
theorem gs_setLc {y : Str} {elt tg iter : Expr} {ifs : List Expr} {scope : Scope} {own : List (Str × Nat)} {it : TIt} {g : TGt} {ks : List Nat} {tt : TXb} {te : TX} {p2 py : Pos} (k : Nat) (hc : X.calm = true) (hN : X.N.Nodup) (hi : GI X G W tg iter it) (ok : BlkOk X.N X.env.scope scope own) (hp : G.pool = none ∨ G.ps ∉ own.map (·.2)) (hpk : G.pool = none ∨ k ≠ G.ps)
    (hg : ∀ p, GG (blkX X scope p) G tg ks g) (ht : ∀ p, GTs (blkX X scope p) G WNo ifs tt) (he : ∀ p, GE (blkX X scope p) G WNo elt te) (hks : ∀ i ∈ ks, i ∈ own.map (·.2))
    (hsw : swapsWith (.ListComp elt [⟨tg, iter, ifs, 0⟩] scope p2) (some (.Name y py)) pos.line X.env = pure true) (hy : X.N[k]? = some y := by rfl) (hyl : X.env.scope.names.lookup y = some .local := by rfl)
    (hs : ∀ x, foldedSetIterable iter X.env x = pure x := by intro _; rfl) : GS X G W (.Assign [.Name y py] (.ListComp elt [⟨tg, iter, ifs, 0⟩] scope p2) pos) (sSet k (gLc it g tt te (own.map (·.2)))) := by
  obtain ⟨wi, p1, f1⟩ := hi.ex
  refine ⟨_, ps_setLc hc hN hy hyl hsw p1 ok (fun s H C cl fp => pgB (s, H, C, cl, fp)) (fun s H C cl fp => ptB (s, H, C, cl, fp)) (fun s H C cl fp => peB (s, H, C, cl, fp)) hs, fun σ H τ ow De wq Dh S h E => ?_⟩
  refine lc_sem hp f1 hg ht he hks S h (fun v H' d kd g r q => ?_) (E.wk S)
  obtain ⟨sl, ow', S', f, q⟩ := S.store g hpk r q
  exact E.nx _ ow' _ _ S' f q
theorem RV.item {K : PySem.W.Frag} {τ : Slots} {ow : Ow} {σ : L2.St} {H H' : Hp} {v : V} {d : D} {kd : Kd} (S : Sim K G τ ow σ H) (r : RV K G ow H H' v d kd) (h : notOw kd) : DP K H' (Fz G ow kd.b) v d := by
  cases kd with
  | fz b => exact r
  | nw b => exact RV.frz S r
  | ow b => exact h.elim
/-! ### two clauses -/
def lcI (tg : TGt) (tt : TXb) (te : TX) (τ : Slots) (b : Bool) (K : List D → Bool → Prop) : List D → List D → Bool → Prop
  | [], acc, f => K acc f
  | d :: ds, acc, f => tg d b τ fun τ1 => tt τ1 (fun ok => if ok = true then te τ1 (fun y ky => notOw ky ∧ acc.length < sizeLine ∧ lcI tg tt te τ b K ds (acc ++ [y]) (f && ky.b)) (fun _ => False) else lcI tg tt te τ b K ds acc f) (fun _ => False)
def lcO (tg : TGt) (tt : TXb) (it1 : TIt) (tg1 : TGt) (tt1 : TXb) (te : TX) (vs1 : List Nat) (τ : Slots) (Q : QD) (b : Bool) : List D → List D → Bool → Prop
  | [], acc, f => Q (.list acc) (.nw f)
  | d :: ds, acc, f => tg d b τ fun τ1 => tt τ1 (fun ok => if ok = true then it1 τ1 (fun es b1 _ => lcI tg1 tt1 te (wipeT τ1 vs1) b1 (fun acc f => lcO tg tt it1 tg1 tt1 te vs1 τ Q b ds acc f) es acc f) (fun _ => False) else lcO tg tt it1 tg1 tt1 te vs1 τ Q b ds acc f) (fun _ => False)
def gLc2 (it : TIt) (tg : TGt) (tt : TXb) (it1 : TIt) (tg1 : TGt) (tt1 : TXb) (te : TX) (vs vs1 : List Nat) : TX := fun τ Q wq => it τ (fun ds b _ => lcO tg tt it1 tg1 tt1 te vs1 (wipeT τ vs) Q b ds [] true) wq
theorem lc2_sem {elt tg tg1 iter1 : Expr} {ifs ifs1 : List Expr} {scope : Scope} {vs vs1 : List Nat} {it it1 : TIt} {wi : TI} {g g1 : TGt} {ks ks1 : List Nat} {tt tt1 : TXb} {te : TX} (hp : G.pool = none ∨ G.ps ∉ vs) (hv : ∀ i ∈ vs1, i ∈ vs)
    (f1 : ∀ (σ : L2.St) (H : Hp) (τ : Slots) (ow : Ow) (Q : List D → Bool → Bool → Prop) (wq : WQ) (R : It → Hp → Prop), Sim X.K G τ ow σ H → it τ Q wq → (∀ J H1 ds b own, Grow X.K G H H1 → ItOk X.K G ow H1 own J ds b → Q ds b own → R J H1) → Wk X.K G W σ H wq → wi σ H R)
    (hg : ∀ p, GG (blkX X scope p) G tg ks g) (ht : ∀ p, GTs (blkX X scope p) G WNo ifs tt) (hi1 : ∀ p, GI (blkX X scope p) G WNo tg1 iter1 it1) (hg1 : ∀ p, GG (blkX X scope p) G tg1 ks1 g1) (ht1 : ∀ p, GTs (blkX X scope p) G WNo ifs1 tt1) (he : ∀ p, GE (blkX X scope p) G WNo elt te) (hks : ∀ i ∈ ks, i ∈ vs) (hks1 : ∀ i ∈ ks1, i ∈ vs1)
    {σ : L2.St} {H : Hp} {τ : Slots} {ow : Ow} {Q : QD} {wq : WQ} {Kt : VK} (S : Sim X.K G τ ow σ H) (h : gLc2 it g tt it1 g1 tt1 te vs vs1 τ Q wq) (k : ∀ v H' d kd, Grow X.K G H H' → RV X.K G ow H H' v d kd → Q d kd → Kt v H') (w : Wk X.K G W σ H wq) :
    tLc2 wi (ggB X scope tg) (gtB X scope ifs) (giB X scope tg1 iter1) (ggB X scope tg1) (gtB X scope ifs1) (geB X scope elt) vs vs1 σ H Kt := by
  refine f1 σ H τ ow _ wq _ S h (fun J H1 ds b ownf gr iok q => ?_) w
  intro D nD
  have S1 := S.grow gr
  have ih := S1.hide nD []
  have oD : owD ow D D = some none := if_pos rfl
  have nDp : G.pool ≠ some D := S1.npool (S1.freshO nD)
  have hp1 : G.pool = none ∨ G.ps ∉ vs1 := hp.imp id fun h z => h (hv _ z)
  -- what stands between the turns
  let Inv2 : Hp → (List PyData → Bool → Prop) → Prop := fun H2 L => ∃ acc xs f, Sim X.K G τ (owD ow D) σ H2 ∧ Grow X.K G H1 H2 ∧ H2 D = some (.lst xs) ∧ DPs X.K H2 (Fz G (owD ow D) f) xs acc ∧ L acc f
  refine ⟨fun i m H2 => i + m = ds.length ∧ Inv2 H2 (lcO g tt it1 g1 tt1 te vs1 (wipeT τ vs) Q b (ds.drop i)), ⟨ds.length, by simp, [], [], true, ih, Grow.upd nD, upd_same, .nil, by simpa using q⟩, ?_⟩
  rintro i m H2 ⟨em, acc, xs, f, S2, g2, eD, tD, q2⟩
  have fr : FrS ow H1 (owD ow D) H2 := fun c o e n => ⟨g2.keep c o e (S1.npool n), by rw [owD_ne (ne_of_none e nD)]; exact n⟩
  obtain ⟨go, stop⟩ := iok τ _ σ H2 S2 (fun _ c o k e ok => g2.keep c o e (S1.nslot ok)) fr
  cases m with
  | zero =>
    have ei : i = ds.length := by omega
    subst ei
    rw [List.drop_length] at q2
    refine .inl ⟨stop, k (.ref D) H2 (.list acc) (.nw f) (gr.trans g2) ⟨D, xs, acc, rfl, rfl, gr.none S nD, eD, tD.mono fun c p => ?_⟩ q2⟩
    obtain ⟨p1, p2⟩ := owD_none p.1
    exact ⟨⟨p2, p.2⟩, p1⟩
  | succ m =>
    have hi : i < ds.length := by omega
    obtain ⟨go1, go2⟩ := go i ds[i] (List.getElem?_eq_getElem hi)
    refine .inr ⟨go1, fun H' => Inv2 H' (lcO g tt it1 g1 tt1 te vs1 (wipeT τ vs) Q b (ds.drop (i + 1))), fun H' z => ⟨m, Nat.lt_succ_self m, by omega, z⟩, fun x H3 y => ?_⟩
    obtain ⟨g3, r3⟩ := go2 x H3 y
    have S3 := S2.grow g3
    have g13 := g2.trans g3
    have eD3 := g3.keep D _ eD nDp
    have tD3 := DPs.grow S2 g3 S2.fzp tD
    rw [List.drop_eq_getElem_cons hi] at q2
    simp only [lcO] at q2
    intro p
    obtain ⟨g0, pg0, fg⟩ := (hg p).ex
    refine ⟨g0, pg0, fg (L2.wipe σ vs) H3 (wipeT τ vs) (owD ow D) x ds[i] b _ _ (S3.wipe hp) r3 q2 fun τ4 σ4 S4 hw q4 => ⟨(hw _ hks).trans wipe_wipe, ?_⟩⟩
    intro p
    obtain ⟨t0, pt0, ft⟩ := (ht p).ex
    refine ⟨t0, pt0, ft σ4 H3 τ4 (owD ow D) _ _ _ S4 q4 (fun b' H4 g4 q5 => ?_) fun nm H' _ z => z⟩
    have S5 := S3.grow g4
    have g14 := g13.trans g4
    have eD4 := g4.keep D _ eD3 nDp
    have tD4 := DPs.grow S3 g4 S3.fzp tD3
    cases b' with
    | false => exact ⟨acc, xs, f, S5, g14, eD4, tD4, q5⟩
    | true =>
      show giB X scope tg1 iter1 σ4 H4 _
      intro p
      obtain ⟨wi1, pi1, fi1⟩ := (hi1 p).ex
      refine ⟨wi1, pi1, fi1 σ4 H4 τ4 (owD ow D) _ _ _ (S4.grow g4) q5 (fun J1 H5 es b1 ownf1 g5 iok1 q6 => ?_) fun nm H' _ z => z⟩
      have S6 := S5.grow g5
      have B6 := (S4.grow g4).grow g5
      have eD5 := g5.keep D _ eD4 nDp
      have tD5 := DPs.grow S5 g5 S5.fzp tD4
      let L1 : List PyData → Bool → Prop := fun acc f => lcO g tt it1 g1 tt1 te vs1 (wipeT τ vs) Q b (ds.drop (i + 1)) acc f
      let Inv1 : Hp → (List PyData → Bool → Prop) → Prop := fun H7 L => ∃ acc xs f, Sim X.K G τ (owD ow D) σ H7 ∧ Sim X.K G τ4 (owD ow D) σ4 H7 ∧ Grow X.K G H1 H7 ∧ (∀ c o, H5 c = some o → c ≠ D → G.pool ≠ some c → H7 c = some o) ∧ H7 D = some (.lst xs) ∧ DPs X.K H7 (Fz G (owD ow D) f) xs acc ∧ L acc f
      refine ⟨fun j kk H7 => j + kk = es.length ∧ Inv1 H7 (lcI g1 tt1 te (wipeT τ4 vs1) b1 L1 (es.drop j)), ⟨es.length, by simp, acc, xs, f, S6, B6, g14.trans g5, fun _ _ e _ _ => e, eD5, tD5, by simpa using q6⟩, ?_⟩
      rintro j kk H7 ⟨ej, acc, xs, f, S7, B7, g17, kp7, eD7, tD7, q7⟩
      have fr7 : FrS (owD ow D) H5 (owD ow D) H7 := fun c o e n => ⟨kp7 c o e (owD_none n).1 (B6.npool n), n⟩
      obtain ⟨go1, stop1⟩ := iok1 τ4 _ σ4 H7 B7 (fun _ c o k e ok => kp7 c o e (fun z => by rw [z, oD] at ok; cases ok) (B6.nslot ok)) fr7
      cases kk with
      | zero =>
        have e0 : j = es.length := by omega
        subst e0
        rw [List.drop_length] at q7
        exact .inl ⟨stop1, acc, xs, f, S7, g17, eD7, tD7, q7⟩
      | succ kk =>
        have hj : j < es.length := by omega
        obtain ⟨go3, go4⟩ := go1 j es[j] (List.getElem?_eq_getElem hj)
        refine .inr ⟨go3, fun H' => Inv1 H' (lcI g1 tt1 te (wipeT τ4 vs1) b1 L1 (es.drop (j + 1))), fun H' z => ⟨kk, Nat.lt_succ_self kk, by omega, z⟩, fun x1 H8 y1 => ?_⟩
        obtain ⟨g8, r8⟩ := go4 x1 H8 y1
        have S8 := S7.grow g8
        have B8 := B7.grow g8
        have eD8 := g8.keep D _ eD7 nDp
        have tD8 := DPs.grow S7 g8 S7.fzp tD7
        rw [List.drop_eq_getElem_cons hj] at q7
        simp only [lcI] at q7
        intro p
        obtain ⟨g0, pg0, fg⟩ := (hg1 p).ex
        refine ⟨g0, pg0, fg (L2.wipe σ4 vs1) H8 (wipeT τ4 vs1) (owD ow D) x1 es[j] b1 _ _ (B8.wipe hp1) r8 q7 fun τ9 σ9 B9 hw9 q9 => ⟨(hw9 _ hks1).trans wipe_wipe, ?_⟩⟩
        intro p
        obtain ⟨t1, pt1, ft1⟩ := (ht1 p).ex
        refine ⟨t1, pt1, ft1 σ9 H8 τ9 (owD ow D) _ _ _ B9 q9 (fun b9 H9 g9 q10 => ?_) fun nm H' _ z => z⟩
        have S10 := S8.grow g9
        have B10 := B8.grow g9
        have eD9 := g9.keep D _ eD8 nDp
        have tD9 := DPs.grow S8 g9 S8.fzp tD8
        have g19 := (g17.trans g8).trans g9
        have kp9 : ∀ c o, H5 c = some o → c ≠ D → G.pool ≠ some c → H9 c = some o := fun c o e n1 n2 => g9.keep c o (g8.keep c o (kp7 c o e n1 n2) n2) n2
        cases b9 with
        | false => exact ⟨acc, xs, f, S10, B10, g19, kp9, eD9, tD9, q10⟩
        | true =>
          show geB X scope elt σ9 H9 _
          intro p
          obtain ⟨e0, pe0, fe⟩ := (he p).ex
          refine ⟨e0, pe0, fe σ9 H9 τ9 (owD ow D) _ _ _ (B9.grow g9) q10 (fun v H10 d kd g10 r10 q11 => ?_) fun nm H' _ z => z⟩
          obtain ⟨hk, hz, q11⟩ := q11
          have S11 := S10.grow g10
          have B11 := B10.grow g10
          have eD10 := g10.keep D _ eD9 nDp
          have tD10 := DPs.grow S10 g10 S10.fzp tD9
          have g110 := g19.trans g10
          have rd : DP X.K H10 (Fz G (owD ow D) kd.b) v d := r10.item S10 hk
          refine ⟨xs, eD10, by rw [tD7.length]; exact hz, acc ++ [d], xs ++ [v], f && kd.b, S11.more nDp eD10 _, B11.more nDp eD10 _, ?_, fun c o e n1 n2 => ?_, upd_same, ?_, q11⟩
          · exact ⟨fun c o e n => by rw [upd_ne (ne_of_none e nD)]; exact g110.keep c o e n, fun pp e hh => by
              have hpD : pp ≠ D := fun z => nDp (by rw [← z]; exact e)
              have z := g110.pool pp e hh
              refine z.keep (fun o q => by rw [upd_ne hpD]; exact q) (fun o q => ?_)
              have := (S11.pool pp e).2.2
              rw [upd_ne (owD_none this).1]; exact q⟩
          · rw [upd_ne n1]
            exact g10.keep c o (kp9 c o e n1 n2) n2
          · have all : DPs X.K H10 (Fz G (owD ow D) (f && kd.b)) (xs ++ [v]) (acc ++ [d]) := (tD10.mono fun c q => q.andL).append (.cons (rd.mono fun c q => q.andR) .nil)
            exact all.keep (fun c o p e => by rw [upd_ne (owD_none p.1).1]; exact e) (fun c o e m => by rw [upd_ne fun z => m (by rw [z, eD10]; trivial)]; exact e) fun _ p => p
theorem ge_lc2 {elt tg iter tg1 iter1 : Expr} {ifs ifs1 : List Expr} {scope : Scope} {own : List (Str × Nat)} {vs1 : List Nat} {it it1 : TIt} {g g1 : TGt} {ks ks1 : List Nat} {tt tt1 : TXb} {te : TX} (hc : X.calm = true) (hN : X.N.Nodup) (hi : GI X G W tg iter it) (ok : BlkOk X.N X.env.scope scope own) (hp : G.pool = none ∨ G.ps ∉ own.map (·.2)) (hv : ∀ i ∈ vs1, i ∈ own.map (·.2))
    (hg : ∀ p, GG (blkX X scope p) G tg ks g) (ht : ∀ p, GTs (blkX X scope p) G WNo ifs tt) (hi1 : ∀ p, GI (blkX X scope p) G WNo tg1 iter1 it1) (hg1 : ∀ p, GG (blkX X scope p) G tg1 ks1 g1) (ht1 : ∀ p, GTs (blkX X scope p) G WNo ifs1 tt1) (he : ∀ p, GE (blkX X scope p) G WNo elt te) (hks : ∀ i ∈ ks, i ∈ own.map (·.2)) (hks1 : ∀ i ∈ ks1, i ∈ vs1)
    (hs : ∀ x, foldedSetIterable iter X.env x = pure x := by intro _; rfl) (hs1 : ∀ env x, foldedSetIterable iter1 env x = pure x := by intro _ _; rfl) : GE X G W (.ListComp elt [⟨tg, iter, ifs, 0⟩, ⟨tg1, iter1, ifs1, 0⟩] scope pos) (gLc2 it g tt it1 g1 tt1 te (own.map (·.2)) vs1) := by
  obtain ⟨wi, p1, f1⟩ := hi.ex
  exact ⟨_, pe_lc2 hc hN p1 ok hv (fun s H C cl fp => pgB (s, H, C, cl, fp)) (fun s H C cl fp => ptB (s, H, C, cl, fp)) (fun s H C cl fp => piB (s, H, C, cl, fp)) (fun s H C cl fp => pgB (s, H, C, cl, fp)) (fun s H C cl fp => ptB (s, H, C, cl, fp)) (fun s H C cl fp => peB (s, H, C, cl, fp)) hs hs1, fun σ H τ ow Q wq Kt S h k w => lc2_sem hp hv f1 hg ht hi1 hg1 ht1 he hks hks1 S h k w⟩
end
end TL

set_option maxHeartbeats 4000000
namespace TL
open PySem PySem.Spec PyProof.Rows L2
section
variable {X : Cx} {G : Gh} {W : WX} {pos : Pos}
/-! ### x.append(e), x[i] = e of an owned list -/
def appSl : Option (Option Sl) → D → Kd → (Sl → Prop) → Prop
  | some (some (.own ds b)), d, .fz c, Q => ds.length < sizeLine ∧ Q (.own (ds ++ [d]) (b && c))
  | some (some (.own ds b)), d, .nw c, Q => ds.length < sizeLine ∧ Q (.own (ds ++ [d]) (b && c))
  | _, _, _, _ => False
def sApp (k : Nat) (t : TX) : TSt := fun De wq τ => (∃ ds b, τ[k]? = some (some (.own ds b))) ∧ t τ (fun d kd => appSl τ[k]? d kd fun sl => De.nx (τ.set k (some sl))) (fun nm => wq nm τ)
theorem gs_append (k : Nat) {x : Str} {e : Expr} {t : TX} {p1 p2 p3 : Pos} (he : GE X G W e t) (hi : X.N[k]? = some x := by rfl) (hv : Vis X.env.scope x := by first | exact Or.inl rfl | exact Or.inr (Or.inl rfl) | exact Or.inr (Or.inr rfl)) (hd : (x == ("__debug__" : Str)) = false := by decide)
    (hcd : (x == ("__classdict__" : Str)) = false := by decide) (hb : attributeBase (.Name x p1) "append" X.env (eval (.Name x p1) X.env) = eval (.Name x p1) X.env := by rfl)
    (hf : ((backTo p3 (starEach [e] X.env)).all (fun x => !x.1) && (backToKw p3 (keywordEach [] X.env)).all (fun x => x.1.isSome) && decide ([e].length + ([] : List Keyword).length + (if ([] : List Keyword).isEmpty then 0 else 1) < 30)) = true := by rfl)
    (hl : (p2.endLine == p3.line) = true := by rfl) (hs : starEach [e] X.env = (false, eval e X.env) :: starEach [] X.env := by rfl) (hp : (backTo p3 (starEach [] X.env)).any (·.1) = false := by rfl)
    (hsw : swapsWith (.Call (.Attribute (.Name x p1) "append" p2) [e] [] p3) none pos.line X.env = pure false := by rfl) :
    GS X G W (.Expr (.Call (.Attribute (.Name x p1) "append" p2) [e] [] p3) pos) (sApp k t) := by
  obtain ⟨te, q1, f1⟩ := he.ex
  refine ⟨_, ps_expr (pe_bm PySem.F.plainAttrs_list PySem.F.slot_list_append PySem.F.type_list_append mt_append (pe_var hi hv hd hcd) (pa_cons q1 pa_nil hs) hb hf hl hs hp) hsw, fun σ H τ ow De wq Dh S h E => ?_⟩
  obtain ⟨⟨ds, b, ek⟩, h⟩ := h
  obtain ⟨a, xs, e1, o, e2, t0, _⟩ := S.putL ek
  refine ⟨.ref a, e1, .inl ⟨rfl, _, .inl (.inl e2)⟩, f1 σ H τ ow _ _ _ S h (fun v H1 d kd g r q => ?_) (E.wk S)⟩
  have S1 := S.grow g
  obtain ⟨a', xs', e1', o', e2', t1, put⟩ := S1.putL ek
  rw [e1] at e1'
  cases e1'
  rw [ek] at q
  have hk : notOw kd ∧ ds.length < sizeLine ∧ De.nx (τ.set k (some (.own (ds ++ [d]) (b && kd.b)))) := by
    cases kd with
    | fz c => exact ⟨trivial, q.1, q.2⟩
    | nw c => exact ⟨trivial, q.1, q.2⟩
    | ow c => exact q.elim
  obtain ⟨hk, hl, q⟩ := hk
  obtain ⟨S2, f2⟩ := put (xs' ++ [v]) (ds ++ [d]) (b && kd.b) ((t1.mono fun c p => p.andL).append (.cons ((r.item S hk).mono fun c p => p.andR) .nil))
  exact ⟨a, xs', v, rfl, rfl, e2', by rw [t1.length]; exact hl, E.nx _ ow _ _ S2 ((g.frs S).trans f2) q⟩
/-- x[i] = e -/
def setAt : Option (Option Sl) → Int → D → Kd → (Sl → Prop) → Prop
  | some (some (.own ds b)), i, d, .fz c, Q => (match ixN ds.length i with
    | some j => Q (.own (ds.set j d) (b && c))
    | none => False)
  | _, _, _, _, _ => False
def sSetL (k : Nat) (te ti : TX) : TSt := fun De wq τ => (∃ ds b, τ[k]? = some (some (.own ds b))) ∧ te τ (fun d kd => ti τ (asI fun i => setAt τ[k]? i d kd fun sl => De.nx (τ.set k (some sl))) (fun nm => wq nm τ)) (fun nm => wq nm τ)
theorem gs_setL (k : Nat) {x : Str} {e i : Expr} {te ti : TX} {p1 p2 : Pos} (he : GE X G W e te) (hi : GE X G W i ti) (hN : X.N[k]? = some x := by rfl) (hv : Vis X.env.scope x := by first | exact Or.inl rfl | exact Or.inr (Or.inl rfl) | exact Or.inr (Or.inr rfl)) (hd : (x == ("__debug__" : Str)) = false := by decide)
    (hcd : (x == ("__classdict__" : Str)) = false := by decide)
    (ha : ∀ v, assign (.Subscript (.Name x p1) i p2) X.env v = (do
      let ov ← holding [v] (eval (.Name x p1) X.env)
      let iv ← holding [v, ov] (eval i X.env)
      standAt p2
      holding [v, ov, iv] (setItem ov iv v)
      release [v, ov, iv] []) := by intro _; rfl)
    (hs : swapsWithSole [.Subscript (.Name x p1) i p2] e pos.line X.env = pure false := by rfl) (hw : swappedStores [.Subscript (.Name x p1) i p2] e X.env = pure none := by rfl)
    (h1 : (assignEach [.Subscript (.Name x p1) i p2] X.env).map (·.2) = [assign (.Subscript (.Name x p1) i p2) X.env] := by rfl) :
    GS X G W (.Assign [.Subscript (.Name x p1) i p2] e pos) (sSetL k te ti) := by
  obtain ⟨t1, q1, f1⟩ := he.ex
  obtain ⟨t2, q2, f2⟩ := hi.ex
  refine ⟨_, ps_asg q1 (pg_sub (pe_var hN hv hd hcd) q2 set_list ha) hs hw h1, fun σ H τ ow De wq Dh S h E => ?_⟩
  obtain ⟨⟨ds, b, ek⟩, h⟩ := h
  refine f1 σ H τ ow _ _ _ S h (fun v H1 d kd g r q => ?_) (E.wk S)
  have S1 := S.grow g
  obtain ⟨a, xs, e1, o, e2, t0, _⟩ := S1.putL ek
  refine ⟨.ref a, e1, f2 σ H1 τ ow _ _ _ S1 q (fun u H2 du ku g2 r2 q2 => ?_) ((E.wk S).grow g)⟩
  obtain ⟨n, rfl, q2⟩ := r2.asI q2
  have S2 := S1.grow g2
  obtain ⟨a', xs', e1', o', e2', t1', put⟩ := S2.putL ek
  rw [e1] at e1'
  cases e1'
  rw [ek] at q2
  cases kd with
  | fz c =>
    have q2 : (match ixN ds.length n with
      | some j => De.nx (τ.set k (some (.own (ds.set j d) (b && c))))
      | none => False) := q2
    cases ej : ixN ds.length n with
    | none => rw [ej] at q2; exact q2.elim
    | some j =>
      rw [ej] at q2
      have rd : DP X.K H2 (Fz G ow (b && c)) v d := (DP.grow S1 g2 S1.fzp (show DP X.K H1 (Fz G ow c) v d from r)).mono fun c p => p.andR
      obtain ⟨S3, f3⟩ := put (xs'.set j v) (ds.set j d) (b && c) ((t1'.mono fun c p => p.andL).set j rd)
      exact ⟨a, xs', n, j, rfl, rfl, e2', by rw [t1'.length]; exact ej, E.nx _ ow _ _ S3 (((g.trans g2).frs S).trans f3) q2⟩
  | _ => exact q2.elim
/-! ### dicts -/
def toKey : D → Option Key
  | .int i => some (.inl i)
  | .str x => some (.inr x)
  | _ => none
def toKeys : List D → Option (List Key)
  | [] => some []
  | d :: ds => (toKey d).bind fun k => (toKeys ds).map fun ks => k :: ks
def valD {κ : Type} [DecidableEq κ] (kvs : List (κ × D)) (k : κ) : Option D := (kvs.find? fun kv => decide (kv.1 = k)).map (·.2)
def putD {κ : Type} [DecidableEq κ] (kvs : List (κ × D)) (k : κ) (d : D) : List (κ × D) := if (kvs.any fun kv => decide (kv.1 = k)) = true then kvs.map fun kv => if kv.1 = k then (kv.1, d) else kv else kvs ++ [(k, d)]
section
variable {κ : Type} [DecidableEq κ] {K : PySem.W.Frag} {H : Hp} {P : Addr → Prop}
theorem DKs.val : ∀ {xs : List (κ × V)} {kvs : List (κ × D)} (h : DKs K H P xs kvs) (k : κ), (valV xs k = none ∧ valD kvs k = none) ∨ ∃ v d, valV xs k = some v ∧ valD kvs k = some d ∧ DP K H P v d
  | _, _, .nil, k => .inl ⟨rfl, rfl⟩
  | (a, v) :: xs, (b, d) :: kvs, .cons ⟨e, r⟩ t, k => by
    have e : a = b := e
    subst e
    by_cases h : a = k
    · exact .inr ⟨v, d, by simp [valV, List.find?_cons, h], by simp [valD, List.find?_cons, h], r⟩
    · rcases DKs.val t k with ⟨h1, h2⟩ | ⟨v', d', h1, h2, h3⟩
      · exact .inl ⟨by rw [valV_neg (by exact h)]; exact h1, by simpa [valD, List.find?_cons, h] using h2⟩
      · exact .inr ⟨v', d', by rw [valV_neg (by exact h)]; exact h1, by simpa [valD, List.find?_cons, h] using h2, h3⟩
theorem DKs.any : ∀ {xs : List (κ × V)} {kvs : List (κ × D)} (h : DKs K H P xs kvs) (k : κ), (xs.any fun kv => decide (kv.1 = k)) = kvs.any fun kv => decide (kv.1 = k)
  | _, _, .nil, k => rfl
  | (a, v) :: xs, (b, d) :: kvs, .cons ⟨e, r⟩ t, k => by
    have e : a = b := e
    subst e
    rw [List.any_cons, List.any_cons, DKs.any t k]
theorem DKs.map : ∀ {xs : List (κ × V)} {kvs : List (κ × D)} (h : DKs K H P xs kvs) (k : κ) {v : V} {d : D}, DP K H P v d → DKs K H P (xs.map fun kv => if kv.1 = k then (kv.1, v) else kv) (kvs.map fun kv => if kv.1 = k then (kv.1, d) else kv)
  | _, _, .nil, k, _, _, _ => .nil
  | (a, v) :: xs, (b, d) :: kvs, .cons ⟨e, r⟩ t, k, v', d', h => by
    have e : a = b := e
    subst e
    rw [List.map_cons, List.map_cons]
    refine .cons ?_ (DKs.map t k h)
    by_cases q : a = k
    · rw [if_pos q, if_pos q]; exact ⟨rfl, h⟩
    · rw [if_neg q, if_neg q]; exact ⟨rfl, r⟩
theorem DKs.app : ∀ {xs : List (κ × V)} {kvs : List (κ × D)} (h : DKs K H P xs kvs) {k : κ} {v : V} {d : D}, DP K H P v d → DKs K H P (xs ++ [(k, v)]) (kvs ++ [(k, d)])
  | _, _, .nil, k, _, _, h => .cons ⟨rfl, h⟩ .nil
  | _ :: xs, _ :: kvs, .cons r t, k, v', d', h => .cons r (DKs.app t h)
theorem DKs.put {xs : List (κ × V)} {kvs : List (κ × D)} (h : DKs K H P xs kvs) (k : κ) {v : V} {d : D} (r : DP K H P v d) : DKs K H P (putK xs k v) (putD kvs k d) := by
  unfold putK putD
  rw [h.any k]
  split
  · exact h.map k r
  · exact h.app r
theorem DKs.length {xs : List (κ × V)} {kvs : List (κ × D)} (h : DKs K H P xs kvs) : xs.length = kvs.length := Paired.length h
end
theorem Sim.putO {K : PySem.W.Frag} {τ : Slots} {ow : Ow} {σ : L2.St} {H : Hp} (S : Sim K G τ ow σ H) {k : Nat} {a : Addr} {v0 : V} {o' : HO} {sl : Sl} (e1 : σ[k]? = some (some v0)) (o : ow a = some (some k)) (m0 : Mut (H a)) (m1 : Mut (some o')) (ok : SlOk K G ow (upd H a o') k v0 sl) :
    Sim K G (τ.set k (some sl)) ow σ (upd H a o') ∧ FrS ow H ow (upd H a o') := by
  have nf : ∀ {c : Addr}, ow c = none → c ≠ a := fun h z => by rw [z, o] at h; cases h
  have kl : ∀ {b : Bool} (c : Addr) (ob : HO), Fz G ow b c → H c = some ob → upd H a o' c = some ob := fun c ob p e => by rw [upd_ne (nf p.1)]; exact e
  have kt : ∀ (c : Addr) (ob : HO), H c = some ob → ¬ Mut (H c) → upd H a o' c = some ob := fun c ob e m => by
    rw [upd_ne (fun z => m (by rw [z]; exact m0))]; exact e
  refine ⟨⟨by simp [S.len], fun j s ej => ?_, fun c j ej => ?_, fun c ob ec hn => ?_, fun p ep => ?_, S.pl⟩, fun c ob ec hn => ⟨by rw [upd_ne (nf hn)]; exact ec, hn⟩⟩
  · rcases set_get ej with ⟨rfl, rfl, hl⟩ | ⟨hne, e'⟩
    · exact ⟨_, e1, ok⟩
    · obtain ⟨v, e4, q⟩ := S.sl j s e'
      refine ⟨v, e4, ?_⟩
      have na : ∀ {c : Addr}, ow c = some (some j) → c ≠ a := fun h z => by
        rw [z, o] at h
        injection h with h
        injection h with h
        exact hne h.symm
      cases s with
      | fz d b => exact (show DP K H (Fz G ow b) v d from q).keep kl kt fun _ p => p
      | own ds b =>
        obtain ⟨c, ys, rfl, o1, e5, t5⟩ := q
        exact ⟨c, ys, rfl, o1, by rw [upd_ne (na o1)]; exact e5, t5.keep kl kt fun _ p => p⟩
      | dK kvs =>
        obtain ⟨c, ys, rfl, o1, e5, t5⟩ := q
        exact ⟨c, ys, rfl, o1, by rw [upd_ne (na o1)]; exact e5, DKs.keep t5 kl kt fun _ p => p⟩
      | dT kvs =>
        obtain ⟨c, ys, rfl, o1, e5, t5⟩ := q
        exact ⟨c, ys, rfl, o1, by rw [upd_ne (na o1)]; exact e5, DKs.keep t5 kl kt fun _ p => p⟩
      | reg φ => exact RegOk.keep q fun c ob oc e => ⟨by rw [upd_ne (na oc)]; exact e, oc⟩
  · by_cases hc : c = a
    · subst hc; rw [upd_same]; exact m1
    · rw [upd_ne hc]; exact S.own c j ej
  · obtain ⟨z1, z2⟩ := S.ent c ob ec hn
    exact ⟨by rw [upd_ne (nf z2)]; exact z1, z2⟩
  · obtain ⟨z1, z2⟩ := S.pool p ep
    have hpa : p ≠ a := fun z => by rw [z, o] at z2; cases z2.1
    exact ⟨z1.keep (fun ob e => by rw [upd_ne hpa]; exact e) (fun ob e => by rw [upd_ne (nf z2.2)]; exact e), z2⟩
def owS (ow : Ow) (D : Addr) (k : Nat) : Ow := fun c => if c = D then some (some k) else ow c
theorem owS_ne {ow : Ow} {D c : Addr} {k : Nat} (h : c ≠ D) : owS ow D k c = ow c := if_neg h
/-- a new object for a slot -/
theorem Sim.setO1 {K : PySem.W.Frag} {τ : Slots} {ow : Ow} {σ : L2.St} {H : Hp} (S : Sim K G τ ow σ H) {k : Nat} {a : Addr} {o' : HO} {sl : Sl} (n : H a = none) (hp : G.pool = none ∨ k ≠ G.ps) (m1 : Mut (some o')) (ok : ∀ ow', ow' a = some (some k) → (∀ c, c ≠ a → ow c = none → ow' c = none) → SlOk K G ow' (upd H a o') k (.ref a) sl) :
    ∃ ow', Sim K G (τ.set k (some sl)) ow' (σ.set k (some (.ref a))) (upd H a o') ∧ FrS ow H ow' (upd H a o') := by
  have ne : ∀ {c : Addr} {o : HO}, H c = some o → c ≠ a := fun e => ne_of_none e n
  have kl : ∀ (b : Bool) (c : Addr) (o : HO), (Fz G ow b c ∧ c ≠ a) → H c = some o → upd H a o' c = some o := fun b c o p e => by rw [upd_ne p.2]; exact e
  have kt : ∀ (c : Addr) (o : HO), H c = some o → ¬ Mut (H c) → upd H a o' c = some o := fun c o e _ => by rw [upd_ne (ne e)]; exact e
  have kp : ∀ (b : Bool) (c : Addr), (Fz G ow b c ∧ c ≠ a) → Fz G (owS ow a k) b c := fun b c p => ⟨by rw [owS_ne p.2]; exact p.1.1, p.1.2⟩
  refine ⟨owS ow a k, ⟨by simp [S.len], fun j s e => ?_, fun c j e => ?_, fun c o e hn => ?_, fun p e => ?_, fun p e => ?_⟩, fun c o e hn => ⟨by rw [upd_ne (ne e)]; exact e, by rw [owS_ne (ne e)]; exact hn⟩⟩
  · rcases set_get e with ⟨rfl, rfl, hl⟩ | ⟨hne, e'⟩
    · exact ⟨_, by rw [List.getElem?_set_self (by rw [← S.len]; exact hl)], ok _ (if_pos rfl) fun c hc hn => by rw [owS_ne hc]; exact hn⟩
    · rw [List.getElem?_set_ne (fun z => hne z.symm)]
      obtain ⟨v, e1, q⟩ := S.sl j s e'
      refine ⟨v, e1, ?_⟩
      cases s with
      | fz d b => exact (DP.live n (show DP K H (Fz G ow b) v d from q)).keep (kl b) kt (kp b)
      | own ds b =>
        obtain ⟨c, ys, rfl, o1, e2, t⟩ := q
        exact ⟨c, ys, rfl, by rw [owS_ne (ne e2)]; exact o1, by rw [upd_ne (ne e2)]; exact e2, (DPs.live n t).keep (kl b) kt (kp b)⟩
      | dK kvs =>
        obtain ⟨c, ys, rfl, o1, e2, t⟩ := q
        exact ⟨c, ys, rfl, by rw [owS_ne (ne e2)]; exact o1, by rw [upd_ne (ne e2)]; exact e2, Paired.mapP t fun _ _ z => ⟨z.1, (DP.live n z.2).keep (kl true) kt (kp true)⟩⟩
      | dT kvs =>
        obtain ⟨c, ys, rfl, o1, e2, t⟩ := q
        exact ⟨c, ys, rfl, by rw [owS_ne (ne e2)]; exact o1, by rw [upd_ne (ne e2)]; exact e2, Paired.mapP t fun _ _ z => ⟨z.1, (DP.live n z.2).keep (kl true) kt (kp true)⟩⟩
      | reg φ => exact RegOk.keep q fun c ob oc e => ⟨by rw [upd_ne (ne e)]; exact e, by rw [owS_ne (ne e)]; exact oc⟩
  · by_cases h : c = a
    · subst h; rw [upd_same]; exact m1
    · rw [owS_ne h] at e
      rw [upd_ne h]; exact S.own c j e
  · obtain ⟨z1, z2⟩ := S.ent c o e hn
    exact ⟨by rw [upd_ne (ne z1)]; exact z1, by rw [owS_ne (ne z1)]; exact z2⟩
  · obtain ⟨z1, z2, z3⟩ := S.pool p e
    obtain ⟨_, _, _, _, _, y1, y2, _⟩ := id z1
    exact ⟨z1.keep (fun o q => by rw [upd_ne (ne q)]; exact q) (fun o q => by rw [upd_ne (ne q)]; exact q), by rw [owS_ne (ne y1)]; exact z2, by rw [owS_ne (ne y2)]; exact z3⟩
  · have hk : k ≠ G.ps := hp.resolve_left fun z => by rw [z] at e; cases e
    rw [List.getElem?_set_ne hk]
    exact S.pl p e
theorem Sim.setO {K : PySem.W.Frag} {τ : Slots} {ow : Ow} {σ : L2.St} {H : Hp} (S : Sim K G τ ow σ H) {k : Nat} {a : Addr} {o' : HO} {sl : Sl} (n : H a = none) (hp : G.pool = none ∨ k ≠ G.ps) (m1 : Mut (some o')) (ok : ∀ ow', ow' a = some (some k) → SlOk K G ow' (upd H a o') k (.ref a) sl) :
    ∃ ow', Sim K G (τ.set k (some sl)) ow' (σ.set k (some (.ref a))) (upd H a o') ∧ FrS ow H ow' (upd H a o') :=
  S.setO1 n hp m1 fun ow' o _ => ok ow' o
/-- x = {}: the keys ints and texts; tuples of them -/
def sNewK (k : Nat) : TSt := fun De _ τ => De.nx (τ.set k (some (.dK [])))
def sNewT (k : Nat) : TSt := fun De _ τ => De.nx (τ.set k (some (.dT [])))
theorem gs_newK {k : Nat} {x : Str} {p2 pos' : Pos} (hN : X.N.Nodup) (hp : G.pool = none ∨ k ≠ G.ps) (hi : X.N[k]? = some x := by rfl) (hx : Loc X.env.scope x := by first | exact .inl rfl | exact .inr rfl) (hs : swapsWith (.Dict [] [] p2) (some (.Name x pos')) pos.line X.env = pure false := by rfl) (hf : X.fn x = true ∨ X.env.scope.names.lookup x = some .local := by first | exact .inl rfl | exact .inr rfl | assumption) :
    GS X G W (.Assign [.Name x pos'] (.Dict [] [] p2) pos) (sNewK k) :=
  ⟨_, ps_set hN hi hx pe_dnewK hs hf, fun σ H τ ow De wq Dh S h E p np => by
    obtain ⟨ow', S', f⟩ := S.setO (sl := .dK []) np hp (show Mut (some (.dK [])) from trivial) fun ow' o => ⟨p, [], rfl, o, upd_same, .nil⟩
    exact E.nx _ ow' _ _ S' f h⟩
theorem gs_newT {k : Nat} {x : Str} {p2 pos' : Pos} (hN : X.N.Nodup) (hp : G.pool = none ∨ k ≠ G.ps) (hi : X.N[k]? = some x := by rfl) (hx : Loc X.env.scope x := by first | exact .inl rfl | exact .inr rfl) (hs : swapsWith (.Dict [] [] p2) (some (.Name x pos')) pos.line X.env = pure false := by rfl) (hf : X.fn x = true ∨ X.env.scope.names.lookup x = some .local := by first | exact .inl rfl | exact .inr rfl | assumption) :
    GS X G W (.Assign [.Name x pos'] (.Dict [] [] p2) pos) (sNewT k) :=
  ⟨_, ps_set hN hi hx pe_dnewT hs hf, fun σ H τ ow De wq Dh S h E p np => by
    obtain ⟨ow', S', f⟩ := S.setO (sl := .dT []) np hp (show Mut (some (.dT [])) from trivial) fun ow' o => ⟨p, [], rfl, o, upd_same, .nil⟩
    exact E.nx _ ow' _ _ S' f h⟩
/-- x[key] = e of a dict -/
def putSl : Option (Option Sl) → D → D → Kd → (Sl → Prop) → Prop
  | some (some (.dK kvs)), y, d, .fz c, Q => (c = true ∨ im d = true) ∧ kvs.length < sizeLine ∧ (match toKey y with
    | some k => Q (.dK (putD kvs k d))
    | none => False)
  | some (some (.dT kvs)), .tuple ys, d, .fz c, Q => (c = true ∨ im d = true) ∧ kvs.length < sizeLine ∧ (match toKeys ys with
    | some k => Q (.dT (putD kvs k d))
    | none => False)
  | _, _, _, _, _ => False
def sPut (k : Nat) (te ti : TX) : TSt := fun De wq τ => (∃ kvs, τ[k]? = some (some (.dK kvs)) ∨ ∃ kvs, τ[k]? = some (some (.dT kvs))) ∧ te τ (fun d kd => ti τ (fun y ky => putSl τ[k]? y d kd fun sl => De.nx (τ.set k (some sl))) (fun nm => wq nm τ)) (fun nm => wq nm τ)
theorem toKey_dp {K : PySem.W.Frag} {H : Hp} {P : Addr → Prop} {v : V} {d : D} {k : Key} (h : DP K H P v d) (e : toKey d = some k) : v = kV k := by
  cases d with
  | int i => cases h; injection e with e; subst e; rfl
  | str i => cases h; injection e with e; subst e; rfl
  | _ => cases e
theorem toKeys_dp {K : PySem.W.Frag} {H : Hp} {P : Addr → Prop} : ∀ {vs : List V} {ds : List D} {ks : List Key}, DPs K H P vs ds → toKeys ds = some ks → vs = ks.map kV
  | _, _, ks, .nil, e => by injection e with e; subst e; rfl
  | _, d :: ds, ks, .cons h t, e => by
    unfold toKeys at e
    cases e1 : toKey d with
    | none => rw [e1] at e; cases e
    | some k =>
      rw [e1] at e
      cases e2 : toKeys ds with
      | none => rw [e2] at e; cases e
      | some r =>
        rw [e2] at e
        have e : k :: r = ks := by simpa using e
        subst e
        rw [toKey_dp h e1, toKeys_dp t e2]
        rfl
/-- a key at hand -/
theorem key_put {K : PySem.W.Frag} {H : Hp} {P : Addr → Prop} {a : Addr} {y : V} {d : D} {xs : List (Key × V)} {k : Key} {v : V} (e : H a = some (.dK xs)) (h : DP K H P y d) (hk : toKey d = some k) (hl : xs.length < sizeLine) : DPut H a y v (upd H a (.dK (putK xs k v))) := by
  rw [toKey_dp h hk]
  exact .k e hl
theorem keys_put {K : PySem.W.Frag} {H : Hp} {P : Addr → Prop} {a : Addr} {y : V} {ds : List D} {xs : List (List Key × V)} {k : List Key} {v : V} (e : H a = some (.dT xs)) (h : DP K H P y (.tuple ds)) (hk : toKeys ds = some k) (hl : xs.length < sizeLine) : DPut H a y v (upd H a (.dT (putK xs k v))) := by
  cases h with
  | tup eb t =>
    rw [toKeys_dp t hk] at eb
    exact .t e eb hl
theorem RV.dpAny {K : PySem.W.Frag} {ow : Ow} {H H' : Hp} {v : V} {d : D} {kd : Kd} (r : RV K G ow H H' v d kd) : DP K H' (fun _ => True) v d := by
  cases kd with
  | fz b => exact DP.mono (show DP K H' (Fz G ow b) v d from r) fun _ _ => trivial
  | ow b =>
    obtain ⟨a, xs, ds, rfl, rfl, n, n0, e3, h⟩ := r
    exact .lst trivial e3 (h.mono fun _ _ => trivial)
  | nw b =>
    obtain ⟨a, xs, ds, rfl, rfl, n, e3, h⟩ := r
    exact .lst trivial e3 (h.mono fun _ _ => trivial)
theorem fz_true {K : PySem.W.Frag} {ow : Ow} {H : Hp} {v : V} {d : D} {c : Bool} (h : c = true ∨ im d = true) (r : DP K H (Fz G ow c) v d) : DP K H (Fz G ow true) v d := by
  rcases h with rfl | h
  · exact r
  · exact DP.ofIm r h
theorem DKs.past {κ : Type} {K : PySem.W.Frag} {ow : Ow} {H : Hp} {k : Nat} {a : Addr} {o' : HO} {b : Bool} {l : List (κ × V)} {m : List (κ × D)} (o : ow a = some (some k)) (m0 : Mut (H a)) (h : DKs K H (Fz G ow b) l m) : DKs K (upd H a o') (Fz G ow b) l m :=
  h.keep (fun c ob p e => by rw [upd_ne fun z => by rw [Fz, z, o] at p; exact nomatch p.1]; exact e) (fun c ob e n => by rw [upd_ne fun z => n (by rw [z]; exact m0)]; exact e) fun _ p => p
theorem gs_put (k : Nat) {x : Str} {e i : Expr} {te ti : TX} {p1 p2 : Pos} (hu : X.A.units + 1 < cLine) (he : GE X G W e te) (hi : GE X G W i ti) (hN : X.N[k]? = some x := by rfl) (hv : Vis X.env.scope x := by first | exact Or.inl rfl | exact Or.inr (Or.inl rfl) | exact Or.inr (Or.inr rfl)) (hd : (x == ("__debug__" : Str)) = false := by decide)
    (hcd : (x == ("__classdict__" : Str)) = false := by decide) (hs : swapsWith e (some (.Subscript (.Name x p1) i p2)) pos.line X.env = pure false := by rfl) : GS X G W (.Assign [.Subscript (.Name x p1) i p2] e pos) (sPut k te ti) := by
  obtain ⟨t1, q1, f1⟩ := he.ex
  obtain ⟨t2, q2, f2⟩ := hi.ex
  refine ⟨_, ps_dput hu (pe_var hN hv hd hcd) q2 q1 hs, fun σ H τ ow De wq Dh S h E => ?_⟩
  obtain ⟨hsl, h⟩ := h
  refine f1 σ H τ ow _ _ _ S h (fun v H1 d kd g r q => ?_) (E.wk S)
  have S1 := S.grow g
  have hv0 : ∃ a, σ[k]? = some (some (.ref a)) := by
    obtain ⟨kvs, e1 | ⟨kvs', e1⟩⟩ := hsl
    · obtain ⟨v, e2, a, xs, rfl, _⟩ := S.sl k _ e1; exact ⟨a, e2⟩
    · obtain ⟨v, e2, a, xs, rfl, _⟩ := S.sl k _ e1; exact ⟨a, e2⟩
  obtain ⟨a, ea⟩ := hv0
  refine ⟨.ref a, ea, f2 σ H1 τ ow _ _ _ S1 q (fun u H2 du ku g2 r2 q2 => ?_) ((E.wk S).grow g)⟩
  have S2 := S1.grow g2
  obtain ⟨kvs, e1 | ⟨kvs, e1⟩⟩ := hsl
  · obtain ⟨w, e2, a', xs, rfl, o, e3, t3⟩ := S2.sl k _ e1
    rw [ea] at e2
    cases e2
    rw [e1] at q2
    cases kd with
    | fz c =>
      obtain ⟨hc, hl, q2⟩ := q2
      cases ek : toKey du with
      | none => rw [ek] at q2; exact q2.elim
      | some key =>
        rw [ek] at q2
        have rd : DP X.K H2 (Fz G ow true) v d := fz_true hc (DP.grow S1 g2 S1.fzp (show DP X.K H1 (Fz G ow c) v d from r))
        have t4 := t3.put key rd
        obtain ⟨S3, f3⟩ := S2.putO (o' := .dK (putK xs key v)) (sl := .dK (putD kvs key d)) ea o (by rw [e3]; trivial) trivial ⟨a, _, rfl, o, upd_same, t4.past o (by rw [e3]; trivial)⟩
        exact ⟨a, _, rfl, key_put e3 r2.dpAny ek (by rw [t3.length]; exact hl), E.nx _ ow _ _ S3 (((g.trans g2).frs S).trans f3) q2⟩
    | _ => exact q2.elim
  · obtain ⟨w, e2, a', xs, rfl, o, e3, t3⟩ := S2.sl k _ e1
    rw [ea] at e2
    cases e2
    rw [e1] at q2
    cases du with
    | tuple ys =>
      cases kd with
      | fz c =>
        obtain ⟨hc, hl, q2⟩ := q2
        cases ek : toKeys ys with
        | none => rw [ek] at q2; exact q2.elim
        | some key =>
          rw [ek] at q2
          have rd : DP X.K H2 (Fz G ow true) v d := fz_true hc (DP.grow S1 g2 S1.fzp (show DP X.K H1 (Fz G ow c) v d from r))
          have t4 := t3.put key rd
          obtain ⟨S3, f3⟩ := S2.putO (o' := .dT (putK xs key v)) (sl := .dT (putD kvs key d)) ea o (by rw [e3]; trivial) trivial ⟨a, _, rfl, o, upd_same, t4.past o (by rw [e3]; trivial)⟩
          exact ⟨a, _, rfl, keys_put e3 r2.dpAny ek (by rw [t3.length]; exact hl), E.nx _ ow _ _ S3 (((g.trans g2).frs S).trans f3) q2⟩
      | _ => exact q2.elim
    | _ => cases kd <;> exact q2.elim
/-- key in x, key not in x; x[key] -/
def getSl : Option (Option Sl) → D → (Option D → Prop) → Prop
  | some (some (.dK kvs)), y, Q => (match toKey y with
    | some k => Q (valD kvs k)
    | none => False)
  | some (some (.dT kvs)), .tuple ys, Q => (match toKeys ys with
    | some k => Q (valD kvs k)
    | none => False)
  | _, _, _ => False
theorem Sim.dget {K : PySem.W.Frag} {τ : Slots} {ow : Ow} {σ : L2.St} {H : Hp} (S : Sim K G τ ow σ H) {k : Nat} {y : V} {dy : D} {P : Addr → Prop} {Q : Option D → Prop} (ry : DP K H P y dy) (h : getSl τ[k]? dy Q) :
    ∃ a r od, σ[k]? = some (some (.ref a)) ∧ DGet H a y r ∧ Q od ∧ ((r = none ∧ od = none) ∨ ∃ v d, r = some v ∧ od = some d ∧ DP K H (Fz G ow true) v d) := by
  cases e : τ[k]? with
  | none => rw [e] at h; exact h.elim
  | some o =>
    cases o with
    | none => rw [e] at h; exact h.elim
    | some s =>
      rw [e] at h
      obtain ⟨v, e1, q⟩ := S.sl k s e
      cases s with
      | fz d b => exact h.elim
      | own d b => exact h.elim
      | dK kvs =>
        obtain ⟨a, xs, rfl, o, e3, t3⟩ := q
        have h : (match toKey dy with
          | some k => Q (valD kvs k)
          | none => False) := h
        cases ek : toKey dy with
        | none => rw [ek] at h; exact h.elim
        | some key =>
          rw [ek] at h
          have g : DGet H a y (valV xs key) := by rw [toKey_dp ry ek]; exact .k e3
          refine ⟨a, _, _, e1, g, h, ?_⟩
          rcases t3.val key with ⟨h1, h2⟩ | ⟨v, d, h1, h2, h3⟩
          · exact .inl ⟨h1, h2⟩
          · exact .inr ⟨v, d, h1, h2, h3⟩
      | dT kvs =>
        obtain ⟨a, xs, rfl, o, e3, t3⟩ := q
        cases dy with
        | tuple ys =>
          have h : (match toKeys ys with
            | some k => Q (valD kvs k)
            | none => False) := h
          cases ek : toKeys ys with
          | none => rw [ek] at h; exact h.elim
          | some key =>
            rw [ek] at h
            have g : DGet H a y (valV xs key) := by
              cases ry with
              | tup eb t =>
                rw [toKeys_dp t ek] at eb
                exact .t e3 eb
            refine ⟨a, _, _, e1, g, h, ?_⟩
            rcases t3.val key with ⟨h1, h2⟩ | ⟨v, d, h1, h2, h3⟩
            · exact .inl ⟨h1, h2⟩
            · exact .inr ⟨v, d, h1, h2, h3⟩
        | _ => exact h.elim
      | reg φ => exact h.elim
def gDIn (neg : Bool) (k : Nat) (ti : TX) : TX := fun τ Q wq => ti τ (fun y _ => getSl τ[k]? y fun o => Q (.bool (neg ^^ o.isSome)) (.fz true)) wq
def gDGet (k : Nat) (ti : TX) : TX := fun τ Q wq => (∃ kvs, τ[k]? = some (some (.dK kvs)) ∨ ∃ kvs, τ[k]? = some (some (.dT kvs))) ∧ ti τ (fun y _ => getSl τ[k]? y fun o => match o with
  | some d => Q d (.fz true)
  | none => False) wq
theorem pe_ofPC {op : CmpOp} {a b : Expr} {t : TE} (h : PC X op a b t) (h1 : behindInMarks op b = false) : PE X (.Compare a [op] [b] pos) t := pe_cmp h h1
theorem ge_dIn (k : Nat) {x : Str} {i : Expr} {ti : TX} {p1 : Pos} (hu : X.A.units + 1 < cLine) (hi : GE X G W i ti) (hN : X.N[k]? = some x := by rfl) (hv : Vis X.env.scope x := by first | exact Or.inl rfl | exact Or.inr (Or.inl rfl) | exact Or.inr (Or.inr rfl)) (hd : (x == ("__debug__" : Str)) = false := by decide)
    (hcd : (x == ("__classdict__" : Str)) = false := by decide) (hb : behindInMarks .In (.Name x p1) = false := by rfl) : GE X G W (.Compare i [.In] [.Name x p1] pos) (gDIn false k ti) := by
  obtain ⟨te, q1, f1⟩ := hi.ex
  refine ⟨_, pe_ofPC (pc_din hu q1 (pe_var hN hv hd hcd)) hb, fun σ H τ ow Q wq Kt S h kt w => f1 σ H τ ow _ wq _ S h (fun y H1 dy ky g r q => ?_) w⟩
  obtain ⟨a, r, od, e1, gt, hq, hr⟩ := (S.grow g).dget r.dpAny q
  refine ⟨.ref a, e1, a, r, rfl, gt, ?_⟩
  have e : r.isSome = od.isSome := by rcases hr with ⟨rfl, rfl⟩ | ⟨v, d, rfl, rfl, _⟩ <;> rfl
  rw [e]
  exact kt _ _ (.bool _) _ g (RV.sc fun _ => .bl _) (by simpa using hq)
theorem ge_dNotIn (k : Nat) {x : Str} {i : Expr} {ti : TX} {p1 : Pos} (hu : X.A.units + 1 < cLine) (hi : GE X G W i ti) (hN : X.N[k]? = some x := by rfl) (hv : Vis X.env.scope x := by first | exact Or.inl rfl | exact Or.inr (Or.inl rfl) | exact Or.inr (Or.inr rfl)) (hd : (x == ("__debug__" : Str)) = false := by decide)
    (hcd : (x == ("__classdict__" : Str)) = false := by decide) (hb : behindInMarks .NotIn (.Name x p1) = false := by rfl) : GE X G W (.Compare i [.NotIn] [.Name x p1] pos) (gDIn true k ti) := by
  obtain ⟨te, q1, f1⟩ := hi.ex
  refine ⟨_, pe_ofPC (pc_dnotin hu q1 (pe_var hN hv hd hcd)) hb, fun σ H τ ow Q wq Kt S h kt w => f1 σ H τ ow _ wq _ S h (fun y H1 dy ky g r q => ?_) w⟩
  obtain ⟨a, r, od, e1, gt, hq, hr⟩ := (S.grow g).dget r.dpAny q
  refine ⟨.ref a, e1, a, r, rfl, gt, ?_⟩
  have e : r.isSome = od.isSome := by rcases hr with ⟨rfl, rfl⟩ | ⟨v, d, rfl, rfl, _⟩ <;> rfl
  rw [e]
  exact kt _ _ (.bool _) _ g (RV.sc fun _ => .bl _) (by simpa using hq)
theorem ge_dGet (k : Nat) {x : Str} {i : Expr} {ti : TX} {p1 : Pos} (hu : X.A.units + 1 < cLine) (hi : GE X G W i ti) (hN : X.N[k]? = some x := by rfl) (hs : NoSl i := by exact fun _ _ => rfl) (hv : Vis X.env.scope x := by first | exact Or.inl rfl | exact Or.inr (Or.inl rfl) | exact Or.inr (Or.inr rfl)) (hd : (x == ("__debug__" : Str)) = false := by decide)
    (hcd : (x == ("__classdict__" : Str)) = false := by decide) : GE X G W (.Subscript (.Name x p1) i pos) (gDGet k ti) := by
  obtain ⟨te, q1, f1⟩ := hi.ex
  refine ⟨_, pe_dget hu (pe_var hN hv hd hcd) q1 hs, fun σ H τ ow Q wq Kt S h kt w => ?_⟩
  obtain ⟨hsl, h⟩ := h
  have hv0 : ∃ a, σ[k]? = some (some (.ref a)) := by
    obtain ⟨kvs, e1 | ⟨kvs', e1⟩⟩ := hsl
    · obtain ⟨v, e2, a, xs, rfl, _⟩ := S.sl k _ e1; exact ⟨a, e2⟩
    · obtain ⟨v, e2, a, xs, rfl, _⟩ := S.sl k _ e1; exact ⟨a, e2⟩
  obtain ⟨a, ea⟩ := hv0
  refine ⟨.ref a, ea, f1 σ H τ ow _ wq _ S h (fun y H1 dy ky g r q => ?_) w⟩
  obtain ⟨a', r, od, e1, gt, hq, hr⟩ := (S.grow g).dget r.dpAny q
  rw [ea] at e1
  cases e1
  rcases hr with ⟨rfl, rfl⟩ | ⟨v, d, rfl, rfl, rd⟩
  · exact hq.elim
  · exact ⟨a, v, rfl, gt, kt _ _ d _ g (RV.ofFz rd) hq⟩
end
end TL

set_option maxHeartbeats 4000000
namespace TL
open PySem PySem.Spec PyProof.Rows L2
/-! ### a def from its body -/
def frzA : List D → Slots := fun ds => ds.map fun d => some (.fz d false)
/-- the slots at the entry -/
def ent (pool : Bool) (n : Nat) (ds : List D) : Slots := (if pool then [none] else []) ++ frzA ds ++ List.replicate (n - (ds.length + if pool then 1 else 0)) none
def ow0 (po : Option Addr) : Ow := fun a => if po = some a then some none else none
theorem frzA_len (ds : List D) : (frzA ds).length = ds.length := by simp [frzA]
theorem frzA_get {ds : List D} {i : Nat} {s : Sl} (h : (frzA ds)[i]? = some (some s)) : ∃ d, ds[i]? = some d ∧ s = .fz d false := by
  unfold frzA at h
  rw [List.getElem?_map] at h
  cases e : ds[i]? with
  | none => rw [e] at h; cases h
  | some d => rw [e] at h; cases h; exact ⟨d, rfl, rfl⟩
theorem sim_ent {K : PySem.W.Frag} {H : Hp} {po : Option Addr} {pq : Addr} {N : List Str} {us : List V} {ds : List D} {P : Addr → Prop} {R : Hp → V → PyData → Prop} (hl : us.length + (if po.isSome then 1 else 0) ≤ N.length) (hP : ∀ p, po = some p → PoolAt K H p pq) (hn : ∀ a, P a → po ≠ some a) (hd : DPs K H P us ds) :
    Sim K ⟨H, po, 0, pq, P, R⟩ (ent po.isSome N.length ds) (ow0 po) (L2.start N (addP po us)) H := by
  have on : ∀ {a : Addr}, po ≠ some a → ow0 po a = none := fun h => if_neg h
  have hd' : DPs K H (Fz ⟨H, po, 0, pq, P, R⟩ (ow0 po) false) us ds := hd.mono fun a h => ⟨on (hn a h), FzB.mk (fun z => nomatch z) (Or.inr h)⟩
  have el := hd.length
  refine ⟨?_, fun k s e => ?_, fun a k e => ?_, fun a o e n => ⟨e, on n⟩, fun p e => ?_, fun p e => ?_⟩
  · cases po with
    | none => simp [ent, L2.start, frzA_len, el, addP] at hl ⊢
    | some p => simp [ent, L2.start, frzA_len, el, addP] at hl ⊢
  · have core : ∀ (k : Nat), (frzA ds ++ List.replicate (N.length - (ds.length + if po.isSome then 1 else 0)) none)[k]? = some (some s) → ∃ v, us[k]? = some v ∧ SlOk K ⟨H, po, 0, pq, P, R⟩ (ow0 po) H k v s := fun k e => by
      by_cases hk : k < ds.length
      · rw [List.getElem?_append_left (by rw [frzA_len]; exact hk)] at e
        obtain ⟨d, e1, rfl⟩ := frzA_get e
        obtain ⟨v, e2, r⟩ := hd'.get e1
        exact ⟨v, e2, r⟩
      · rw [List.getElem?_append_right (by rw [frzA_len]; omega), List.getElem?_replicate] at e
        by_cases hh : k - (frzA ds).length < N.length - (ds.length + if po.isSome then 1 else 0)
        · rw [if_pos hh] at e; cases e
        · rw [if_neg hh] at e; cases e
    cases po with
    | none =>
      have e' : (frzA ds ++ List.replicate (N.length - (ds.length + if (none : Option Addr).isSome then 1 else 0)) none)[k]? = some (some s) := by simpa [ent] using e
      obtain ⟨v, e1, r⟩ := core k e'
      refine ⟨v, ?_, r⟩
      have hk : k < us.length := (List.getElem?_eq_some_iff.mp e1).1
      unfold L2.start addP
      rw [List.getElem?_append_left (by simpa using hk), List.getElem?_map, e1]; rfl
    | some p =>
      cases k with
      | zero => simp [ent] at e
      | succ k =>
        have e' : (frzA ds ++ List.replicate (N.length - (ds.length + if (some p : Option Addr).isSome then 1 else 0)) none)[k]? = some (some s) := by simpa [ent] using e
        obtain ⟨v, e1, r⟩ := core k e'
        have r' : SlOk K ⟨H, some p, 0, pq, P, R⟩ (ow0 (some p)) H (k + 1) v s := by
          cases s with
          | fz d b => exact r
          | own ds b => obtain ⟨a, xs, _, o, _⟩ := r; unfold ow0 at o; split at o <;> cases o
          | dK ds => obtain ⟨a, xs, _, o, _⟩ := r; unfold ow0 at o; split at o <;> cases o
          | dT ds => obtain ⟨a, xs, _, o, _⟩ := r; unfold ow0 at o; split at o <;> cases o
          | reg φ =>
            obtain ⟨A, hA, hφ, hl⟩ := r
            refine ⟨A, fun a ha => ?_, hφ, hl⟩
            have o := (hA a ha).1
            unfold ow0 at o
            split at o
            · cases o
            · cases o
        refine ⟨v, ?_, r'⟩
        have hk : k < us.length := (List.getElem?_eq_some_iff.mp e1).1
        unfold L2.start addP
        rw [List.getElem?_append_left (by simpa using hk), List.getElem?_map, List.getElem?_cons_succ, e1]; rfl
  · by_cases h : po = some a
    · obtain ⟨xs, q⟩ := (hP a h).ex
      rw [q]; trivial
    · rw [on h] at e; cases e
  · have hp := hP p e
    have e : po = some p := e
    obtain ⟨_, _, _, _, _, _, _, ne, _⟩ := id hp
    exact ⟨hp, if_pos e, on fun z => ne (by rw [e] at z; exact (Option.some.inj z).symm)⟩
  · have e : po = some p := e
    subst e
    rfl
section
variable {P : Program} {w : World} {K : PySem.W.Frag} {mg : Str → Option Value} {base : Heap}
/-- the context of the body of a def -/
abbrev cxD (P : Program) (w : World) (K : PySem.W.Frag) (mg : Str → Option Value) (base : Heap) (N : List Str) (qual : Str) (scope : Scope) (f : Addr) (cd : Value) (A : Around) (outer : List Env) (s : Shared) (H : Hp) (E : XK) : Cx := cxOf (L2.CX P w) P w K mg base N qual scope f cd A outer s H E
abbrev WD (E : XK) : WX := fun cls d _ H => E cls d H
theorem takesD {N : List Str} {qual : Str} {scope : Scope} {f : Addr} {cd : Value} {A : Around} {outer : List Env} {s : Shared} {H : Hp} {E : XK} : Takes (cxD P w K mg base N qual scope f cd A outer s H E) (WD E) := takes_of rfl rfl rfl rfl
theorem poD {N : List Str} {qual : Str} {scope : Scope} {f : Addr} {cd : Value} {A : Around} {outer : List Env} {s : Shared} {H : Hp} {E : XK} : PassesOwn (model P w) (cxD P w K mg base N qual scope f cd A outer s H E).A (cxD P w K mg base N qual scope f cd A outer s H E).env (cxD P w K mg base N qual scope f cd A outer s H E).xe := passes_of rfl
theorem def_ok {x qual : Str} {params : Arguments} {body : List Stmt} {scope : Scope} {dvs : List V} {kws : List (Str × V)} {f : Addr} {fd : FuncData} {N ps : List Str} {k n : Nat} {pool : Bool} {S : FSp} {t : TSt} (F : FunD K x qual params body scope dvs kws f fd) (Sc : FnScope N ps scope) (hn : ps.length = n + (if pool then 1 else 0))
    (hbody : ∀ (cd : Value) (A : Around) (outer : List Env) (s : Shared) (H : Hp) (E : XK) (po : Option Addr) (pq : Addr), Room k (A.deeper (envOfC qual scope s.heap.objs.size f cd)) → po.isSome = pool → GSs (cxD P w K mg base N qual scope f cd A outer s H E) ⟨H, po, 0, pq, fun a => po ≠ some a, RR K H⟩ (WD E) body t)
    (read : ∀ ds Qt Et, ds.length = n → S ds Qt Et → t { nx := fun _ => Qt .none, rt := fun d _ => Qt d } (fun nm _ => Et nm) (ent pool N.length ds)) : FnOk P w K mg base (L2.CX P w) (k + 1) f fd ps (spT K pool n S) := by
  refine F.ok Sc (fun vs H Q E h => by rw [h.len]; exact hn.symm) fun cd A outer s H vs Q E hr h => ?_
  obtain ⟨po, pq, us, ds, ev, ep, el, hP, hd, Qt, Et, hS, hQ, hE⟩ := h
  obtain ⟨ts, p1, f1⟩ := (hbody cd A outer s H E po pq hr ep).ex
  refine ⟨ts, p1, ?_⟩
  have hl : us.length + (if po.isSome then 1 else 0) ≤ N.length := by
    have h1 := congrArg List.length Sc.pre
    rw [List.length_take] at h1
    rw [ep, el]
    omega
  have S0 := sim_ent (pq := pq) (N := N) (P := fun a => po ≠ some a) (R := RR K H) hl hP (fun _ h => h) hd
  have rd := read ds Qt Et (by rw [← hd.length, el]) hS
  rw [← ep] at rd
  rw [ev]
  have up : ∀ {H' : Hp}, FinG K ⟨H, po, 0, pq, fun a => po ≠ some a, RR K H⟩ H' → Grow K (gh0 H po pq) H H' := fun g => ⟨fun a o e n => g.keep a o e n, fun p e _ => g.pool p e⟩
  exact f1 _ H _ (ow0 po) _ _ _ S0 rd ⟨fun τ' ow' σ' H' S' g' q => hQ .non H' .none (up S'.fin) (show DP K H' _ _ _ from .non) q, fun τ' ow' σ' H' S' g' q => q, fun τ' ow' σ' H' S' g' q => q, fun v τ' ow' σ' H' d S' r q => hQ v H' d (up S'.fin) r q, fun nm τ' ow' σ' H' S' g' q => hE nm H' (up S'.fin) q⟩
theorem def_okO {x qual : Str} {params : Arguments} {body : List Stmt} {scope : Scope} {dvs : List V} {kws : List (Str × V)} {f : Addr} {fd : FuncData} {N ps : List Str} {k n : Nat} {pool : Bool} {S : FSp} {t : TSt} (F : FunD K x qual params body scope dvs kws f fd) (Sc : FnScope N ps scope) (hn : ps.length = n + (if pool then 1 else 0))
    (hbody : ∀ (cd : Value) (A : Around) (outer : List Env) (s : Shared) (H : Hp) (E : XK) (po : Option Addr) (pq : Addr), Room k (A.deeper (envOfC qual scope s.heap.objs.size f cd)) → po.isSome = pool → ∀ P' : Addr → Prop, GSs (cxD P w K mg base N qual scope f cd A outer s H E) ⟨H, po, 0, pq, P', RO K H P'⟩ (WD E) body t)
    (read : ∀ ds Qt Et, ds.length = n → S ds Qt Et → t { nx := fun _ => Qt .none, rt := fun d _ => Qt d } (fun nm _ => Et nm) (ent pool N.length ds)) : FnOk P w K mg base (L2.CX P w) (k + 1) f fd ps (spO K pool n S) := by
  refine F.ok Sc (fun vs H Q E h => by rw [h.len]; exact hn.symm) fun cd A outer s H vs Q E hr h => ?_
  obtain ⟨po, pq, us, ds, P', ev, ep, el, hP, hn', hd, Qt, Et, hS, hQ, hE⟩ := h
  obtain ⟨ts, p1, f1⟩ := (hbody cd A outer s H E po pq hr ep P').ex
  refine ⟨ts, p1, ?_⟩
  have hl : us.length + (if po.isSome then 1 else 0) ≤ N.length := by
    have h1 := congrArg List.length Sc.pre
    rw [List.length_take] at h1
    rw [ep, el]
    omega
  have S0 := sim_ent (pq := pq) (N := N) (P := P') (R := RO K H P') hl hP hn' hd
  have rd := read ds Qt Et (by rw [← hd.length, el]) hS
  rw [← ep] at rd
  rw [ev]
  have up : ∀ {H' : Hp}, FinG K ⟨H, po, 0, pq, P', RO K H P'⟩ H' → Grow K (gh0 H po pq) H H' := fun g => ⟨fun a o e n => g.keep a o e n, fun p e _ => g.pool p e⟩
  exact f1 _ H _ (ow0 po) _ _ _ S0 rd ⟨fun τ' ow' σ' H' S' g' q => hQ .non H' .none (up S'.fin) (show DP K H' _ _ _ from .non) q, fun τ' ow' σ' H' S' g' q => q, fun τ' ow' σ' H' S' g' q => q, fun v τ' ow' σ' H' d S' r q => hQ v H' d (up S'.fin) r q, fun nm τ' ow' σ' H' S' g' q => hE nm H' (up S'.fin) q⟩
end
section
variable {X : Cx} {G : Gh} {W : WX} {pos : Pos}
/-! ### raise X('..') -/
def sRaise (nm : Str) : TSt := fun _ wq τ => wq nm τ
structure ExcOf (K : PySem.W.Frag) (mg : Str → Option Value) (nm : Str) : Prop where
  g : mg nm = some (.ref (He.ga K nm))
  q : PySem.W.excIn K (He.ga K nm) He.veBase "ValueError.__new__" = true
  k : PySem.W.keepIn K (.ref (He.ga K nm)) = true
  s : PySem.W.subIn K (.ref (He.ga K nm)) (.type "BaseException") = some true
  t : PySem.W.typeIn K (.ref (He.ga K nm)) = some (.type "type")
theorem gs_raise {x m : Str} {j : Nat} {p p2 p3 : Pos} (hc : X.calm = true) (tk : Takes X W) (e : ExcOf X.K X.mg x) (hg : Gl X x := by rfl) (hdb : (x == ("__debug__" : Str)) = false := by decide) : GS X G W (.Raise (some (.Call (.Name x p) [.Constant (.str m) j p2] [] p3)) none pos) (sRaise x) :=
  ⟨_, ps_raise hc tk (pmk_own PySem.F.excBase_ValueError e.q e.g e.k (raises_own e.s e.t) hg hdb), fun σ H τ ow De wq Dh S h E => E.ex x τ ow σ H S .refl h⟩
/-! ### try: .. except X: .. -/
/-- the exceptions' classes and the clause's: what is taken (yes), what goes on (no) -/
def sTry (x : Str) (tb tsu : TSt) : TSt := fun De wq τ => tb De (fun nm τ' => if nm = x then tsu De (fun _ _ => False) τ' else False) τ
theorem gs_try {x : Str} {b₀ : Stmt} {body suite : List Stmt} {np pos' : Pos} {tb tsu : TSt} (hs : X.stack = X.env :: X.outer) (hf : X.env.frame = some X.env.locals) (hc : Names X x (.ref (He.ga X.K x))) (hx : PySem.W.exmOne X.K (.ref (He.ga X.K x)) (.ref (He.ga X.K x)) = some true)
    (hb : ∀ (W' : WX) (pn : List (Addr × Obj)) (xe : Value → Shared → Prop), Takes (X.tr pn xe) W' → PassesOwn (model X.prog X.w) X.A X.env xe → GSs (X.tr pn xe) G W' body tb)
    (hsu : ∀ (a : Addr) (pn : List (Addr × Obj)), GSs (X.suite a pn) G WNo (b₀ :: suite) tsu) : GS X G W (.Try body [.ExceptHandler (some (.Name x np)) none (b₀ :: suite) pos'] [] [] pos) (sTry x tb tsu) := by
  let hbt : WX → TS := fun W' D σ H => ∀ pn xe, Takes (X.tr pn xe) W' → PassesOwn (model X.prog X.w) X.A X.env xe → ∃ ts, PSs (X.tr pn xe) body ts ∧ ts D σ H
  let hst : TS := fun D σ H => ∀ a pn, ∃ ts, PSs (X.suite a pn) (b₀ :: suite) ts ∧ ts D σ H
  refine ⟨_, ps_try_only (tb := hbt) (ts := fun _ _ _ => hst) (Wout := fun _ _ _ _ => False) hs hf hc takes0 (fun W' pn xe tk po => ⟨fun pins s σ H D I h => ?_⟩) (fun a oe cls d pn _ _ => ⟨fun pins s σ H D I h => ?_⟩), fun σ H τ ow De wq Dh S h E => ?_⟩
  · obtain ⟨ts, p, q⟩ := h pn xe tk po
    exact p.run pins s σ H D I q
  · obtain ⟨ts, p, q⟩ := h a ((a, oe) :: pn)
    exact p.run pins s σ H D I q
  · intro pn xe tk po
    obtain ⟨ts, p, f⟩ := (hb _ pn xe tk po).ex
    refine ⟨ts, p, f σ H τ ow De _ Dh S h ⟨E.nx, E.bk, E.ct, E.rt, fun nm τ' ow' σ' H' S' g' q => ?_⟩⟩
    by_cases e : nm = x
    · subst e
      rw [if_pos rfl] at q
      refine ⟨true, hx, fun _ a _ a' pn' => ?_, fun z => by cases z⟩
      obtain ⟨ts', p', f'⟩ := (hsu a' pn').ex
      have E' := E.frs g'
      exact ⟨ts', p', f' σ' H' τ' ow' De (fun _ _ => False) Dh S' q ⟨E'.nx, E'.bk, E'.ct, E'.rt, fun _ _ _ _ _ _ _ z => z⟩⟩
    · rw [if_neg e] at q; exact q.elim
end
end TL

set_option maxHeartbeats 4000000
namespace TL
open PySem PySem.Spec PyProof.Rows L2
/-- Python's order of data -/
def dLe : D → D → Bool := PySem.W.dataLe false id
theorem paired_split {α β : Type} {R : α → β → Prop} : ∀ {xs : List α} {ys : List β}, Paired R xs ys → ∃ zs : List (α × β), xs = zs.map (·.1) ∧ ys = zs.map (·.2) ∧ ∀ z ∈ zs, R z.1 z.2
  | _, _, .nil => ⟨[], rfl, rfl, fun _ h => by simp at h⟩
  | x :: xs, y :: ys, .cons h t => by
    obtain ⟨zs, e1, e2, hz⟩ := paired_split t
    exact ⟨(x, y) :: zs, by simp [e1], by simp [e2], fun z hm => by
      rcases List.mem_cons.mp hm with e | hm
      · subst e; exact h
      · exact hz z hm⟩
theorem paired_join {α β : Type} {R : α → β → Prop} : ∀ {zs : List (α × β)}, (∀ z ∈ zs, R z.1 z.2) → Paired R (zs.map (·.1)) (zs.map (·.2))
  | [], _ => .nil
  | z :: zs, h => .cons (h z List.mem_cons_self) (paired_join fun y hy => h y (List.mem_cons_of_mem _ hy))
theorem dps_paired {K : PySem.W.Frag} {H : Hp} {P : Addr → Prop} : ∀ {vs : List V} {ds : List D}, DPs K H P vs ds → Paired (DP K H P) vs ds
  | _, _, .nil => .nil
  | _, _, .cons h t => .cons h (dps_paired t)
theorem paired_dps {K : PySem.W.Frag} {H : Hp} {P : Addr → Prop} : ∀ {vs : List V} {ds : List D}, Paired (DP K H P) vs ds → DPs K H P vs ds
  | _, _, .nil => .nil
  | _, _, .cons h t => .cons h (paired_dps t)
/-- what can be sorted -/
def SortOk (ds : List D) : Prop := PySem.W.AllAlike ds ∧ PySem.W.Sortable ds ∧ ∀ d ∈ ds, d.depth ≤ 60
mutual
theorem nd_alike : ∀ {d : D}, PySem.W.alike d d = true → nd d = true
  | .none, _ => rfl
  | .bool _, _ => rfl
  | .int _, _ => rfl
  | .str _, _ => rfl
  | .list ds, h => by
    simp only [nd]
    exact ndAll_alike (by simpa [PySem.W.alike] using h)
  | .tuple ds, h => by
    simp only [nd]
    exact ndAll_alike (by simpa [PySem.W.alike] using h)
  | .dict _, h => by simp [PySem.W.alike] at h
theorem ndAll_alike : ∀ {ds : List D}, PySem.W.alikeAll ds ds = true → nd.ndAll ds = true
  | [], _ => rfl
  | d :: ds, h => by
    have h' : PySem.W.alike d d = true ∧ PySem.W.alikeAll ds ds = true := by simpa [PySem.W.alikeAll] using h
    simp only [nd.ndAll, nd_alike h'.1, ndAll_alike h'.2, Bool.and_self]
end
theorem nd_alikes {ds : List D} (h : PySem.W.AllAlike ds) {d : D} (m : d ∈ ds) : nd d = true := nd_alike (h d m d m)
theorem map_sortG {α : Type} (f : α → D) (l : List α) : (l.mergeSort (PySem.W.dataLe false f)).map f = (l.map f).mergeSort dLe :=
  List.map_mergeSort fun _ _ _ _ => rfl
theorem map_sort2 {α : Type} (zs : List (α × D)) : (zs.mergeSort (PySem.W.dataLe false fun z : α × D => z.2)).map (fun z => z.2) = (zs.map (fun z => z.2)).mergeSort dLe := map_sortG _ zs
theorem each_vals {α : Type} {f : α → V} : ∀ {vs : List Value} {bs : List α}, PySem.W.EachIs (fun v b => RelV (f b) v) vs bs → Vals (bs.map f) vs
  | _, _, .nil => .nil
  | _, _, .cons h t => .cons h (each_vals t)
theorem vals_each {α : Type} {f : α → V} : ∀ {vs : List Value} {bs : List α}, Vals (bs.map f) vs → PySem.W.EachIs (fun v b => RelV (f b) v) vs bs
  | [], [], .nil => .nil
  | _ :: _, _ :: _, .cons h t => .cons h (vals_each t)
theorem each_memAll {α : Type} {R : Value → α → Prop} {S : Value → α → Prop} : ∀ {vs : List Value} {bs : List α}, PySem.W.EachIs R vs bs → (∀ b ∈ bs, ∀ v, R v b → S v b) → PySem.W.EachIs S vs bs
  | _, _, .nil, _ => .nil
  | _, _, .cons h t, k => .cons (k _ List.mem_cons_self _ h) (each_memAll t fun b hb => k b (List.mem_cons_of_mem _ hb))
/-- sorted(xs) -/
def rSortD (K : PySem.W.Frag) : List V → Hp → VK → Prop := fun vs H Q => ∃ (a : Addr) (zs : List (V × D)), vs = [V.ref a] ∧ SqL K H a (zs.map (·.1)) ∧ (∀ z ∈ zs, Dp K H z.1 z.2) ∧ SortOk (zs.map (·.2)) ∧
  ∀ (ys : List (V × D)) (p : Addr), ys.Perm zs → ys.map (·.2) = (zs.map (·.2)).mergeSort dLe → H p = none → Q (.ref p) (upd H p (.lst (ys.map (·.1))))
section
variable {X : Cx} {G : Gh} {W : WX} {pos : Pos}
theorem call_sortD (hu : X.A.units + 65 < cLine) : CallR X (.builtin "sorted") (rSortD X.K) := by
  intro pins s σ H vs us Q I r h
  obtain ⟨a, zs, rfl, hs, hz, ok, q⟩ := h
  obtain ⟨its, rv, hl, hsz⟩ := I.list hs
  rw [Vals.ref1 r]
  have he := vals_each rv
  have hsz' : zs.length ≤ sizeLine := by rw [← List.length_map (f := fun z : V × D => z.1)]; exact hsz
  refine PySem.W.sorted_data (bs := zs) (enc := fun z => z.2) (R := fun v z => RelV z.1 v) hl.isList he (each_memAll he fun b hb v hv => ?_) ok.1 ok.2.1 hsz' (fun b hb => ?_) fun out h1 h2 => ?_
  · obtain ⟨as, r⟩ := Dp.reads I b.2 b.1 v (hz b hb) hv
    exact ⟨as, r⟩
  · have := ok.2.2 b.2 (List.mem_map.mpr ⟨b, hb, rfl⟩)
    omega
  · obtain ⟨ep, he'⟩ := PyProof.Rows.sortedAll_at s.heap its out.toArray
    have hlen : ((zs.mergeSort (PySem.W.dataLe false fun z : V × D => z.2)).map (fun z => z.1)).length ≤ sizeLine := by
      rw [List.length_map, (List.mergeSort_perm _ _).length_eq]; exact hsz'
    exact ⟨.ref _, upd H (s.heap.objs.size + 1) (.lst _), I.laid (t' := s.toks) (fun _ _ => PyProof.Rows.sortedAll_old) (Nat.le_succ _) ⟨hlen, out, ep, each_vals h2, he'⟩, rfl,
      q _ _ (List.mergeSort_perm _ _) (map_sort2 zs) (I.hok.fresh (Nat.le_succ _))⟩
def fSorted : List (D × Kd) → QD → Prop
  | [(.list ds, kd)], Q => SortOk ds ∧ Q (.list (ds.mergeSort dLe)) (.nw kd.b)
  | _, _ => False
theorem cg_sorted : CalG X G (rSortD X.K) fSorted := by
  intro σ H1 H τ ow vs ds Q Kt S gr r hf k
  unfold fSorted at hf
  split at hf
  · rename_i l kd e
    cases r with
    | cons r1 t =>
      cases t
      obtain ⟨a, xs, rfl, e1, t1⟩ := r1.lst
      obtain ⟨zs, ex, ed, hz⟩ := paired_split (dps_paired t1)
      subst ex ed
      refine ⟨a, zs, rfl, .of e1, fun z hm => (hz z hm).dp (nd_alikes hf.1.1 (List.mem_map.mpr ⟨z, hm, rfl⟩)), hf.1, fun ys p hp hy hn => ?_⟩
      refine k _ _ _ _ (Grow.upd hn) (RV.new S gr hn ?_) hf.2
      rw [← hy]
      exact paired_dps (paired_join fun z hm => hz z (hp.mem_iff.mp hm))
  · exact hf.elim
theorem ge_sorted {e : Expr} {p : Pos} {t : TXs} (hu : X.A.units + 65 < cLine) (hm : X.mg "sorted" = none) (ha : GA X G W [e] t) (hg : Gl X "sorted" := by rfl) (he : starEach [e] X.env = (false, eval e X.env) :: starEach [] X.env := by rfl) : GE X G W (.Call (.Name "sorted" p) [e] [] pos) (gCall fSorted t) :=
  ge_callB (call_sortD hu) cg_sorted ha hm (by decide +kernel) hg (by decide) (by decide) he
/-! ### sorted(x), x a dict with tuples as keys -/
theorem reads_keys {h : Heap} : ∀ {ks : List Key} {its : List Value}, Vals (ks.map kV) its → ReadsAll h its (ks.map keyD) []
  | [], [], .nil => .nil
  | .inl i :: ks, u :: us, .cons r t => by
    obtain ⟨tk, rfl⟩ := (show ∃ t, u = Value.int i t from r)
    exact ReadsAll.cons (as := []) (bs := []) (.int i tk) (reads_keys t)
  | .inr z :: ks, u :: us, .cons r t => by
    obtain ⟨tk, rfl⟩ := (show ∃ t, u = Value.str z t from r)
    exact ReadsAll.cons (as := []) (bs := []) (.str z tk) (reads_keys t)
/-- sorted(d): the keys' tuples -/
def rSortDT : List V → Hp → VK → Prop := fun vs H Q => ∃ (a : Addr) (kvs : List (List Key × V)), vs = [V.ref a] ∧ Rd H a (.dT kvs) ∧ SortOk (kvs.map fun kv => tupD kv.1) ∧
  ∀ (ys : List (Addr × List Key)) (p : Addr), (∀ y ∈ ys, H y.1 = some (.tup (y.2.map kV))) → ys.map (fun y => tupD y.2) = (kvs.map fun kv => tupD kv.1).mergeSort dLe → H p = none → Q (.ref p) (upd H p (.lst (ys.map fun y => V.ref y.1)))
theorem each_refs {bs : List (Addr × List Key)} : PySem.W.EachIs (fun v b => v = Value.ref b.1) (bs.map fun b => Value.ref b.1) bs := by
  induction bs with
  | nil => exact .nil
  | cons b bs ih => exact .cons rfl ih
theorem call_sortDT (hc : X.calm = true) (hu : X.A.units + 65 < cLine) : CallR X (.builtin "sorted") rSortDT := by
  intro pins s σ H vs us Q I r h
  obtain ⟨d, kvs, rfl, hd, ok, q⟩ := h
  obtain ⟨u, rfl, rx⟩ := r.one
  cases rx
  obtain ⟨z, hs, ks, pr, o, es, ep, ho, hx, hdt, he, hn⟩ := (show ObjOk X.prog X.w H s.heap d (.dT kvs) from hd.ok I.hok)
  have l1 : es.size = ks.length := size_of_entries he
  have l2 : kvs.length = ks.length := Paired.length pr
  refine Calls.call_function_entry PyProof.Rows.kind_sorted PyProof.Rows.plain_sorted PyProof.Rows.entry_sorted (PyProof.Rows.args_sorted1 _) ?_
  unfold Builtin.«sorted»
  refine wpAny_bind (m := checkCount "sorted" 1 1 _) (wpAny_pure ?_)
  refine wpAny_bind (PySem.W.kdu_collect (A := X.A.in1) (kdl_raw hs hx hdt) (I.ok.hd hc) ho (by omega) fun h' tk acc hk hacc => ?_)
  let bs : List (Addr × List Key) := ks.map fun x => (x.2.1, x.1)
  have ea : acc.toList = bs.map fun b => Value.ref b.1 := by
    have hl : acc.toList.length = ks.length := by rw [Array.length_toList, hacc.1]; exact l1
    apply List.ext_getElem?
    intro j
    rw [List.getElem?_map, List.getElem?_map]
    cases hj : acc.toList[j]? with
    | none =>
      have h1 := List.getElem?_eq_none_iff.mp hj
      rw [List.getElem?_eq_none (by omega)]
      rfl
    | some v =>
      obtain ⟨en, hen, hv⟩ := hacc.2 j v (by rw [← Array.getElem?_toList]; exact hj)
      have qe := entry_at he j
      rw [hen] at qe
      cases hb : ks[j]? with
      | none =>
        rw [hb] at qe
        exact nomatch (show some en = none from qe)
      | some b =>
        rw [hb] at qe
        have e2 : en = entryOfKey (tupleKind (mixKind X.prog X.w)) b := Option.some.inj qe
        rw [hv, e2]
        rfl
  have hal : acc.toList.length = kvs.length := by rw [ea]; simp [bs, l2]
  have hkey : bs.map (fun b => tupD b.2) = kvs.map fun kv => tupD kv.1 := by
    obtain ⟨ws, e1, e2, hw⟩ := paired_split pr
    subst e1 e2
    simp only [bs, List.map_map]
    refine List.map_congr_left fun w hm => ?_
    show tupD w.2.1 = tupD w.1.1
    rw [(hw w hm).1]
  have hH : ∀ b ∈ bs, H b.1 = some (.tup (b.2.map kV)) := fun b hb => by
    obtain ⟨ws, e1, e2, hw⟩ := paired_split pr
    subst e1 e2
    obtain ⟨x, hx, rfl⟩ := List.mem_map.mp hb
    obtain ⟨w, hm, rfl⟩ := List.mem_map.mp hx
    have := (hw w hm).2.1
    rw [(hw w hm).1] at this
    exact this
  have I1 : Inv X pins σ H { s with heap := h', toks := tk } := I.kept hk
  refine wpAny_bind (wpAny_newList ?_ (by rw [hal]; exact z))
  have hoL : (h'.push (seqObj "list" acc.toList.toArray 0)).get? h'.objs.size = some (seqObj "list" acc.toList.toArray 0) := Heap.get?_push_size _ rfl
  show wpAny _ _ _ _ _ { s with heap := h'.push (seqObj "list" acc.toList.toArray 0), toks := tk }
  have hE : PySem.W.EachIs (fun v b => v = Value.ref b.1) acc.toList bs := by rw [ea]; exact each_refs
  refine wpAny_bind (wpAny_holding (wpAny_mono (PySem.W.list_sort_data (s := { s with heap := h'.push (seqObj "list" acc.toList.toArray 0), toks := tk }) (vs := acc.toList) (bs := bs) (enc := fun b => tupD b.2) (R := fun v b => v = Value.ref b.1 ∧ b ∈ bs)
    (Q := fun _ s' => ∃ ys : List (Addr × List Key), ∃ out : List Value, ∃ n, out = ys.map (fun y => Value.ref y.1) ∧ (∀ y ∈ ys, y ∈ bs) ∧ ys.map (fun y => tupD y.2) = (bs.map fun b => tupD b.2).mergeSort dLe ∧ ys.length = bs.length ∧
      s'.heap.get? h'.objs.size = some (seqObj "list" out.toArray n) ∧ (∀ b o, h'.get? b = some o → s'.heap.get? b = some o) ∧ s' = { s with heap := s'.heap, toks := tk })
    hoL (each_memAll hE fun b hb v hv => ⟨hv, hb⟩) (each_memAll hE fun b hb v hv => ?_) (by rw [hkey]; exact ok.1) (by rw [hkey]; exact ok.2.1) (by simp only [bs, List.length_map]; omega) (fun b hb => ?_) fun out g1 g2 => ?_) (fun v s' x => ?_) fun _ _ e => e))
  · subst hv
    obtain ⟨_, its, rvt, hT⟩ := I1.hok _ _ (hH b hb)
    obtain ⟨o2, ho2, hc2, n2, hd2⟩ := hT
    refine ⟨[], .tuple (Heap.get?_push_of_some _ ho2) hc2 hd2 (by simpa using reads_keys rvt), by simp⟩
  · have := ok.2.2 (tupD b.2) (by rw [← hkey]; exact List.mem_map.mpr ⟨b, hb, rfl⟩)
    show X.A.in1.units + 1 + _ < _
    have e : X.A.in1.units = X.A.units + 1 := rfl
    omega
  · obtain ⟨e', he'⟩ := PyProof.Rows.sortedHeap_at (vs := acc.toList) (out := out.toArray) hoL
    refine ⟨bs.mergeSort (PySem.W.dataLe false fun b => tupD b.2), out, e', ?_, fun y hy => (List.mergeSort_perm _ _).mem_iff.mp hy, map_sortG _ _, (List.mergeSort_perm _ _).length_eq, he', fun b o e => ?_, rfl⟩
    · have hv : ∀ {vs : List Value} {cs : List (Addr × List Key)}, PySem.W.EachIs (fun v b => v = Value.ref b.1 ∧ b ∈ bs) vs cs → vs = cs.map fun y => Value.ref y.1 := by
        intro vs cs h
        induction h with
        | nil => rfl
        | cons h t ih => rw [List.map_cons, h.1, ih]
      exact hv g2
    · have hb : b < h'.objs.size := Heap.lt_size e
      rw [PyProof.Rows.sortedHeap_old (Nat.ne_of_lt hb) (by rw [size_push']; exact Nat.lt_succ_of_lt hb)]
      exact Heap.get?_push_of_some _ e
  · obtain ⟨ys, out, n, rfl, hy, hm, hl, hg, hold, es'⟩ := x
    rw [es']
    have hlen : (ys.map fun y => V.ref y.1).length ≤ sizeLine := by rw [List.length_map, hl]; simp only [bs, List.length_map]; omega
    have rvs : Vals (ys.map fun y => V.ref y.1) (ys.map fun y => Value.ref y.1) := by
      clear hl hm hg hlen es' hy
      induction ys with
      | nil => exact .nil
      | cons y ys ih => exact .cons rfl ih
    exact wpAny_pure ⟨_, rfl, .ref h'.objs.size, upd H h'.objs.size (.lst (ys.map fun y => V.ref y.1)), I1.laid (t' := tk) hold (Nat.le_refl _)
      (show ObjOk X.prog X.w _ _ _ (.lst _) from ⟨hlen, _, n, rvs, hg⟩), rfl, q ys _ (fun y h => hH y (hy y h)) (hm.trans (by rw [hkey])) (I1.hok.fresh (Nat.le_refl _))⟩
def gSortT (k : Nat) : TX := fun τ Q _ => ∃ kvs, τ[k]? = some (some (.dT kvs)) ∧ SortOk (kvs.map fun kv => tupD kv.1) ∧ Q (.list ((kvs.map fun kv => tupD kv.1).mergeSort dLe)) (.nw true)
theorem ge_sortT (k : Nat) {x : Str} {p p2 : Pos} (hc : X.calm = true) (hu : X.A.units + 65 < cLine) (hm : X.mg "sorted" = none) (hg : Gl X "sorted" := by rfl) (hN : X.N[k]? = some x := by rfl) (hv : Vis X.env.scope x := by first | exact Or.inl rfl | exact Or.inr (Or.inl rfl) | exact Or.inr (Or.inr rfl)) (hd : (x == ("__debug__" : Str)) = false := by decide)
    (hcd : (x == ("__classdict__" : Str)) = false := by decide) (he : starEach [.Name x p2] X.env = (false, eval (.Name x p2) X.env) :: starEach [] X.env := by rfl) : GE X G W (.Call (.Name "sorted" p) [.Name x p2] [] pos) (gSortT k) := by
  refine ⟨_, pe_callB (call_sortDT hc hu) hg hm (by decide +kernel) (pa_cons (pe_var hN hv hd hcd) pa_nil he) (by decide) (by decide) he rfl, fun σ H τ ow Q wq Kt S h kt w => ?_⟩
  obtain ⟨kvs, e1, ok, h⟩ := h
  obtain ⟨v, e2, a, xs, rfl, o, e3, t3⟩ := S.sl k _ e1
  have ek : xs.map (fun kv => tupD kv.1) = kvs.map fun kv => tupD kv.1 := by
    obtain ⟨ws, z1, z2, hw⟩ := paired_split t3
    subst z1 z2
    rw [List.map_map, List.map_map]
    refine List.map_congr_left fun w hm => ?_
    show tupD w.1.1 = tupD w.2.1
    rw [(hw w hm).1]
  refine ⟨.ref a, e2, a, xs, rfl, .inl e3, by rw [ek]; exact ok, fun ys p hy hm hn => ?_⟩
  rw [ek] at hm
  refine kt _ _ _ _ (Grow.upd hn) (RV.new S Grow.refl hn ?_) h
  rw [← hm]
  have kk : ∀ {P : Addr → Prop} (ks : List Key), DPs X.K H P (ks.map kV) (ks.map keyD) := by
    intro P ks
    induction ks with
    | nil => exact .nil
    | cons c ks ih =>
      cases c with
      | inl i => exact .cons (.int i) ih
      | inr z => exact .cons (.str z) ih
  clear hm
  induction ys with
  | nil => exact .nil
  | cons y ys ih => exact .cons (.tup (hy y List.mem_cons_self) (kk _)) (ih fun z hz => hy z (List.mem_cons_of_mem _ hz))
end
end TL

set_option maxHeartbeats 4000000
namespace TL
open PySem PySem.Spec PyProof.Rows L2
/-- a def of the text keeps its promise -/
structure Pr (P : Program) (w : World) (K : PySem.W.Frag) (mg : Str → Option Value) (base : Heap) (k : Nat) (x : Str) (n : Nat) (pool : Bool) (S : FSp) : Prop where
  ex : ∃ (f : Addr) (fd : FuncData) (ps : List Str), FnOk P w K mg base (L2.CX P w) k f fd ps (spT K pool n S) ∧ mg x = some (.ref f) ∧ PySem.W.keepIn K (.ref f) = true ∧ Binds K fd ps []
section
variable {X : Cx} {G : Gh} {W : WX} {pos : Pos}
theorem ge_call {e : Expr} {es : List Expr} {x : Str} {p : Pos} {k n : Nat} {S : FSp} {t : TXs} (F : Pr X.prog X.w X.K X.mg X.base k x n false S) (hr : Room k X.A) (tk : Takes X W) (ha : GA X G W (e :: es) t) (hn : (e :: es).length = n := by rfl) (hg : Gl X x := by rfl) (hdb : (x == ("__debug__" : Str)) = false := by decide)
    (he : starEach (e :: es) X.env = (false, eval e X.env) :: starEach es X.env := by rfl) (hpl : (backTo pos (starEach es X.env)).any (·.1) = false := by rfl) : GE X G W (.Call (.Name x p) (e :: es) [] pos) (gFn S t) := by
  obtain ⟨f, fd, ps, h1, h2, h3, h4⟩ := F.ex
  exact ge_fn h1 hr tk h2 h3 h4 ha hn hg hdb he hpl
theorem ge_callP {es : List Expr} {x y : Str} {p py : Pos} {k n : Nat} {S : FSp} {t : TXs} (F : Pr X.prog X.w X.K X.mg X.base k x n true S) (hr : Room k X.A) (tk : Takes X W) (hP : ∃ q, G.pool = some q) (hN : X.N[G.ps]? = some y) (ha : GA X G W es t) (hn : es.length = n := by rfl) (hv : Vis X.env.scope y := by first | exact Or.inl rfl | exact Or.inr (Or.inl rfl) | exact Or.inr (Or.inr rfl)) (hg : Gl X x := by rfl) (hdb : (x == ("__debug__" : Str)) = false := by decide)
    (hd2 : (y == ("__debug__" : Str)) = false := by decide) (hcd : (y == ("__classdict__" : Str)) = false := by decide)
    (he : starEach (.Name y py :: es) X.env = (false, eval (.Name y py) X.env) :: starEach es X.env := by rfl) (hpl : (backTo pos (starEach es X.env)).any (·.1) = false := by rfl) : GE X G W (.Call (.Name x p) (.Name y py :: es) [] pos) (gFn S t) := by
  obtain ⟨f, fd, ps, h1, h2, h3, h4⟩ := F.ex
  exact ge_fnP h1 hr tk h2 h3 h4 hP hN ha hn hv hg hdb hd2 hcd he hpl
end
section
variable {P : Program} {w : World} {K : PySem.W.Frag} {mg : Str → Option Value} {base : Heap}
theorem Pr.of {x : Str} {params : Arguments} {body : List Stmt} {scope : Scope} {f : Addr} {fd : FuncData} {N : List Str} (ps : List Str) {k n : Nat} {pool : Bool} {S : FSp} {t : TSt} (F : FunD K x x params body scope [] [] f fd) (hm : mg x = some (.ref f)) (Sc : FnScope N ps scope)
    (hb : ∀ (kV doc pm : Value) (an : Option Addr) (cdv ct : Value) (us : List Value), us.length = ps.length → bindArgs (PySem.W.fnOf x x params body scope .none kV doc pm an cdv ct) ⟨us, []⟩ = pure (ps.zip us))
    (hn : ps.length = n + (if pool then 1 else 0))
    (hbody : ∀ (cd : Value) (A : Around) (outer : List Env) (s : Shared) (H : Hp) (E : XK) (po : Option Addr) (pq : Addr), Room k (A.deeper (envOfC x scope s.heap.objs.size f cd)) → po.isSome = pool → GSs (cxD P w K mg base N x scope f cd A outer s H E) ⟨H, po, 0, pq, fun a => po ≠ some a, RR K H⟩ (WD E) body t)
    (read : ∀ ds Qt Et, ds.length = n → S ds Qt Et → t { nx := fun _ => Qt .none, rt := fun d _ => Qt d } (fun nm _ => Et nm) (ent pool N.length ds)) : Pr P w K mg base (k + 1) x n pool S :=
  ⟨f, fd, ps, def_ok F Sc hn hbody read, hm, F.kp, F.bindsN hb⟩

theorem Pr.vac {x : Str} {params : Arguments} {body : List Stmt} {scope : Scope} {f : Addr} {fd : FuncData} (ps : List Str) {k n : Nat} {pool : Bool} {S : FSp} (F : FunD K x x params body scope [] [] f fd) (hm : mg x = some (.ref f))
    (hb : ∀ (kV doc pm : Value) (an : Option Addr) (cdv ct : Value) (us : List Value), us.length = ps.length → bindArgs (PySem.W.fnOf x x params body scope .none kV doc pm an cdv ct) ⟨us, []⟩ = pure (ps.zip us))
    (no : ∀ ds Q E, S ds Q E → False) : Pr P w K mg base k x n pool S := by
  have no2 : ∀ vs H Q E, spT K pool n S vs H Q E → False := fun vs H Q E h => by
    obtain ⟨po, pq, us, ds, _, _, _, _, _, Qt, Et, hS, _⟩ := h
    exact no ds Qt Et hS
  exact ⟨f, fd, ps, ⟨fun vs H Q E h => (no2 vs H Q E h).elim, fun A outer s H args us vs Q E _ _ _ _ h => (no2 vs H Q E h).elim⟩, hm, F.kp, F.bindsN hb⟩
/-- a def of the text that may give parts of its arguments keeps its promise -/
structure PrO (P : Program) (w : World) (K : PySem.W.Frag) (mg : Str → Option Value) (base : Heap) (k : Nat) (x : Str) (n : Nat) (pool : Bool) (S : FSp) : Prop where
  ex : ∃ (f : Addr) (fd : FuncData) (ps : List Str), FnOk P w K mg base (L2.CX P w) k f fd ps (spO K pool n S) ∧ mg x = some (.ref f) ∧ PySem.W.keepIn K (.ref f) = true ∧ Binds K fd ps []
end
section
variable {X : Cx} {G : Gh} {W : WX} {pos : Pos}
theorem ge_callO {e : Expr} {es : List Expr} {x : Str} {p : Pos} {k n : Nat} {S : FSp} {t : TXs} (F : PrO X.prog X.w X.K X.mg X.base k x n false S) (hr : Room k X.A) (tk : Takes X W) (ha : GA X G W (e :: es) t) (hn : (e :: es).length = n := by rfl) (hg : Gl X x := by rfl) (hdb : (x == ("__debug__" : Str)) = false := by decide)
    (he : starEach (e :: es) X.env = (false, eval e X.env) :: starEach es X.env := by rfl) (hpl : (backTo pos (starEach es X.env)).any (·.1) = false := by rfl) : GE X G W (.Call (.Name x p) (e :: es) [] pos) (gFnO S t) := by
  obtain ⟨f, fd, ps, h1, h2, h3, h4⟩ := F.ex
  exact ge_fnO h1 hr tk h2 h3 h4 ha hn hg hdb he hpl
theorem ge_callPO {es : List Expr} {x y : Str} {p py : Pos} {k n : Nat} {S : FSp} {t : TXs} (F : PrO X.prog X.w X.K X.mg X.base k x n true S) (hr : Room k X.A) (tk : Takes X W) (hP : ∃ q, G.pool = some q) (hN : X.N[G.ps]? = some y) (ha : GA X G W es t) (hn : es.length = n := by rfl) (hv : Vis X.env.scope y := by first | exact Or.inl rfl | exact Or.inr (Or.inl rfl) | exact Or.inr (Or.inr rfl)) (hg : Gl X x := by rfl) (hdb : (x == ("__debug__" : Str)) = false := by decide)
    (hd2 : (y == ("__debug__" : Str)) = false := by decide) (hcd : (y == ("__classdict__" : Str)) = false := by decide)
    (he : starEach (.Name y py :: es) X.env = (false, eval (.Name y py) X.env) :: starEach es X.env := by rfl) (hpl : (backTo pos (starEach es X.env)).any (·.1) = false := by rfl) : GE X G W (.Call (.Name x p) (.Name y py :: es) [] pos) (gFnO S t) := by
  obtain ⟨f, fd, ps, h1, h2, h3, h4⟩ := F.ex
  exact ge_fnPO h1 hr tk h2 h3 h4 hP hN ha hn hv hg hdb hd2 hcd he hpl
end
section
variable {P : Program} {w : World} {K : PySem.W.Frag} {mg : Str → Option Value} {base : Heap}
theorem PrO.of {x : Str} {params : Arguments} {body : List Stmt} {scope : Scope} {f : Addr} {fd : FuncData} {N : List Str} (ps : List Str) {k n : Nat} {pool : Bool} {S : FSp} {t : TSt} (F : FunD K x x params body scope [] [] f fd) (hm : mg x = some (.ref f)) (Sc : FnScope N ps scope)
    (hb : ∀ (kV doc pm : Value) (an : Option Addr) (cdv ct : Value) (us : List Value), us.length = ps.length → bindArgs (PySem.W.fnOf x x params body scope .none kV doc pm an cdv ct) ⟨us, []⟩ = pure (ps.zip us))
    (hn : ps.length = n + (if pool then 1 else 0))
    (hbody : ∀ (cd : Value) (A : Around) (outer : List Env) (s : Shared) (H : Hp) (E : XK) (po : Option Addr) (pq : Addr), Room k (A.deeper (envOfC x scope s.heap.objs.size f cd)) → po.isSome = pool → ∀ P' : Addr → Prop, GSs (cxD P w K mg base N x scope f cd A outer s H E) ⟨H, po, 0, pq, P', RO K H P'⟩ (WD E) body t)
    (read : ∀ ds Qt Et, ds.length = n → S ds Qt Et → t { nx := fun _ => Qt .none, rt := fun d _ => Qt d } (fun nm _ => Et nm) (ent pool N.length ds)) : PrO P w K mg base (k + 1) x n pool S :=
  ⟨f, fd, ps, def_okO F Sc hn hbody read, hm, F.kp, F.bindsN hb⟩

theorem PrO.vac {x : Str} {params : Arguments} {body : List Stmt} {scope : Scope} {f : Addr} {fd : FuncData} (ps : List Str) {k n : Nat} {pool : Bool} {S : FSp} (F : FunD K x x params body scope [] [] f fd) (hm : mg x = some (.ref f))
    (hb : ∀ (kV doc pm : Value) (an : Option Addr) (cdv ct : Value) (us : List Value), us.length = ps.length → bindArgs (PySem.W.fnOf x x params body scope .none kV doc pm an cdv ct) ⟨us, []⟩ = pure (ps.zip us))
    (no : ∀ ds Q E, S ds Q E → False) : PrO P w K mg base k x n pool S := by
  have no2 : ∀ vs H Q E, spO K pool n S vs H Q E → False := fun vs H Q E h => by
    obtain ⟨po, pq, us, ds, _, _, _, _, _, _, _, Qt, Et, hS, _⟩ := h
    exact no ds Qt Et hS
  exact ⟨f, fd, ps, ⟨fun vs H Q E h => (no2 vs H Q E h).elim, fun A outer s H args us vs Q E _ _ _ _ h => (no2 vs H Q E h).elim⟩, hm, F.kp, F.bindsN hb⟩
structure HU (A : Around) : Prop where
  a64 : A.units + 64 < cLine
  a0 : A.units < cLine
  a65 : A.units + 65 < cLine
  a1 : A.units + 1 < cLine
theorem HU.of {k : Nat} {A : Around} (r : Room k A) : HU A := by
  have := r.un
  exact ⟨by omega, by omega, by omega, by omega⟩
/-! ### the pool of draws is made -/
def spPool (K : PySem.W.Frag) : Sp := fun vs H Q _ => ∃ (a : Addr) (ns : List Int), vs = [.ref a] ∧ SqL K H a (ns.map V.int) ∧ ∀ p q H', (∀ b o, H b = some o → H' b = some o) → PoolAt K H' p q → H p = none → H q = none → Q (.ref p) H'
structure PrPool (P : Program) (w : World) (K : PySem.W.Frag) (mg : Str → Option Value) (base : Heap) (k : Nat) : Prop where
  ex : ∃ (f : Addr) (fd : FuncData), FnOk P w K mg base (L2.CX P w) k f fd ["_law_script"] (spPool K) ∧ mg "_law_pool" = some (.ref f) ∧ PySem.W.keepIn K (.ref f) = true ∧ Binds K fd ["_law_script"] []

def rInt1 : List V → Hp → VK → Prop := fun xs H Q => (∃ i, xs = [.int i] ∧ Q (.int i) H) ∨ ∃ k, xs = [.bl k] ∧ Q (.int (if k then 1 else 0)) H
def rLstOf (K : PySem.W.Frag) : List V → Hp → VK → Prop := fun xs H Q => ∃ p ys, xs = [.ref p] ∧ (SqL K H p ys ∨ SqT K H p ys) ∧ ∀ l, H l = none → Q (.ref l) (upd H l (.lst ys))
abbrev rAdI : R2 := rI0 fun i j => .int (i + j)
abbrev rMuI : R2 := rI CMul fun i j => .int (i * j)
abbrev rMoI : R2 := rI (fun _ j => 0 < j) fun i j => .int (i % j)
abbrev rDiI : R2 := rI CDiv fun i j => .int (i / j)
def tPoolLoop (K : PySem.W.Frag) : TS := tFor (iAny K (tSl (rSlL K) (tVar 0) tNoPart (tPart (tC (.int 63))))) (gName 2) (tAsg (tOp rMoI (tCB rInt1 (tCons (tOp rAdI (tOp rMuI (tVar 1) (tC (.int 31))) (tVar 2)) tNil)) (tC (.int 1000003))) (gName 1))
def tPoolRet (K : PySem.W.Frag) : TS := tRet (tLst (tCons (tCB (rLstOf K) (tCons (tVar 0) tNil)) (tCons (tC (.int 0)) (tCons (tC (.int 0)) (tCons (tC (.int 0)) (tCons (tVar 1) tNil))))))
def tPool (K : PySem.W.Frag) : TS := tSeq (tAsg (tC (.int 7)) (gName 1)) (tSeq (tPoolLoop K) (tPoolRet K))
abbrev poolN : List Str := ["_law_script", "_law_salt", "_law_cell"]
theorem cut_ints {ns : List Int} {lo hi : Option Int} {i : Nat} {x : V} (h : (cutV (ns.map V.int) lo hi)[i]? = some x) : ∃ z : Int, x = .int z := by
  have hm := List.mem_of_getElem? h
  unfold cutV at hm
  have h2 := List.mem_of_mem_drop (List.mem_of_mem_take hm)
  obtain ⟨z, _, e⟩ := List.mem_map.mp h2
  exact ⟨z, e.symm⟩
theorem pool_reads {vs : List V} {H : Hp} {Q : VK} {E : XK} (h : spPool K vs H Q E) : tPool K { nx := fun _ H' => Q .non H', rt := Q } (start poolN vs) H := by
  obtain ⟨a, ns, rfl, hS, hQ⟩ := h
  show tPoolLoop K { nx := tPoolRet K { nx := fun _ H' => Q .non H', rt := Q }, rt := Q } [some (.ref a), some (.int 7), none] H
  refine ⟨.ref a, rfl, 63, rfl, a, _, rfl, hS, fun p hp => .inl ⟨p, rfl, ⟨_, .of upd_same⟩, ?_⟩⟩
  let ys := cutV (ns.map V.int) none (some 63)
  let H1 := upd H p (.lst ys)
  have kp : ∀ b o, H b = some o → H1 b = some o := fun b o e => by
    show upd H p _ b = _
    rw [upd_ne (ne_of_none e hp)]; exact e
  have hS1 : SqL K H1 a (ns.map V.int) := SqL.keep hS (kp a)
  refine ⟨fun i m σ H' => i + m = ys.length ∧ H' = H1 ∧ ∃ (s : Int) (c : Option V), -(2 ^ 64) < s ∧ s < 2 ^ 64 ∧ σ = [some (.ref a), some (.int s), c], ⟨ys.length, by simp, rfl, 7, none, by decide, by decide, rfl⟩, ?_⟩
  rintro i m σ H' ⟨em, rfl, s, c, hs1, hs2, rfl⟩
  cases m with
  | zero =>
    refine .inl ⟨⟨ys, .of upd_same, by omega⟩, ?_⟩
    refine ⟨.ref a, rfl, a, _, rfl, .inl hS1, fun q hq => ⟨.int s, rfl, ?_, fun p' hp' => ?_⟩⟩
    · show 5 ≤ sizeLine
      rw [sizeLine_eq]; decide
    have hq0 : H q = none := by
      cases e : H q with
      | none => rfl
      | some o => have := kp q o e; rw [hq] at this; cases this
    have ne : q ≠ p' := fun e => by rw [e, upd_same] at hp'; cases hp'
    have hp0 : H p' = none := by
      cases e : H p' with
      | none => rfl
      | some o =>
        rw [upd_ne (fun z => ne z.symm), kp p' o e] at hp'; cases hp'
    refine hQ p' q _ (fun b o e => ?_) ⟨ns, 0, 0, 0, s, upd_same, by rw [upd_ne ne]; exact upd_same, ne, Int.le_refl _⟩ hp0 hq0
    rw [upd_ne (ne_of_none e hp0), upd_ne (ne_of_none e hq0)]
    exact kp b o e
  | succ m =>
    have hi : i < ys.length := by omega
    refine .inr ⟨⟨ys, _, .of upd_same, List.getElem?_eq_getElem hi⟩, fun σ' H' => H' = H1 ∧ ∃ (s : Int) (c : Option V), -(2 ^ 64) < s ∧ s < 2 ^ 64 ∧ σ' = [some (.ref a), some (.int s), c], fun σ' H' ⟨h1, s, c, h2, h3, h4⟩ => ⟨m, Nat.lt_succ_self m, by omega, h1, s, c, h2, h3, h4⟩, fun x H' y => ?_⟩
    obtain ⟨rfl, hx⟩ := y
    obtain ⟨z, rfl⟩ := cut_ints (hx ys (.of upd_same))
    refine ⟨.int s, rfl, s, 31, rfl, rfl, .inr ⟨by decide, by decide⟩, .int z, rfl, s * 31, z, rfl, rfl, .inl ⟨_, rfl, _, 1000003, rfl, rfl, (by decide : (0 : Int) < 1000003), ?_⟩⟩
    show H1 = H1 ∧ ∃ (s' : Int) (c' : Option V), _
    refine ⟨rfl, (s * 31 + z) % 1000003, some (.int z), ?_, ?_, rfl⟩
    · have := Int.emod_nonneg (s * 31 + z) (show (1000003 : Int) ≠ 0 by decide); omega
    · have := Int.emod_lt_of_pos (s * 31 + z) (show (0 : Int) < 1000003 by decide); omega
theorem pool_ok {params : Arguments} {body : List Stmt} {scope : Scope} {f : Addr} {fd : FuncData} (F : FunD K "_law_pool" "_law_pool" params body scope [] [] f fd) (hm : mg "_law_pool" = some (.ref f)) (Sc : FnScope poolN ["_law_script"] scope)
    (hb : ∀ (kV doc pm : Value) (an : Option Addr) (cdv ct : Value) (us : List Value), us.length = 1 → bindArgs (PySem.W.fnOf "_law_pool" "_law_pool" params body scope .none kV doc pm an cdv ct) ⟨us, []⟩ = pure ((["_law_script"] : List Str).zip us))
    (hbody : ∀ (cd : Value) (A : Around) (outer : List Env) (s : Shared) (H : Hp) (E : XK), Room 0 (A.deeper (envOfC "_law_pool" scope s.heap.objs.size f cd)) → PSs (cxD P w K mg base poolN "_law_pool" scope f cd A outer s H E) body (tPool K)) : PrPool P w K mg base 1 :=
  ⟨f, fd, F.ok Sc (fun vs H Q E h => by obtain ⟨a, ns, rfl, _⟩ := h; rfl) fun cd A outer s H vs Q E hr h => ⟨_, hbody cd A outer s H E hr, pool_reads h⟩, hm, F.kp, F.bindsN hb⟩

/-! ### the law's def -/
def spLaw (K : PySem.W.Frag) : Sp := fun vs H Q _ => ∃ (a : Addr) (ns : List Int), vs = [.ref a] ∧ SqL K H a (ns.map V.int) ∧ ∀ H', Q (.bl true) H'
def owP (p : Addr) : Ow := fun c => if c = p then some none else none
def tLawPool (K : PySem.W.Frag) (E : L2.St → XK) : TS := tAsg (tCallS (spPool K) E (tCons (tVar 0) tNil)) (gName 1)
theorem ps_pool {X : Cx} {W : WX} {a1 a2 a3 a4 a5 : Pos} {k : Nat} (F : PrPool X.prog X.w X.K X.mg X.base k) (hr : Room k X.A) (tk : Takes X W) (hN : X.N.Nodup) (h0 : X.N[0]? = some ("_law_script" : Str) := by rfl) (h1 : X.N[1]? = some ("_law_pool_here" : Str) := by rfl)
    (hv : Vis X.env.scope "_law_script" := by first | exact Or.inl rfl | exact Or.inr (Or.inl rfl) | exact Or.inr (Or.inr rfl)) (hg : Gl X "_law_pool" := by rfl) (hx : Loc X.env.scope "_law_pool_here" := by first | exact .inl rfl | exact .inr rfl)
    (he : starEach [.Name "_law_script" a3] X.env = (false, eval (.Name "_law_script" a3) X.env) :: starEach [] X.env := by rfl)
    (hs : swapsWith (.Call (.Name "_law_pool" a2) [.Name "_law_script" a3] [] a4) (some (.Name "_law_pool_here" a1)) a5.line X.env = pure false := by rfl) (hf : X.fn "_law_pool_here" = true := by rfl) :
    PS X (.Assign [.Name "_law_pool_here" a1] (.Call (.Name "_law_pool" a2) [.Name "_law_script" a3] [] a4) a5) (tLawPool X.K (WE W)) := by
  obtain ⟨f, fd, h1', h2, h3, h4⟩ := F.ex
  exact ps_set hN h1 hx (pe_callS h1' hr hg h2 h3 h4 (fun σ => passAt tk σ) (pa_cons (pe_var h0 hv) pa_nil he) (by decide) he) hs (.inl hf)
theorem law_ok {st : Stmt} {rest : List Stmt} {params : Arguments} {scope : Scope} {f : Addr} {fd : FuncData} {N' : List Str} {k : Nat} {t : TSt} (F : FunD K "law" "law" params (st :: rest) scope [] [] f fd)
    (Sc : FnScope ("_law_script" :: "_law_pool_here" :: N') ["_law_script"] scope)
    (hbody : ∀ (cd : Value) (A : Around) (outer : List Env) (s : Shared) (H : Hp) (E : XK), Room k (A.deeper (envOfC "law" scope s.heap.objs.size f cd)) → PS (cxD P w K mg base ("_law_script" :: "_law_pool_here" :: N') "law" scope f cd A outer s H E) st (tLawPool K (WE (WD E))) ∧
      ∀ p q, GSs (cxD P w K mg base ("_law_script" :: "_law_pool_here" :: N') "law" scope f cd A outer s H E) ⟨H, some p, 1, q, fun _ => True, RR K H⟩ (WD E) rest t)
    (read : t { nx := fun _ => False, rt := fun d _ => d = .bool true } (fun _ _ => False) (none :: none :: List.replicate N'.length none)) : FnOk P w K mg base (L2.CX P w) (k + 1) f fd ["_law_script"] (spLaw K) := by
  refine F.ok Sc (fun vs H Q E h => by obtain ⟨a, ns, rfl, _⟩ := h; rfl) fun cd A outer s H vs Q E hr h => ?_
  obtain ⟨a, ns, rfl, hS, hQ⟩ := h
  obtain ⟨p0, hrest⟩ := hbody cd A outer s H E hr
  let tr : TS := fun D σ H1 => ∃ ts, PSs (cxD P w K mg base ("_law_script" :: "_law_pool_here" :: N') "law" scope f cd A outer s H E) rest ts ∧ ts D σ H1
  refine ⟨tSeq (tLawPool K (WE (WD E))) tr, pss_cons p0 ⟨fun pins s σ H D I ⟨ts, p, h⟩ => p.run pins s σ H D I h⟩, ?_⟩
  refine ⟨.ref a, rfl, a, ns, rfl, hS, fun p q H' kp pa np nq => ?_⟩
  obtain ⟨ts, p1, f1⟩ := (hrest p q).ex
  obtain ⟨_, _, _, _, _, ep, eq, ne, _⟩ := id pa
  refine ⟨ts, p1, ?_⟩
  refine f1 _ H' (none :: none :: List.replicate N'.length none) (owP p) _ (fun _ _ => False) _ ?_ read ⟨fun _ _ _ _ _ _ z => z.elim, fun _ _ _ _ _ _ z => z.elim, fun _ _ _ _ _ _ z => z.elim, fun v τ' ow' σ' H' d S' r q => ?_, fun _ _ _ _ _ _ _ z => z.elim⟩
  · have none_ : ∀ (l : List (Option Sl)), (∀ x ∈ l, x = none) → ∀ (k : Nat) (s : Sl), l[k]? = some (some s) → False := fun l hl k s e => by
      have := hl _ (List.mem_of_getElem? e); cases this
    refine ⟨by simp [L2.start], fun k s e => (none_ _ (fun x hx => ?_) k s e).elim, fun c k e => ?_, fun c o e hn => ⟨kp c o e, if_neg fun z => hn (by rw [z])⟩, fun c e => ?_, fun c e => ?_⟩
    · simp only [List.mem_cons, List.mem_replicate] at hx
      rcases hx with h | h | ⟨_, h⟩ <;> exact h
    · unfold owP at e
      by_cases h : c = p
      · subst h; rw [ep]; trivial
      · rw [if_neg h] at e; cases e
    · have e : some p = some c := e
      cases e
      exact ⟨pa, if_pos rfl, if_neg ne⟩
    · have e : some p = some c := e
      cases e
      rfl
  · subst q
    have := r
    rw [show v = .bl true by cases (show DP K H' _ v (.bool true) from r); rfl]
    exact hQ H'
theorem ifY {p : Prop} [Decidable p] {A B : Prop} (h : p) (a : A) : if decide p = true then A else B := by rw [if_pos (decide_eq_true h)]; exact a
theorem ifN {p : Prop} [Decidable p] {A B : Prop} (h : ¬ p) (b : B) : if decide p = true then A else B := by rw [if_neg (by rw [decide_eq_true_eq]; exact h)]; exact b
/-! ### a draw -/
/-- the pool's list as it stands -/
structure DSt (H : Hp) (p q : Addr) (ns : List Int) (H' : Hp) (i c n s : Int) : Prop where
  hp : H' p = some (.lst [.ref q, .int i, .int c, .int n, .int s])
  hq : H' q = some (.lst (ns.map V.int))
  i0 : 0 ≤ i
  kp : ∀ b o, H b = some o → b ≠ p → H' b = some o
  ne : q ≠ p
theorem DSt.st {H H' : Hp} {p q : Addr} {ns : List Int} {i c n s i2 c2 n2 s2 : Int} (D : DSt H p q ns H' i c n s) (h : 0 ≤ i2) : DSt H p q ns (upd H' p (.lst [.ref q, .int i2, .int c2, .int n2, .int s2])) i2 c2 n2 s2 :=
  ⟨upd_same, by rw [upd_ne D.ne]; exact D.hq, h, fun b o e hb => by rw [upd_ne hb]; exact D.kp b o e hb, D.ne⟩
theorem DSt.gr {H H' H2 : Hp} {p q : Addr} {ns : List Int} {i c n s : Int} (D : DSt H p q ns H' i c n s) (h : ∀ b o, H' b = some o → H2 b = some o) : DSt H p q ns H2 i c n s :=
  ⟨h _ _ D.hp, h _ _ D.hq, D.i0, fun b o e hb => h _ _ (D.kp b o e hb), D.ne⟩
theorem DSt.pa {H H' : Hp} {p q : Addr} {ns : List Int} {i c n s : Int} (D : DSt H p q ns H' i c n s) : PoolAt K H' p q := ⟨ns, i, c, n, s, D.hp, D.hq, D.ne, D.i0⟩
def tIx (K : PySem.W.Frag) (k : Int) : TE := tOp (rIx K) (tVar 0) (tC (.int k))
def gIx (k : Int) : TG := gSub (tVar 0) (tC (.int k)) rSetL
theorem rdIx {σ : L2.St} {H : Hp} {p : Addr} {xs : List V} {k : Int} {v : V} {Q : VK} (e : σ[0]? = some (some (.ref p))) (h : H p = some (.lst xs)) (hk : atI xs k = some v) (q : Q v H) : tIx K k σ H Q :=
  ⟨_, e, .inl ⟨p, xs, k, v, rfl, rfl, .of h, hk, q⟩⟩
theorem stIx {σ : L2.St} {H : Hp} {p : Addr} {xs : List V} {k : Int} {j : Nat} {v : V} {Q : L2.St → Hp → Prop} (e : σ[0]? = some (some (.ref p))) (h : H p = some (.lst xs)) (hk : ixN xs.length k = some j) (q : Q σ (upd H p (.lst (xs.set j v)))) : gIx k v σ H Q :=
  ⟨_, e, p, xs, k, j, rfl, rfl, h, hk, q⟩
abbrev rLeI : R2 := rI0 fun i j => .bl (decide (i ≤ j))
abbrev rLtI : R2 := rI0 fun i j => .bl (decide (i < j))
def SDraw : FSp := fun ds Q _ => ∃ m : Int, ds = [.int m] ∧ 0 < m ∧ m < 1073741824 ∧ ∀ r, 0 ≤ r → r < m → Q (.int r)
def SSpread : FSp := fun ds Q _ => ∃ c : Int, ds = [.int c] ∧ ∀ r, Q (.int r)
def rLenS (K : PySem.W.Frag) : List V → Hp → VK → Prop := fun xs H Q => ∃ p ys, xs = [.ref p] ∧ (SqL K H p ys ∨ SqT K H p ys) ∧ Q (.int ys.length) H
def tDrawA (K : PySem.W.Frag) (E : L2.St → XK) : TS := tIfS (tAnd (tTest (tOp rLeI (tIx K 2) (tC (.int 0)))) (tTest (tOp rLtI (tIx K 1) (tCB (rLenS K) (tCons (tIx K 0) tNil)))))
  (tSeq (tAsg (tOp (rIx K) (tIx K 0) (tIx K 1)) (gName 2)) (tSeq (tAsg (tOp rAdI (tIx K 1) (tC (.int 1))) (gIx 1)) (tSeq (tAsg (tVar 2) (gIx 2)) (tIfS (tTest (tOp rLtI (tVar 2) (tC (.int 1000000000000000000)))) (tAsg (tCallS (spT K false 1 SSpread) E (tCons (tVar 2) tNil)) (gIx 2)) tNext))))
  tNext
def tDrawB (K : PySem.W.Frag) : TS := tAsg (tOp rAdI (tIx K 3) (tC (.int 1))) (gIx 3)
def tDrawC (K : PySem.W.Frag) : TS := tIfS (tTest (tOp rLeI (tIx K 2) (tC (.int 0))))
  (tSeq (tAsg (tOp rMoI (tCB rInt1 (tCons (tOp rAdI (tOp rAdI (tOp rMuI (tIx K 4) (tC (.int 48271))) (tOp rMuI (tIx K 3) (tC (.int 69621)))) (tC (.int 1))) tNil)) (tC (.int 2147483647))) (gName 3))
    (tSeq (tAsg (tOp rMoI (tCB rInt1 (tCons (tOp rAdI (tOp rMuI (tVar 3) (tC (.int 16807))) (tIx K 3)) tNil)) (tC (.int 2147483629))) (gName 3))
      (tRet (tOp rMoI (tOp rDiI (tVar 3) (tC (.int 5))) (tVar 1)))))
  tNext
def tDrawD (K : PySem.W.Frag) : TS := tSeq (tAsg (tOp rMoI (tCB rInt1 (tCons (tIx K 2) tNil)) (tVar 1)) (gName 4)) (tSeq (tAsg (tOp rDiI (tIx K 2) (tVar 1)) (gIx 2)) (tRet (tVar 4)))
def tDraw (K : PySem.W.Frag) (E : L2.St → XK) : TS := tSeq (tDrawA K E) (tSeq (tDrawB K) (tSeq (tDrawC K) (tDrawD K)))
theorem draw_reads {E : L2.St → XK} {D : Ends} {H : Hp} {p q : Addr} {ns : List Int} {i c n s m : Int} {c0 x0 y0 : Option V} (hP : DSt H p q ns H i c n s) (h1 : 0 < m) (h2 : m < 1073741824)
    (hQ : ∀ r H' i c n s, 0 ≤ r → r < m → DSt H p q ns H' i c n s → D.rt (.int r) H') : tDraw K E D [some (.ref p), some (.int m), c0, x0, y0] H := by
  have em : ∀ x : Int, 0 ≤ x % m ∧ x % m < m := fun x => ⟨Int.emod_nonneg x (by omega), Int.emod_lt_of_pos x h1⟩
  have partD : ∀ {H' : Hp} {i c n s : Int} {c0 x0 y0 : Option V}, DSt H p q ns H' i c n s → tDrawD K D [some (.ref p), some (.int m), c0, x0, y0] H' := fun {H' i c n s c0 x0 y0} d => by
    refine rdIx rfl d.hp rfl ?_
    refine .inl ⟨c, rfl, .int m, rfl, c, m, rfl, rfl, h1, ?_⟩
    refine rdIx rfl d.hp rfl ⟨.int m, rfl, c, m, rfl, rfl, ⟨h1, h2⟩, stIx rfl d.hp rfl ⟨_, rfl, ?_⟩⟩
    exact hQ _ _ _ _ _ _ (em c).1 (em c).2 (d.st (c2 := c / m) d.i0)
  have partC : ∀ {H' : Hp} {i c n s : Int} {c0 x0 y0 : Option V}, DSt H p q ns H' i c n s → tSeq (tDrawC K) (tDrawD K) D [some (.ref p), some (.int m), c0, x0, y0] H' := fun {H' i c n s c0 x0 y0} d => by
    refine rdIx rfl d.hp rfl ⟨c, 0, rfl, rfl, _, rfl, ?_⟩
    by_cases hc : c ≤ 0
    · refine ifY hc ?_
      refine rdIx rfl d.hp rfl ⟨s, 48271, rfl, rfl, .inr ⟨by decide, by decide⟩, rdIx rfl d.hp rfl ⟨n, 69621, rfl, rfl, .inr ⟨by decide, by decide⟩, _, _, rfl, rfl, _, _, rfl, rfl, .inl ⟨_, rfl, _, _, rfl, rfl, (by decide : (0 : Int) < 2147483647), ?_⟩⟩⟩
      refine ⟨_, rfl, _, _, rfl, rfl, .inr ⟨by decide, by decide⟩, rdIx rfl d.hp rfl ⟨_, _, rfl, rfl, .inl ⟨_, rfl, _, _, rfl, rfl, (by decide : (0 : Int) < 2147483629), ?_⟩⟩⟩
      refine ⟨_, rfl, _, _, rfl, rfl, (⟨by decide, by decide⟩ : CDiv _ 5), .int m, rfl, _, _, rfl, rfl, h1, ?_⟩
      exact hQ _ _ _ _ _ _ (em _).1 (em _).2 d
    · exact ifN hc (partD d)
  have partB : ∀ {H' : Hp} {i c n s : Int} {c0 x0 y0 : Option V}, DSt H p q ns H' i c n s → tSeq (tDrawB K) (tSeq (tDrawC K) (tDrawD K)) D [some (.ref p), some (.int m), c0, x0, y0] H' := fun {H' i c n s c0 x0 y0} d =>
    rdIx rfl d.hp rfl ⟨n, 1, rfl, rfl, stIx rfl d.hp rfl (partC (d.st (n2 := n + 1) d.i0))⟩
  refine rdIx rfl hP.hp rfl ⟨c, 0, rfl, rfl, _, rfl, ?_⟩
  by_cases hc : c ≤ 0
  · refine ifY hc ?_
    refine rdIx rfl hP.hp rfl (rdIx rfl hP.hp rfl ⟨q, _, rfl, .inl (.of hP.hq), i, _, rfl, rfl, _, rfl, ?_⟩)
    by_cases hi : i < ((ns.map V.int).length : Nat)
    · refine ifY hi ?_
      rw [List.length_map] at hi
      have hi2 : i.toNat < ns.length := by have := hP.i0; omega
      refine rdIx rfl hP.hp rfl (rdIx rfl hP.hp rfl (.inl ⟨q, _, i, .int ns[i.toNat], rfl, rfl, .of hP.hq, ?_, ?_⟩))
      · have h0 := hP.i0
        unfold atI
        have : ixN (ns.map V.int).length i = some i.toNat := by
          unfold ixN
          rw [List.length_map]
          rw [if_pos h0, if_pos hi]
        rw [this]
        show (ns.map V.int)[i.toNat]? = _
        rw [List.getElem?_map, List.getElem?_eq_getElem hi2]; rfl
      · refine rdIx rfl hP.hp rfl ⟨i, 1, rfl, rfl, stIx rfl hP.hp rfl ⟨_, rfl, stIx rfl upd_same rfl ?_⟩⟩
        have d1 := hP.st (i2 := i + 1) (c2 := c) (n2 := n) (s2 := s) (by have := hP.i0; omega)
        have d2 := d1.st (i2 := i + 1) (c2 := ns[i.toNat]) (n2 := n) (s2 := s) (by have := hP.i0; omega)
        refine ⟨_, rfl, _, _, rfl, rfl, _, rfl, ?_⟩
        by_cases hb : ns[i.toNat] < 1000000000000000000
        · refine ifY hb ?_
          refine ⟨_, rfl, none, 0, _, [.int ns[i.toNat]], rfl, rfl, rfl, fun p e => (by cases e), .cons (.int _) .nil, fun d => ∃ r, d = .int r, fun _ => False, ⟨_, rfl, fun r => ⟨r, rfl⟩⟩, fun v H' d g rr hd => ?_, fun nm H' _ z => z.elim⟩
          obtain ⟨r, rfl⟩ := hd
          have ev : v = .int r := by cases (show DP K H' _ v (.int r) from rr); rfl
          subst ev
          have d3 := d2.gr fun b o e => g.keep b o e fun z => by cases z
          exact stIx rfl d3.hp rfl (partB (d3.st (c2 := r) d3.i0))
        · exact ifN hb (partB d2)
    · exact ifN hi (partB hP)
  · exact ifN hc (partB hP)
theorem draw_ok {params : Arguments} {body : List Stmt} {scope : Scope} {f : Addr} {fd : FuncData} {y : Str} {k : Nat} (F : FunD K "_law_draw" "_law_draw" params body scope [] [] f fd) (hm : mg "_law_draw" = some (.ref f)) (Sc : FnScope ["_law_pool_here", "_law_many", "_law_cell", "_law_mixed", y] ["_law_pool_here", "_law_many"] scope)
    (hb : ∀ (kV doc pm : Value) (an : Option Addr) (cdv ct : Value) (us : List Value), us.length = 2 → bindArgs (PySem.W.fnOf "_law_draw" "_law_draw" params body scope .none kV doc pm an cdv ct) ⟨us, []⟩ = pure ((["_law_pool_here", "_law_many"] : List Str).zip us))
    (hbody : ∀ (cd : Value) (A : Around) (outer : List Env) (s : Shared) (H : Hp) (E : XK), Room k (A.deeper (envOfC "_law_draw" scope s.heap.objs.size f cd)) → PSs (cxD P w K mg base ["_law_pool_here", "_law_many", "_law_cell", "_law_mixed", y] "_law_draw" scope f cd A outer s H E) body (tDraw K (WE (WD E)))) : Pr P w K mg base (k + 1) "_law_draw" 1 true SDraw := by
  refine ⟨f, fd, _, F.ok Sc (fun vs H Q E h => h.len.symm ▸ rfl) fun cd A outer s H vs Q E hr h => ⟨_, hbody cd A outer s H E hr, ?_⟩, hm, F.kp, F.bindsN hb⟩
  obtain ⟨po, pq, us, ds, ev, ep, el, hP, hd, Qt, Et, ⟨m, rfl, h1, h2, hS⟩, hQ, hE⟩ := h
  cases po with
  | none => cases ep
  | some p =>
    cases hd with
    | cons r t =>
      cases t
      cases r
      subst ev
      obtain ⟨ns, i, c, n, s', e1, e2, ne, i0⟩ := hP p rfl
      refine draw_reads (p := p) (q := pq) ⟨e1, e2, i0, fun b o e _ => e, ne⟩ h1 h2 fun r H' i c n s l1 l2 d => ?_
      exact hQ _ H' (.int r) ⟨fun a o e hn => d.kp a o e fun z => hn (show some p = some a by rw [z]), fun p' e _ => by have e : some p = some p' := e; cases e; exact d.pa⟩ (show DP K H' _ _ _ from .int r) (hS r l1 l2)
end
end TL

set_option maxHeartbeats 4000000
namespace TL
open PySem PySem.Spec PyProof.Rows L2
/-! ### what may be handed back -/
theorem retOk_res (d : D) : retOk d (resKd d) = True := by
  cases d <;> simp [retOk, resKd]
theorem retOk_int {i : Int} {b : Bool} : retOk (.int i) (.fz b) = True := by simp [retOk, im]
theorem retOk_bool {i : Bool} {b : Bool} : retOk (.bool i) (.fz b) = True := by simp [retOk, im]
theorem retOk_str {i : Str} {b : Bool} : retOk (.str i) (.fz b) = True := by simp [retOk, im]
theorem retOk_non {b : Bool} : retOk .none (.fz b) = True := by simp [retOk, im]
theorem retOk_nw {d : D} {b : Bool} : retOk d (.nw b) = (b = true) := rfl
theorem retOk_ow {d : D} {b : Bool} : retOk d (.ow b) = (b = true) := rfl
theorem retOk_tupT {ds : List D} : retOk (.tuple ds) (.fz true) = True := by simp [retOk]
theorem retOk_tup {ds : List D} {b : Bool} : retOk (.tuple ds) (.fz b) = (b = true ∨ im.imAll ds = true) := by simp [retOk, im]
theorem kb_fz {b : Bool} : (Kd.fz b).b = b := rfl
theorem kb_nw {b : Bool} : (Kd.nw b).b = b := rfl
theorem kb_ow {b : Bool} : (Kd.ow b).b = b := rfl
theorem kb_res {d : D} : (resKd d).b = true := by cases d <;> rfl
theorem no_fz {b : Bool} : notOw (.fz b) = True := rfl
theorem no_nw {b : Bool} : notOw (.nw b) = True := rfl
theorem no_res {d : D} : notOw (resKd d) = True := by cases d <;> rfl
theorem res_int {i : Int} : resKd (.int i) = .fz true := rfl
theorem res_bool {i : Bool} : resKd (.bool i) = .fz true := rfl
theorem res_str {i : Str} : resKd (.str i) = .fz true := rfl
theorem res_non : resKd .none = .fz true := rfl
theorem res_tup {ds : List D} : resKd (.tuple ds) = .fz true := rfl
theorem res_lst {ds : List D} : resKd (.list ds) = .nw true := rfl
theorem isOw_fz {b : Bool} : (Kd.fz b).isOw = false := rfl
theorem isOw_nw {b : Bool} : (Kd.nw b).isOw = false := rfl
theorem isOw_res {d : D} : (resKd d).isOw = false := by cases d <;> rfl
theorem ex_own {ds : List D} {b : Bool} : (∃ ds' b', some (some (Sl.own ds b)) = some (some (Sl.own ds' b'))) = True := eq_true ⟨ds, b, rfl⟩
theorem ex_dK {kvs : List (Key × D)} : (∃ kvs', some (some (Sl.dK kvs)) = some (some (Sl.dK kvs')) ∨ ∃ kvs'', some (some (Sl.dK kvs)) = some (some (Sl.dT kvs''))) = True := eq_true ⟨kvs, .inl rfl⟩
theorem ex_dT {kvs : List (List Key × D)} : (∃ kvs' : List (Key × D), some (some (Sl.dT kvs)) = some (some (Sl.dK kvs')) ∨ ∃ kvs'', some (some (Sl.dT kvs)) = some (some (Sl.dT kvs''))) = True := eq_true ⟨[], .inr ⟨kvs, rfl⟩⟩
/-- at an index -/
def atQ (o : Option D) (Q : D → Prop) : Prop := match o with
  | some d => Q d
  | none => False
theorem fIx_l {ds : List D} {b c : Bool} {i : Int} {Q : QD} : fIx (.list ds) b (.int i) c Q = atQ (atI ds i) fun d => Q d (.fz (b || im d)) := rfl
theorem fIx_t {ds : List D} {b c : Bool} {i : Int} {Q : QD} : fIx (.tuple ds) b (.int i) c Q = atQ (atI ds i) fun d => Q d (.fz (b || im d)) := rfl
theorem atQ_of {ds : List D} {i : Int} {d : D} {Q : D → Prop} (h0 : 0 ≤ i) (h : ds[i.toNat]? = some d) (q : Q d) : atQ (atI ds i) Q := by
  have hl : i.toNat < ds.length := (List.getElem?_eq_some_iff.mp h).1
  unfold atI ixN
  rw [if_pos h0, if_pos (by omega)]
  show atQ (ds[i.toNat]?) Q
  rw [h]; exact q
theorem atQ_any {ds : List D} {i : Int} {P Q : D → Prop} (h0 : 0 ≤ i) (h1 : i < (ds.length : Nat)) (h : ∀ d ∈ ds, P d) (q : ∀ d, P d → Q d) : atQ (atI ds i) Q := by
  have hl : i.toNat < ds.length := by omega
  exact atQ_of h0 (List.getElem?_eq_getElem hl) (q _ (h _ (List.getElem_mem hl)))
theorem atQ_ints {ns : List Int} {ds : List D} {i : Int} {P : Int → Prop} {Q : D → Prop} (e : ds = ns.map PyData.int) (h0 : 0 ≤ i) (h1 : i < (ns.length : Nat)) (h : ∀ j ∈ ns, P j) (q : ∀ j, P j → Q (.int j)) : atQ (atI ds i) Q := by
  subst e
  refine atQ_any (P := fun d => ∃ j, d = .int j ∧ P j) h0 (by rw [List.length_map]; exact h1) (fun d hd => ?_) fun d ⟨j, e, hj⟩ => by subst e; exact q j hj
  obtain ⟨j, hj, rfl⟩ := List.mem_map.mp hd
  exact ⟨j, rfl, h j hj⟩
/-! ### lo, lo + 1, .., hi - 1 -/
def rg (lo hi : Int) : List Int := (List.range (hi - lo).toNat).map fun i : Nat => lo + (i : Int)
theorem rgD_rg {i j : Int} : rgD i (j - i).toNat = (rg i j).map PyData.int := by
  unfold rgD rg
  rw [List.map_map]; rfl
theorem fRg1 {j : Int} {k : Kd} {Q : List D → Bool → Bool → Prop} : fRg [(.int j, k)] Q = (-(2 ^ 62) ≤ j ∧ j < 2 ^ 62 ∧ Q ((rg 0 j).map PyData.int) true false) := by
  rw [← rgD_rg, Int.sub_zero]; rfl
theorem fRg2 {i j : Int} {k l : Kd} {Q : List D → Bool → Bool → Prop} : fRg [(.int i, k), (.int j, l)] Q = ((-(2 ^ 62) ≤ i ∧ i < 2 ^ 62 ∧ -(2 ^ 62) ≤ j ∧ j < 2 ^ 62) ∧ Q ((rg i j).map PyData.int) true false) := by
  rw [← rgD_rg]; rfl
theorem mem_rg {x lo hi : Int} : x ∈ rg lo hi ↔ lo ≤ x ∧ x < hi := by
  unfold rg
  simp only [List.mem_map, List.mem_range]
  constructor
  · rintro ⟨i, hi, rfl⟩
    omega
  · rintro ⟨h1, h2⟩
    exact ⟨(x - lo).toNat, by omega, by omega⟩
theorem rg_len {lo hi : Int} : (rg lo hi).length = (hi - lo).toNat := by simp [rg]
theorem rg_nil {lo hi : Int} (h : hi ≤ lo) : rg lo hi = [] := by
  unfold rg
  rw [show (hi - lo).toNat = 0 by omega]; rfl
theorem rg_cons {lo hi : Int} (h : lo < hi) : rg lo hi = lo :: rg (lo + 1) hi := by
  unfold rg
  rw [show (hi - lo).toNat = (hi - (lo + 1)).toNat + 1 by omega, List.range_succ_eq_map, List.map_cons, List.map_map]
  congr 1
  · simp
  · refine List.map_congr_left fun i _ => ?_
    show lo + ((i + 1 : Nat) : Int) = lo + 1 + (i : Int)
    omega
theorem rg_pair {lo hi : Int} : (rg lo hi).Pairwise (· < ·) := by
  unfold rg
  rw [List.pairwise_map]
  refine List.Pairwise.imp (fun h => ?_) List.pairwise_lt_range
  omega
/-! ### comprehensions -/
section
variable {tg tg1 : TGt} {tt tt1 : TXb} {te : TX} {τ : Slots} {Q : QD} {b : Bool} {it1 : TIt} {vs1 : List Nat}
theorem lcL_gen {α : Type} {inj : α → D} {g : α → Option D} : ∀ {xs : List α} {acc : List D} {fl : Bool}, (∀ x ∈ xs, ∀ (Rn : Prop) (Ry : D → Kd → Prop), (g x = none → Rn) → (∀ y, g x = some y → ∀ ky, notOw ky → ky.b = true → Ry y ky) →
      tg (inj x) b τ fun τ1 => tt τ1 (fun ok => if ok = true then te τ1 Ry (fun _ => False) else Rn) (fun _ => False)) →
    Q (.list (acc ++ xs.filterMap g)) (.nw fl) → lcL tg tt te τ Q b (xs.map inj) acc fl
  | [], acc, fl, _, hQ => by
    simp only [List.filterMap_nil, List.append_nil] at hQ
    exact hQ
  | x :: xs, acc, fl, h, hQ => by
    refine h x List.mem_cons_self _ _ (fun e => ?_) fun y e ky hk hb => ⟨hk, ?_⟩
    · refine lcL_gen (fun z hz => h z (List.mem_cons_of_mem _ hz)) ?_
      rw [List.filterMap_cons_none e] at hQ
      exact hQ
    · refine lcL_gen (fun z hz => h z (List.mem_cons_of_mem _ hz)) ?_
      rw [List.filterMap_cons_some e] at hQ
      rw [hb, Bool.and_true, List.append_assoc]
      exact hQ
theorem lcL_map {α : Type} {inj : α → D} {f : α → D} {xs : List α} {acc : List D} {fl : Bool} (h : ∀ x ∈ xs, ∀ (Ry : D → Kd → Prop), (∀ ky, notOw ky → ky.b = true → Ry (f x) ky) → tg (inj x) b τ fun τ1 => te τ1 Ry (fun _ => False))
    (hQ : Q (.list (acc ++ xs.map f)) (.nw fl)) : lcL tg gYes te τ Q b (xs.map inj) acc fl := by
  refine lcL_gen (g := fun x => some (f x)) (fun x hx Rn Ry _ hy => ?_) (by rw [show xs.filterMap (fun x => some (f x)) = xs.map f from List.filterMap_eq_map' ▸ rfl]; exact hQ)
  exact h x hx Ry fun ky => hy _ rfl ky
theorem lcI_map {α : Type} {inj : α → D} {f : α → D} {KK : List D → Bool → Prop} : ∀ {xs : List α} {acc : List D} {fl : Bool}, (∀ x ∈ xs, ∀ (Ry : D → Kd → Prop), (∀ ky, notOw ky → ky.b = true → Ry (f x) ky) → tg (inj x) b τ fun τ1 => te τ1 Ry (fun _ => False)) →
    acc.length + xs.length ≤ sizeLine → KK (acc ++ xs.map f) fl → lcI tg gYes te τ b KK (xs.map inj) acc fl
  | [], acc, fl, _, _, hQ => by
    simp only [List.map_nil, List.append_nil] at hQ
    exact hQ
  | x :: xs, acc, fl, h, hl, hQ => by
    refine h x List.mem_cons_self _ fun ky hk hb => ⟨hk, ?_, ?_⟩
    · rw [List.length_cons] at hl; omega
    · refine lcI_map (fun z hz => h z (List.mem_cons_of_mem _ hz)) (by rw [List.length_append, List.length_singleton]; rw [List.length_cons] at hl; omega) ?_
      rw [hb, Bool.and_true, List.append_assoc]
      exact hQ
theorem lcO_map {α β : Type} {inj : α → D} {inj1 : β → D} {ys : α → List β} {f : α → β → D} {b1 : Bool} (st : α → Slots) : ∀ {xs : List α} {acc : List D} {fl : Bool}, (∀ x ∈ xs, ∀ R : Slots → Prop, R (st x) → tg (inj x) b τ R) →
      (∀ x ∈ xs, ∀ R : List D → Bool → Bool → Prop, (∀ o, R ((ys x).map inj1) b1 o) → it1 (st x) R (fun _ => False)) →
      (∀ x ∈ xs, ∀ y ∈ ys x, ∀ (Ry : D → Kd → Prop), (∀ ky, notOw ky → ky.b = true → Ry (f x y) ky) → tg1 (inj1 y) b1 (wipeT (st x) vs1) fun τ1 => te τ1 Ry (fun _ => False)) →
    acc.length + (xs.flatMap fun x => (ys x).map (f x)).length ≤ sizeLine → Q (.list (acc ++ xs.flatMap fun x => (ys x).map (f x))) (.nw fl) → lcO tg gYes it1 tg1 gYes te vs1 τ Q b (xs.map inj) acc fl
  | [], acc, fl, _, _, _, _, hQ => by
    simp only [List.flatMap_nil, List.append_nil] at hQ
    exact hQ
  | x :: xs, acc, fl, h1, h2, h3, hl, hQ => by
    rw [List.flatMap_cons, List.length_append, List.length_map] at hl
    refine h1 x List.mem_cons_self _ ?_
    refine h2 x List.mem_cons_self _ fun o => ?_
    refine lcI_map (h3 x List.mem_cons_self) (by omega) ?_
    refine lcO_map st (fun z hz => h1 z (List.mem_cons_of_mem _ hz)) (fun z hz => h2 z (List.mem_cons_of_mem _ hz)) (fun z hz => h3 z (List.mem_cons_of_mem _ hz)) (by rw [List.length_append, List.length_map]; omega) ?_
    rw [List.flatMap_cons] at hQ
    rw [List.append_assoc]
    exact hQ
end
/-! ### dicts keyed by pairs -/
def keysK (ks : List (Int × Int)) : List (List Key × D) := ks.map fun p => ([Sum.inl p.1, Sum.inl p.2], .bool true)
def insP (ks : List (Int × Int)) (p : Int × Int) : List (Int × Int) := if p ∈ ks then ks else ks ++ [p]
theorem keysK_len {ks : List (Int × Int)} : (keysK ks).length = ks.length := by simp [keysK]
theorem putD_keys {ks : List (Int × Int)} {u v : Int} : putD (keysK ks) [Sum.inl u, Sum.inl v] (.bool true) = keysK (insP ks (u, v)) := by
  have hany : ((keysK ks).any fun kv => decide (kv.1 = [Sum.inl u, Sum.inl v])) = decide ((u, v) ∈ ks) := by
    rw [Bool.eq_iff_iff]
    simp only [keysK, List.any_map, List.any_eq_true, Function.comp_apply, decide_eq_true_eq]
    constructor
    · rintro ⟨p, hp, e⟩
      simp only [List.cons.injEq, Sum.inl.injEq, and_true] at e
      rw [← e.1, ← e.2]; exact hp
    · intro h
      exact ⟨_, h, rfl⟩
  unfold putD insP
  rw [hany]
  by_cases h : (u, v) ∈ ks
  · rw [if_pos (decide_eq_true h), if_pos h]
    unfold keysK
    rw [List.map_map]
    refine List.map_congr_left fun p _ => ?_
    show (if _ then _ else _) = _
    split
    · rename_i e; rfl
    · rfl
  · rw [if_neg (by rw [decide_eq_true_eq]; exact h), if_neg h]
    simp [keysK]
theorem insP_nodup {ks : List (Int × Int)} {p : Int × Int} (h : ks.Nodup) : (insP ks p).Nodup := by
  unfold insP
  split
  · exact h
  · rename_i hp
    rw [List.nodup_append]
    refine ⟨h, by simp, fun a ha b hb => ?_⟩
    rw [List.mem_singleton.mp hb]
    intro e
    rw [e] at ha
    exact hp ha
theorem mem_insP {ks : List (Int × Int)} {p q : Int × Int} : q ∈ insP ks p ↔ q ∈ ks ∨ q = p := by
  unfold insP
  split
  · rename_i h
    constructor
    · exact .inl
    · rintro (h1 | rfl)
      · exact h1
      · exact h
  · simp
theorem insP_len {ks : List (Int × Int)} {p : Int × Int} : (insP ks p).length ≤ ks.length + 1 := by
  unfold insP
  split
  · omega
  · simp
/-! ### pairs, graphs -/
def pD (p : Int × Int) : D := .tuple [.int p.1, .int p.2]
def lt2 (p q : Int × Int) : Prop := p.1 < q.1 ∨ (p.1 = q.1 ∧ p.2 < q.2)
def Srt (l : List (Int × Int)) : Prop := l.Pairwise lt2
theorem srt_uniq : ∀ {l m : List (Int × Int)}, Srt l → Srt m → (∀ p, p ∈ l ↔ p ∈ m) → l = m
  | [], [], _, _, _ => rfl
  | [], y :: m, _, _, h => by have := (h y).mpr List.mem_cons_self; simp at this
  | x :: l, [], _, _, h => by have := (h x).mp List.mem_cons_self; simp at this
  | x :: l, y :: m, hl, hm, h => by
    obtain ⟨hx, hl2⟩ := List.pairwise_cons.mp hl
    obtain ⟨hy, hm2⟩ := List.pairwise_cons.mp hm
    have irr : ∀ p : Int × Int, ¬ lt2 p p := fun p h => by unfold lt2 at h; omega
    have exy : x = y := by
      rcases List.mem_cons.mp ((h x).mp List.mem_cons_self) with e | e
      · exact e
      · rcases List.mem_cons.mp ((h y).mpr List.mem_cons_self) with e' | e'
        · exact e'.symm
        · have a := hx y e'
          have c := hy x e
          unfold lt2 at a c
          omega
    subst exy
    refine congrArg _ (srt_uniq hl2 hm2 fun p => ?_)
    constructor
    · intro hp
      rcases List.mem_cons.mp ((h p).mp (List.mem_cons_of_mem _ hp)) with e | e
      · subst e; exact (irr _ (hx _ hp)).elim
      · exact e
    · intro hp
      rcases List.mem_cons.mp ((h p).mpr (List.mem_cons_of_mem _ hp)) with e | e
      · subst e; exact (irr _ (hy _ hp)).elim
      · exact e
theorem pD_inj {p q : Int × Int} (h : pD p = pD q) : p = q := by
  unfold pD at h
  simp only [PyData.tuple.injEq, List.cons.injEq, PyData.int.injEq, and_true] at h
  exact Prod.ext h.1 h.2
theorem im_pairs (l : List (Int × Int)) : im.imAll (l.map pD) = true := by
  induction l with
  | nil => rfl
  | cons p l ih => simp [im.imAll, im, pD, ih]
theorem sortOk_pairs (l : List (Int × Int)) : SortOk (l.map pD) := by
  refine ⟨PySem.W.AllAlike.of fun _ _ => by simp [PySem.W.alike, PySem.W.alikeAll, pD], PySem.W.Sortable.tuples fun _ => ⟨_, _, rfl⟩, fun d hd => ?_⟩
  obtain ⟨p, _, rfl⟩ := List.mem_map.mp hd
  simp [pD, PyData.depth, PyData.depthAll]
def le2 (p q : Int × Int) : Bool := decide (p.1 < q.1 ∨ (p.1 = q.1 ∧ p.2 ≤ q.2))
theorem keysK_tup {ks : List (Int × Int)} : (keysK ks).map (fun kv => tupD kv.1) = ks.map pD := by
  unfold keysK
  rw [List.map_map]; rfl
theorem sort_pairs (l : List (Int × Int)) : (l.map pD).mergeSort dLe = (l.mergeSort le2).map pD := by
  rw [← map_sortG pD l]
  congr 1
  congr 1
  exact PySem.W.dataLe_ii (β := Int × Int) (fun p => p.1) (fun p => p.2)
theorem srt_sort {l : List (Int × Int)} (h : l.Nodup) : Srt (l.mergeSort le2) := by
  have hs := List.pairwise_mergeSort (le := le2) (fun a b c h1 h2 => by unfold le2 at *; simp only [decide_eq_true_eq] at *; omega) (fun a b => by unfold le2; simp only [Bool.or_eq_true, decide_eq_true_eq]; omega) l
  have hn : (l.mergeSort le2).Nodup := (List.mergeSort_perm l le2).nodup_iff.mpr h
  exact (hs.and hn).imp fun {a b} ⟨h1, h2⟩ => by
    unfold le2 at h1
    simp only [decide_eq_true_eq] at h1
    unfold lt2
    rcases h1 with h1 | ⟨h1, h3⟩
    · exact .inl h1
    · rcases Int.lt_or_eq_of_le h3 with h4 | h4
      · exact .inr ⟨h1, h4⟩
      · exact (h2 (Prod.ext h1 h4)).elim
end TL

set_option maxHeartbeats 1000000
namespace TL
open PySem PySem.Spec PyProof.Rows L2
theorem eqv_pD (p q : Int × Int) : PyData.eqv (pD p) (pD q) = decide (p = q) := by
  simp only [pD, PyData.eqv, PyData.eqvAll]
  rw [Bool.eq_iff_iff]
  simp [Prod.ext_iff]
theorem any_pD (L : List (Int × Int)) (p : Int × Int) : ((L.map pD).any fun z => PyData.eqv z (pD p)) = decide (p ∈ L) := by
  rw [Bool.eq_iff_iff]
  simp only [List.any_map, List.any_eq_true, Function.comp_apply, eqv_pD, decide_eq_true_eq]
  exact ⟨fun ⟨x, hx, e⟩ => e ▸ hx, fun h => ⟨p, h, rfl⟩⟩
theorem eqv_int (i j : Int) : PyData.eqv (.int i) (.int j) = decide (i = j) := by
  simp only [PyData.eqv]
  rw [Bool.eq_iff_iff]
  simp
theorem any_int (L : List Int) (i : Int) : ((L.map PyData.int).any fun z => PyData.eqv z (.int i)) = decide (i ∈ L) := by
  rw [Bool.eq_iff_iff]
  simp only [List.any_map, List.any_eq_true, Function.comp_apply, eqv_int, decide_eq_true_eq]
  exact ⟨fun ⟨x, hx, e⟩ => e ▸ hx, fun h => ⟨i, h, rfl⟩⟩
theorem depth_pairs (L : List (Int × Int)) : PyData.depthAll (L.map pD) ≤ 1 := by
  induction L with
  | nil => simp [PyData.depthAll]
  | cons p L ih => simp only [List.map_cons, PyData.depthAll, pD, PyData.depth]; omega
theorem can_pairs (L : List (Int × Int)) : PyData.canLayAll0 (L.map pD) = true := by
  induction L with
  | nil => simp [PyData.canLayAll0]
  | cons p L ih => simp [PyData.canLayAll0, pD, PyData.canLay0, ih]
theorem shaped_pD (p : Int × Int) : SeqAt.shaped (pD p) = true := by
  simp [SeqAt.shaped, pD, PyData.canLay0, PyData.canLayAll0, PyData.depth, PyData.depthAll]
theorem shaped_tpairs (L : List (Int × Int)) : SeqAt.shaped (.tuple (L.map pD)) = true := by
  have := depth_pairs L
  simp only [SeqAt.shaped, PyData.canLay0, can_pairs, PyData.depth, Bool.true_and]
  exact decide_eq_true (by omega)
theorem shaped_lpairs (L : List (Int × Int)) : SeqAt.shaped (.list (L.map pD)) = true := by
  have := depth_pairs L
  simp only [SeqAt.shaped, PyData.canLay0, can_pairs, PyData.depth, Bool.true_and]
  exact decide_eq_true (by omega)
theorem shaped_int (i : Int) : SeqAt.shaped (.int i) = true := by
  simp [SeqAt.shaped, PyData.canLay0, PyData.depth]
theorem can_ints (L : List Int) : PyData.canLayAll0 (L.map PyData.int) = true := by
  induction L with
  | nil => simp [PyData.canLayAll0]
  | cons p L ih => simp [PyData.canLayAll0, PyData.canLay0, ih]
theorem shaped_tints (L : List Int) : SeqAt.shaped (.tuple (L.map PyData.int)) = true := by
  simp only [SeqAt.shaped, PyData.canLay0, can_ints, PyData.depth, PySem.W.depth_ints, Bool.true_and]; rfl
theorem shaped_lints (L : List Int) : SeqAt.shaped (.list (L.map PyData.int)) = true := by
  simp only [SeqAt.shaped, PyData.canLay0, can_ints, PyData.depth, PySem.W.depth_ints, Bool.true_and]; rfl
theorem fm_if {α β : Type} (p : α → Prop) [DecidablePred p] (f : α → β) : ∀ l : List α, l.filterMap (fun x => if p x then some (f x) else none) = (l.filter fun x => decide (p x)).map f
  | [] => rfl
  | x :: l => by
    by_cases q : p x
    · simp [List.filterMap_cons, q, fm_if p f l]
    · simp [List.filterMap_cons, q, fm_if p f l]
/-- [f(x) for x in xs if p(x)] -/
theorem lcL_filt {tg : TGt} {tt : TXb} {te : TX} {τ : Slots} {Q : QD} {b : Bool} {α : Type} {inj : α → D} (p : α → Prop) [DecidablePred p] (f : α → D) {xs : List α} {acc : List D} {fl : Bool}
    (h : ∀ x ∈ xs, ∀ (Rn : Prop) (Ry : D → Kd → Prop), (¬ p x → Rn) → (p x → ∀ ky, notOw ky → ky.b = true → Ry (f x) ky) → tg (inj x) b τ fun τ1 => tt τ1 (fun ok => if ok = true then te τ1 Ry (fun _ => False) else Rn) (fun _ => False))
    (hQ : Q (.list (acc ++ (xs.filter fun x => decide (p x)).map f)) (.nw fl)) : lcL tg tt te τ Q b (xs.map inj) acc fl := by
  refine lcL_gen (g := fun x => if p x then some (f x) else none) (fun x hx Rn Ry hn hy => h x hx Rn Ry (fun q => hn (if_neg q)) fun q ky => hy _ (if_pos q) ky) ?_
  rw [fm_if]
  exact hQ
/-- [f(x) for x in xs if a draw says so] -/
theorem lcL_any {tg : TGt} {tt : TXb} {te : TX} {τ : Slots} {Q : QD} {b : Bool} {α : Type} {inj : α → D} (f : α → D) : ∀ {xs : List α} {acc : List D} {fl : Bool},
    (∀ x ∈ xs, ∀ (Rn : Prop) (Ry : D → Kd → Prop), Rn → (∀ ky, notOw ky → ky.b = true → Ry (f x) ky) → tg (inj x) b τ fun τ1 => tt τ1 (fun ok => if ok = true then te τ1 Ry (fun _ => False) else Rn) (fun _ => False)) →
    (∀ ys : List α, ys.Sublist xs → Q (.list (acc ++ ys.map f)) (.nw fl)) → lcL tg tt te τ Q b (xs.map inj) acc fl
  | [], acc, fl, _, hQ => by
    have z := hQ [] (List.Sublist.refl _)
    simp only [List.map_nil, List.append_nil] at z
    exact z
  | x :: xs, acc, fl, h, hQ => by
    refine h x List.mem_cons_self _ _ ?_ fun ky hk hb => ⟨hk, ?_⟩
    · exact lcL_any f (fun z hz => h z (List.mem_cons_of_mem _ hz)) fun ys hy => hQ ys (hy.cons x)
    · refine lcL_any f (fun z hz => h z (List.mem_cons_of_mem _ hz)) fun ys hy => ?_
      have z := hQ (x :: ys) (hy.cons₂ x)
      rw [hb, Bool.and_true, List.append_assoc]
      exact z
theorem gr_sub {n : Int} {L L' : List (Int × Int)} (h : Srt L) (hs : L'.Sublist L) : Srt L' := List.Pairwise.sublist hs h
end TL

set_option maxHeartbeats 4000000
namespace TL
open PySem PySem.Spec PyProof.Rows L2
section
variable {X : Cx} {G : Gh} {W : WX} {pos : Pos}
/-! ### key in a dict, as a test -/
theorem gb_dIn (k : Nat) {x : Str} {i : Expr} {ti : TX} {p1 : Pos} (hu : X.A.units + 1 < cLine) (hi : GE X G W i ti) (hN : X.N[k]? = some x := by rfl) (hv : Vis X.env.scope x := by first | exact Or.inl rfl | exact Or.inr (Or.inl rfl) | exact Or.inr (Or.inr rfl)) (hd : (x == ("__debug__" : Str)) = false := by decide)
    (hcd : (x == ("__classdict__" : Str)) = false := by decide) (hb : behindInMarks .In (.Name x p1) = false := by rfl) : GB X G W (.Compare i [.In] [.Name x p1] pos) (gT (gDIn false k ti)) := by
  obtain ⟨te, q1, f1⟩ := hi.ex
  refine ⟨_, pt_cmp (pc_din hu q1 (pe_var hN hv hd hcd)) hb, fun σ H τ ow Q wq Kt S h kt w => f1 σ H τ ow _ wq _ S h (fun y H1 dy ky g r q => ?_) w⟩
  obtain ⟨a, rr, od, e1, gt, hq, hr⟩ := (S.grow g).dget r.dpAny q
  refine ⟨.ref a, e1, a, rr, rfl, gt, _, rfl, ?_⟩
  have e : rr.isSome = od.isSome := by rcases hr with ⟨rfl, rfl⟩ | ⟨v, d, rfl, rfl, _⟩ <;> rfl
  rw [e]
  exact kt _ _ g (by simpa [asB] using hq)
theorem gb_dNotIn (k : Nat) {x : Str} {i : Expr} {ti : TX} {p1 : Pos} (hu : X.A.units + 1 < cLine) (hi : GE X G W i ti) (hN : X.N[k]? = some x := by rfl) (hv : Vis X.env.scope x := by first | exact Or.inl rfl | exact Or.inr (Or.inl rfl) | exact Or.inr (Or.inr rfl)) (hd : (x == ("__debug__" : Str)) = false := by decide)
    (hcd : (x == ("__classdict__" : Str)) = false := by decide) (hb : behindInMarks .NotIn (.Name x p1) = false := by rfl) : GB X G W (.Compare i [.NotIn] [.Name x p1] pos) (gT (gDIn true k ti)) := by
  obtain ⟨te, q1, f1⟩ := hi.ex
  refine ⟨_, pt_cmp (pc_dnotin hu q1 (pe_var hN hv hd hcd)) hb, fun σ H τ ow Q wq Kt S h kt w => f1 σ H τ ow _ wq _ S h (fun y H1 dy ky g r q => ?_) w⟩
  obtain ⟨a, rr, od, e1, gt, hq, hr⟩ := (S.grow g).dget r.dpAny q
  refine ⟨.ref a, e1, a, rr, rfl, gt, _, rfl, ?_⟩
  have e : rr.isSome = od.isSome := by rcases hr with ⟨rfl, rfl⟩ | ⟨v, d, rfl, rfl, _⟩ <;> rfl
  rw [e]
  exact kt _ _ g (by simpa [asB] using hq)
/-! ### min, max of one list or tuple of ints -/
theorem reads_ints {h : Heap} : ∀ {ns : List Int} {its : List Value}, Vals (ns.map V.int) its → ReadsAll h its (ns.map PyData.int) []
  | [], [], .nil => .nil
  | n :: ns, u :: us, .cons r t => by
    obtain ⟨tk, rfl⟩ := (show ∃ t, u = Value.int n t from r)
    exact ReadsAll.cons (as := []) (bs := []) (.int n tk) (reads_ints t)
def rMM (K : PySem.W.Frag) (f : Int → Int → Int) : List V → Hp → VK → Prop := fun vs H Q => ∃ (a : Addr) (n : Int) (ns : List Int), vs = [V.ref a] ∧ (SqL K H a ((n :: ns).map V.int) ∨ SqT K H a ((n :: ns).map V.int)) ∧ Q (.int (ns.foldl f n)) H
theorem alikeAll_ints (ns : List Int) : PySem.W.AlikeAll (ns.map PyData.int) := by
  refine ⟨fun d hd d' hd' => ?_, fun d hd => ?_⟩
  · obtain ⟨i, _, rfl⟩ := List.mem_map.mp hd
    obtain ⟨j, _, rfl⟩ := List.mem_map.mp hd'
    simp [PySem.W.alike]
  · obtain ⟨i, _, rfl⟩ := List.mem_map.mp hd
    exact fun z => by cases z
theorem call_min1 (hc : X.calm = true) (hu : X.A.units + 64 < cLine) : CallR X (.builtin "min") (rMM X.K min) := by
  intro pins s σ H vs us Q I r h
  obtain ⟨a, n, ns, rfl, hs, q⟩ := h
  rw [Vals.ref1 r]
  have dz : X.A.units + 1 + PyData.depthAll ((n :: ns).map PyData.int) < cLine := by rw [PySem.W.depth_ints]; omega
  rcases hs with hs | hs
  · obtain ⟨its, rv, hl, _⟩ := I.list hs
    refine PySem.W.min_list_data (I.ok.hd hc) hl.isList (reads_ints (ns := n :: ns) rv) (alikeAll_ints (n :: ns)) dz fun i v h' tk bs _ rd hk => ?_
    rw [PySem.W.minD_ints] at rd
    cases rd
    exact ⟨.int _, H, I.kept hk, ⟨_, rfl⟩, q⟩
  · obtain ⟨its, rv, hl, _⟩ := I.tuple hs
    refine PySem.W.min_tuple_data (I.ok.hd hc) hl (reads_ints (ns := n :: ns) rv) (alikeAll_ints (n :: ns)) dz fun i v h' tk bs _ rd hk => ?_
    rw [PySem.W.minD_ints] at rd
    cases rd
    exact ⟨.int _, H, I.kept hk, ⟨_, rfl⟩, q⟩
theorem call_max1 (hc : X.calm = true) (hu : X.A.units + 64 < cLine) : CallR X (.builtin "max") (rMM X.K max) := by
  intro pins s σ H vs us Q I r h
  obtain ⟨a, n, ns, rfl, hs, q⟩ := h
  rw [Vals.ref1 r]
  have dz : X.A.units + 1 + PyData.depthAll ((n :: ns).map PyData.int) < cLine := by rw [PySem.W.depth_ints]; omega
  rcases hs with hs | hs
  · obtain ⟨its, rv, hl, _⟩ := I.list hs
    refine PySem.W.max_list_data (I.ok.hd hc) hl.isList (reads_ints (ns := n :: ns) rv) (alikeAll_ints (n :: ns)) dz fun i v h' tk bs _ rd hk => ?_
    rw [PySem.W.maxD_ints] at rd
    cases rd
    exact ⟨.int _, H, I.kept hk, ⟨_, rfl⟩, q⟩
  · obtain ⟨its, rv, hl, _⟩ := I.tuple hs
    refine PySem.W.max_tuple_data (I.ok.hd hc) hl (reads_ints (ns := n :: ns) rv) (alikeAll_ints (n :: ns)) dz fun i v h' tk bs _ rd hk => ?_
    rw [PySem.W.maxD_ints] at rd
    cases rd
    exact ⟨.int _, H, I.kept hk, ⟨_, rfl⟩, q⟩
def fMM (f : Int → Int → Int) : List (D × Kd) → QD → Prop
  | [(.list ds, _)], Q => ∃ (n : Int) (ns : List Int), ds = (n :: ns).map PyData.int ∧ Q (.int (ns.foldl f n)) (.fz true)
  | [(.tuple ds, _)], Q => ∃ (n : Int) (ns : List Int), ds = (n :: ns).map PyData.int ∧ Q (.int (ns.foldl f n)) (.fz true)
  | _, _ => False
theorem cg_MM {f : Int → Int → Int} : CalG X G (rMM X.K f) (fMM f) := by
  intro σ H1 H τ ow vs ds Q Kt S gr r hf k
  unfold fMM at hf
  split at hf
  · cases r with
    | cons r1 t =>
      cases t
      obtain ⟨n, ns, rfl, q⟩ := hf
      obtain ⟨a, xs, rfl, e1, t1⟩ := r1.lst
      have := t1.ints
      subst this
      exact ⟨a, n, ns, rfl, .inl (.of e1), k _ _ _ _ Grow.refl (RV.sc fun _ => .int _) q⟩
  · cases r with
    | cons r1 t =>
      cases t
      obtain ⟨n, ns, rfl, q⟩ := hf
      obtain ⟨a, xs, rfl, e1, t1⟩ := r1.tup
      have := t1.ints
      subst this
      exact ⟨a, n, ns, rfl, .inr (.of e1), k _ _ _ _ Grow.refl (RV.sc fun _ => .int _) q⟩
  · exact hf.elim
theorem ge_min1 {e : Expr} {p : Pos} {t : TXs} (hc : X.calm = true) (hu : X.A.units + 64 < cLine) (hm : X.mg "min" = none) (ha : GA X G W [e] t) (hg : Gl X "min" := by rfl) (he : starEach [e] X.env = (false, eval e X.env) :: starEach [] X.env := by rfl) : GE X G W (.Call (.Name "min" p) [e] [] pos) (gCall (fMM min) t) :=
  ge_callB (call_min1 hc hu) cg_MM ha hm (by decide +kernel) hg (by decide) (by decide) he
theorem ge_max1 {e : Expr} {p : Pos} {t : TXs} (hc : X.calm = true) (hu : X.A.units + 64 < cLine) (hm : X.mg "max" = none) (ha : GA X G W [e] t) (hg : Gl X "max" := by rfl) (he : starEach [e] X.env = (false, eval e X.env) :: starEach [] X.env := by rfl) : GE X G W (.Call (.Name "max" p) [e] [] pos) (gCall (fMM max) t) :=
  ge_callB (call_max1 hc hu) cg_MM ha hm (by decide +kernel) hg (by decide) (by decide) he
/-! ### list(range(..)), tuple(range(..)) -/
def fLR : List (D × Kd) → QD → Prop
  | [(.int j, _)], Q => -(2 ^ 62) ≤ j ∧ j ≤ 2 ^ 24 ∧ Q (.list ((rg 0 j).map PyData.int)) (.nw true)
  | [(.int i, _), (.int j, _)], Q => (-(2 ^ 24) ≤ i ∧ i ≤ 2 ^ 24 ∧ -(2 ^ 24) ≤ j ∧ j ≤ i + 2 ^ 24) ∧ Q (.list ((rg i j).map PyData.int)) (.nw true)
  | _, _ => False
def fTR : List (D × Kd) → QD → Prop
  | [(.int j, _)], Q => -(2 ^ 62) ≤ j ∧ j ≤ 2 ^ 24 ∧ Q (.tuple ((rg 0 j).map PyData.int)) (.fz true)
  | [(.int i, _), (.int j, _)], Q => (-(2 ^ 24) ≤ i ∧ i ≤ 2 ^ 24 ∧ -(2 ^ 24) ≤ j ∧ j ≤ i + 2 ^ 24) ∧ Q (.tuple ((rg i j).map PyData.int)) (.fz true)
  | _, _ => False
theorem rgV_eq {a b : Int} : rgV a b = ((rg a b)).map V.int := by unfold rgV rg; rw [List.map_map]; rfl
theorem dps_rg {K : PySem.W.Frag} {H : Hp} {P : Addr → Prop} {a b : Int} : DPs K H P (rgV a b) ((rg a b).map PyData.int) := by rw [rgV_eq]; exact DPs.ofInts _
theorem ge_lr1 {a : Expr} {p p2 : Pos} {pos2 : Pos} {ta : TX} (hc : X.calm = true) (hm : X.mg "list" = none) (hm2 : X.mg "range" = none) (ha : GE X G W a ta) (hg : Gl X "list" := by rfl) (hg2 : Gl X "range" := by rfl) (na2 : starEach [a] X.env = (false, eval a X.env) :: starEach [] X.env := by rfl)
    (na : starEach [.Call (.Name "range" p2) [a] [] pos2] X.env = (false, eval (.Call (.Name "range" p2) [a] [] pos2) X.env) :: starEach [] X.env := by rfl) : GE X G W (.Call (.Name "list" p) [.Call (.Name "range" p2) [a] [] pos2] [] pos) (gCall fLR (gCons ta gNil)) := by
  obtain ⟨te, p1, f1⟩ := ha.ex
  refine ⟨_, pe_listRg hc hg hm (prg_1 hg2 hm2 p1 na2) na, fun σ H τ ow Q wq Kt S h k w => f1 σ H τ ow _ wq _ S h (fun x H1 dx kx g1 r1 q1 => ?_) w⟩
  cases dx with
  | int j =>
    obtain ⟨q0, q1, q2⟩ := (show -(2 ^ 62) ≤ j ∧ j ≤ 2 ^ 24 ∧ Q (.list ((rg 0 j).map PyData.int)) (.nw true) from q1)
    exact ⟨j, r1.int, ⟨by omega, by omega, by omega, by omega, by omega⟩, fun l hl => k _ _ _ _ (g1.trans (Grow.upd hl)) (RV.new S g1 hl dps_rg) q2⟩
  | _ => exact q1.elim
theorem ge_tr1 {a : Expr} {p p2 : Pos} {pos2 : Pos} {ta : TX} (hc : X.calm = true) (hm : X.mg "tuple" = none) (hm2 : X.mg "range" = none) (ha : GE X G W a ta) (hg : Gl X "tuple" := by rfl) (hg2 : Gl X "range" := by rfl) (na2 : starEach [a] X.env = (false, eval a X.env) :: starEach [] X.env := by rfl)
    (na : starEach [.Call (.Name "range" p2) [a] [] pos2] X.env = (false, eval (.Call (.Name "range" p2) [a] [] pos2) X.env) :: starEach [] X.env := by rfl) : GE X G W (.Call (.Name "tuple" p) [.Call (.Name "range" p2) [a] [] pos2] [] pos) (gCall fTR (gCons ta gNil)) := by
  obtain ⟨te, p1, f1⟩ := ha.ex
  refine ⟨_, pe_tupRg hc hg hm (prg_1 hg2 hm2 p1 na2) na, fun σ H τ ow Q wq Kt S h k w => f1 σ H τ ow _ wq _ S h (fun x H1 dx kx g1 r1 q1 => ?_) w⟩
  cases dx with
  | int j =>
    obtain ⟨q0, q1, q2⟩ := (show -(2 ^ 62) ≤ j ∧ j ≤ 2 ^ 24 ∧ Q (.tuple ((rg 0 j).map PyData.int)) (.fz true) from q1)
    exact ⟨j, r1.int, ⟨by omega, by omega, by omega, by omega, by omega⟩, fun l hl => k _ _ _ _ (g1.trans (Grow.upd hl)) (RV.newT S g1 hl dps_rg) q2⟩
  | _ => exact q1.elim
/-! ### xs.index(y) -/
def fIndex : D → D → QD → Prop
  | .list ds, d, Q => SeqAt.shaped (.list ds) = true ∧ SeqAt.shaped d = true ∧ ∃ (j : Nat) (z : D), ds[j]? = some z ∧ PyData.eqv z d = true ∧ (∀ (m : Nat) (z' : D), m < j → ds[m]? = some z' → PyData.eqv z' d = false) ∧ Q (.int (j : Nat)) (.fz true)
  | _, _, _ => False
def gIndex (to ta : TX) : TX := fun τ Q wq => to τ (fun dx _ => (∃ ds, dx = .list ds) ∧ ta τ (fun d _ => fIndex dx d Q) wq) wq
theorem ge_index {o e : Expr} {to ta : TX} {p2 p3 : Pos} (hu : X.A.units + 65 < cLine) (ho : GE X G W o to) (he : GE X G W e ta) (hb : attributeBase o "index" X.env (eval o X.env) = eval o X.env := by rfl)
    (hf : ((backTo p3 (starEach [e] X.env)).all (fun x => !x.1) && (backToKw p3 (keywordEach [] X.env)).all (fun x => x.1.isSome) && decide ([e].length + ([] : List Keyword).length + (if ([] : List Keyword).isEmpty then 0 else 1) < 30)) = true := by rfl)
    (hl : (p2.endLine == p3.line) = true := by rfl) (hs : starEach [e] X.env = (false, eval e X.env) :: starEach [] X.env := by rfl) (hp : (backTo p3 (starEach [] X.env)).any (·.1) = false := by rfl) :
    GE X G W (.Call (.Attribute o "index" p2) [e] [] p3) (gIndex to ta) := by
  obtain ⟨t1, q1, f1⟩ := ho.ex
  obtain ⟨t2, q2, f2⟩ := he.ex
  refine ⟨_, pe_bm PySem.F.plainAttrs_list PySem.F.slot_list_index PySem.F.type_list_index (mt_indexD hu) q1 (pa_cons q2 pa_nil hs) hb hf hl hs hp, fun σ H τ ow Q wq Kt S h k w => ?_⟩
  refine f1 σ H τ ow _ wq _ S h (fun x H1 dx kx g1 r1 q1 => ?_) w
  obtain ⟨⟨ds, rfl⟩, q1⟩ := q1
  obtain ⟨a, xs, rfl, e1, t1⟩ := r1.lst
  refine ⟨.inl ⟨rfl, _, .inl (.inl e1)⟩, f2 σ H1 τ ow _ wq _ (S.grow g1) q1 (fun y H2 d ky g2 r2 q2 => ?_) (w.grow g1)⟩
  obtain ⟨h1, h2, j, z, h3, h4, h5, h6⟩ := q2
  exact ⟨a, y, d, ds, j, z, rfl, rfl, (r1.grow S g1 g2).dp (nd_shaped h1), r2.dp (nd_shaped h2), h1, h2, h3, h4, h5, k _ _ _ _ (g1.trans g2) (RV.sc fun _ => .int _) h6⟩
end
end TL

set_option maxHeartbeats 4000000
namespace TL
open PySem PySem.Spec PyProof.Rows L2
section
variable {X : Cx} {G : Gh} {W : WX} {pos : Pos}
theorem DP.pastO {K : PySem.W.Frag} {ow : Ow} {H : Hp} {k : Nat} {a : Addr} {o' : HO} {b : Bool} {v : V} {d : D} (o : ow a = some (some k)) (m0 : Mut (H a)) (h : DP K H (Fz G ow b) v d) : DP K (upd H a o') (Fz G ow b) v d :=
  h.keep (fun c ob p e => by rw [upd_ne fun z => by rw [Fz, z, o] at p; exact nomatch p.1]; exact e) (fun c ob e n => by rw [upd_ne fun z => n (by rw [z]; exact m0)]; exact e) fun _ p => p
/-- y.pop(i) of an owned list: the item, the slots then -/
def popSl (τ : Slots) (ky : Nat) (d : D) (Q : D → Bool → Slots → Prop) : Prop := match τ[ky]?, d with
  | some (some (.own es c)), .int i => 0 ≤ i ∧ i < (es.length : Nat) ∧ es.length ≤ sizeLine ∧ ∃ z, es[i.toNat]? = some z ∧ Q z (c || im z) (τ.set ky (some (.own (es.eraseIdx i.toNat) c)))
  | _, _ => False
theorem popSl_int {τ : Slots} {ky : Nat} {d : D} {Q : D → Bool → Slots → Prop} {es : List D} {c : Bool} (e : τ[ky]? = some (some (.own es c))) (h : popSl τ ky d Q) : ∃ i : Int, d = .int i ∧ 0 ≤ i ∧ i < (es.length : Nat) ∧ es.length ≤ sizeLine ∧ ∃ z, es[i.toNat]? = some z ∧ Q z (c || im z) (τ.set ky (some (.own (es.eraseIdx i.toNat) c))) := by
  unfold popSl at h
  rw [e] at h
  cases d with
  | int i => exact ⟨i, rfl, h⟩
  | _ => exact h.elim
theorem pop_ix {n : Nat} {i : Int} (h0 : 0 ≤ i) (h1 : i < (n : Nat)) : seqIndex? i n = some i.toNat := (ixN_seq (show ixN n i = some i.toNat by unfold ixN; rw [if_pos h0, if_pos h1])).1
/-- the reading of y.pop(e) -/
theorem pop_sem {τ : Slots} {ow : Ow} {σ : L2.St} {H1 : Hp} {ky : Nat} {es : List D} {c : Bool} {v : V} {d : D} {Q : D → Bool → Slots → Prop} {Kt : VK} {l : Addr} (S : Sim X.K G τ ow σ H1) (e : τ[ky]? = some (some (.own es c))) (el : σ[ky]? = some (some (.ref l))) (hv : DP X.K H1 (fun _ => True) v d) (h : popSl τ ky d Q)
    (k : ∀ z y τ' H2, Sim X.K G τ' ow σ H2 → FrS ow H1 ow H2 → DP X.K H2 (Fz G ow (c || im z)) y z → (∀ b, b ≠ l → H2 b = H1 b) → τ' = τ.set ky (some (.own (es.eraseIdx (match d with | .int i => i.toNat | _ => 0)) c)) → Q z (c || im z) τ' → Kt y H2) : rPopAt (.ref l) [v] H1 Kt := by
  obtain ⟨i, rfl, h0, h1, h2, z, hz, q⟩ := popSl_int e h
  obtain ⟨a, xs, e1, o, e2, t, put⟩ := S.putL e
  rw [el] at e1
  cases e1
  obtain ⟨y, hy, ry⟩ := t.get hz
  obtain ⟨S2, f2⟩ := put (xs.eraseIdx i.toNat) (es.eraseIdx i.toNat) c (t.eraseIdx _)
  have ev : v = .int i := by cases hv; rfl
  have z24 : es.length ≤ 16777216 := by rw [← sizeLine_eq]; exact h2
  refine ⟨l, xs, i, i.toNat, y, rfl, by rw [ev], e2, by omega, by omega, by rw [t.length]; exact pop_ix h0 h1, hy, ?_⟩
  exact k z y _ _ S2 f2 (DP.pastO o (by rw [e2]; trivial) ry).up (fun b hb => upd_ne hb) rfl q
/-- x.append(y.pop(e)) -/
def sAppPop (kx ky : Nat) (te : TX) : TSt := fun De wq τ => kx ≠ ky ∧ (∃ ds b, τ[kx]? = some (some (.own ds b))) ∧ (∃ es c, τ[ky]? = some (some (.own es c))) ∧
  te τ (fun d _ => popSl τ ky d fun z c τ' => appSl τ[kx]? z (.fz c) fun sl => De.nx (τ'.set kx (some sl))) (fun nm => wq nm τ)
theorem gs_appPop (kx ky : Nat) {x y : Str} {e : Expr} {t : TX} {p1 p2 p3 r1 r2 r3 : Pos} (he : GE X G W e t) (hi : X.N[kx]? = some x := by rfl) (hj : X.N[ky]? = some y := by rfl) (hv : Vis X.env.scope x := by first | exact Or.inl rfl | exact Or.inr (Or.inl rfl) | exact Or.inr (Or.inr rfl)) (hw : Vis X.env.scope y := by first | exact Or.inl rfl | exact Or.inr (Or.inl rfl) | exact Or.inr (Or.inr rfl)) (hd : (x == ("__debug__" : Str)) = false := by decide)
    (hcd : (x == ("__classdict__" : Str)) = false := by decide) (hd' : (y == ("__debug__" : Str)) = false := by decide) (hcd' : (y == ("__classdict__" : Str)) = false := by decide)
    (hb : attributeBase (.Name x p1) "append" X.env (eval (.Name x p1) X.env) = eval (.Name x p1) X.env := by rfl) (hb' : attributeBase (.Name y r1) "pop" X.env (eval (.Name y r1) X.env) = eval (.Name y r1) X.env := by rfl)
    (hf : ((backTo p3 (starEach [.Call (.Attribute (.Name y r1) "pop" r2) [e] [] r3] X.env)).all (fun x => !x.1) && (backToKw p3 (keywordEach [] X.env)).all (fun x => x.1.isSome) && decide ([Expr.Call (.Attribute (.Name y r1) "pop" r2) [e] [] r3].length + ([] : List Keyword).length + (if ([] : List Keyword).isEmpty then 0 else 1) < 30)) = true := by rfl)
    (hf' : ((backTo r3 (starEach [e] X.env)).all (fun x => !x.1) && (backToKw r3 (keywordEach [] X.env)).all (fun x => x.1.isSome) && decide ([e].length + ([] : List Keyword).length + (if ([] : List Keyword).isEmpty then 0 else 1) < 30)) = true := by rfl)
    (hl : (p2.endLine == p3.line) = true := by rfl) (hl' : (r2.endLine == r3.line) = true := by rfl) (hs : starEach [.Call (.Attribute (.Name y r1) "pop" r2) [e] [] r3] X.env = (false, eval (.Call (.Attribute (.Name y r1) "pop" r2) [e] [] r3) X.env) :: starEach [] X.env := by rfl)
    (hs' : starEach [e] X.env = (false, eval e X.env) :: starEach [] X.env := by rfl) (hp : (backTo p3 (starEach [] X.env)).any (·.1) = false := by rfl) (hp' : (backTo r3 (starEach [] X.env)).any (·.1) = false := by rfl)
    (hsw : swapsWith (.Call (.Attribute (.Name x p1) "append" p2) [.Call (.Attribute (.Name y r1) "pop" r2) [e] [] r3] [] p3) none pos.line X.env = pure false := by rfl) :
    GS X G W (.Expr (.Call (.Attribute (.Name x p1) "append" p2) [.Call (.Attribute (.Name y r1) "pop" r2) [e] [] r3] [] p3) pos) (sAppPop kx ky t) := by
  obtain ⟨te, q1, f1⟩ := he.ex
  refine ⟨_, ps_expr (pe_bm PySem.F.plainAttrs_list PySem.F.slot_list_append PySem.F.type_list_append mt_append (pe_var hi hv hd hcd) (pa_cons (pe_bm PySem.F.plainAttrs_list PySem.F.slot_list_pop PySem.F.type_list_pop mt_popAt (pe_var hj hw hd' hcd') (pa_cons q1 pa_nil hs') hb' hf' hl' hs' hp') pa_nil hs) hb hf hl hs hp) hsw, fun σ H τ ow De wq Dh S h E => ?_⟩
  obtain ⟨hne, ⟨ds, b, ex⟩, ⟨es, c, ey⟩, h⟩ := h
  obtain ⟨a, xs, e1, o1, e2, _, _⟩ := S.putL ex
  obtain ⟨l, ys, e3, o3, e4, _, _⟩ := S.putL ey
  refine ⟨.ref a, e1, .inl ⟨rfl, _, .inl (.inl e2)⟩, .ref l, e3, .inl ⟨rfl, _, .inl (.inl e4)⟩, f1 σ H τ ow _ _ _ S h (fun v H1 d kd g r q => ?_) (E.wk S)⟩
  refine pop_sem (S.grow g) ey e3 r.dpAny q fun z y τ' H2 S2 f2 ry _ eτ q => ?_
  rw [ex] at q
  have ex' : τ'[kx]? = some (some (.own ds b)) := by rw [eτ, List.getElem?_set_ne (fun z => hne z.symm)]; exact ex
  obtain ⟨a', xs', g1, o', g2, t', put⟩ := S2.putL ex'
  rw [e1] at g1
  cases g1
  obtain ⟨S3, f3⟩ := put (xs' ++ [y]) (ds ++ [z]) (b && (c || im z)) ((t'.mono fun _ p => p.andL).append (.cons (ry.mono fun _ p => p.andR) .nil))
  exact ⟨a, xs', y, rfl, rfl, g2, by rw [t'.length]; exact q.1, E.nx _ ow _ _ S3 (((g.frs S).trans f2).trans f3) q.2⟩
/-- x = y.pop(e) -/
def sSetPop (kx ky : Nat) (te : TX) : TSt := fun De wq τ => (∃ es c, τ[ky]? = some (some (.own es c))) ∧ te τ (fun d _ => popSl τ ky d fun z c τ' => De.nx (τ'.set kx (some (.fz z c)))) (fun nm => wq nm τ)
theorem gs_setPop (kx ky : Nat) {x y : Str} {e : Expr} {t : TX} {p1 r1 r2 r3 : Pos} (hN : X.N.Nodup) (he : GE X G W e t) (hk : G.pool = none ∨ kx ≠ G.ps) (hi : X.N[kx]? = some x := by rfl) (hj : X.N[ky]? = some y := by rfl) (hx : Loc X.env.scope x := by first | exact .inl rfl | exact .inr rfl) (hw : Vis X.env.scope y := by first | exact Or.inl rfl | exact Or.inr (Or.inl rfl) | exact Or.inr (Or.inr rfl))
    (hd' : (y == ("__debug__" : Str)) = false := by decide) (hcd' : (y == ("__classdict__" : Str)) = false := by decide)
    (hb' : attributeBase (.Name y r1) "pop" X.env (eval (.Name y r1) X.env) = eval (.Name y r1) X.env := by rfl)
    (hf' : ((backTo r3 (starEach [e] X.env)).all (fun x => !x.1) && (backToKw r3 (keywordEach [] X.env)).all (fun x => x.1.isSome) && decide ([e].length + ([] : List Keyword).length + (if ([] : List Keyword).isEmpty then 0 else 1) < 30)) = true := by rfl)
    (hl' : (r2.endLine == r3.line) = true := by rfl) (hs' : starEach [e] X.env = (false, eval e X.env) :: starEach [] X.env := by rfl) (hp' : (backTo r3 (starEach [] X.env)).any (·.1) = false := by rfl)
    (hsw : swapsWith (.Call (.Attribute (.Name y r1) "pop" r2) [e] [] r3) (some (.Name x p1)) pos.line X.env = pure false := by rfl) (hfn : X.fn x = true ∨ X.env.scope.names.lookup x = some .local := by first | exact .inl rfl | exact .inr rfl | assumption) :
    GS X G W (.Assign [.Name x p1] (.Call (.Attribute (.Name y r1) "pop" r2) [e] [] r3) pos) (sSetPop kx ky t) := by
  obtain ⟨te, q1, f1⟩ := he.ex
  refine ⟨_, ps_set hN hi hx (pe_bm PySem.F.plainAttrs_list PySem.F.slot_list_pop PySem.F.type_list_pop mt_popAt (pe_var hj hw hd' hcd') (pa_cons q1 pa_nil hs') hb' hf' hl' hs' hp') hsw hfn, fun σ H τ ow De wq Dh S h E => ?_⟩
  obtain ⟨⟨es, c, ey⟩, h⟩ := h
  obtain ⟨l, ys, e3, o3, e4, _, _⟩ := S.putL ey
  refine ⟨.ref l, e3, .inl ⟨rfl, _, .inl (.inl e4)⟩, f1 σ H τ ow _ _ _ S h (fun v H1 d kd g r q => ?_) (E.wk S)⟩
  refine pop_sem (S.grow g) ey e3 r.dpAny q fun z y τ' H2 S2 f2 ry _ eτ q => ?_
  exact E.nx _ ow _ _ (S2.setFz hk ry) ((g.frs S).trans f2) q
/-- x = y.pop() -/
def sSetPop0 (kx ky : Nat) : TSt := fun De _ τ => match τ[ky]? with
  | some (some (.own es c)) => ∃ z, es.getLast? = some z ∧ De.nx ((τ.set ky (some (.own es.dropLast c))).set kx (some (.fz z c)))
  | _ => False
theorem gs_setPop0 (kx ky : Nat) {x y : Str} {p1 r1 r2 r3 : Pos} (hN : X.N.Nodup) (hk : G.pool = none ∨ kx ≠ G.ps) (hi : X.N[kx]? = some x := by rfl) (hj : X.N[ky]? = some y := by rfl) (hx : Loc X.env.scope x := by first | exact .inl rfl | exact .inr rfl) (hw : Vis X.env.scope y := by first | exact Or.inl rfl | exact Or.inr (Or.inl rfl) | exact Or.inr (Or.inr rfl))
    (hd' : (y == ("__debug__" : Str)) = false := by decide) (hcd' : (y == ("__classdict__" : Str)) = false := by decide)
    (hb' : attributeBase (.Name y r1) "pop" X.env (eval (.Name y r1) X.env) = eval (.Name y r1) X.env := by rfl) (hl' : (r2.endLine == r3.line) = true := by rfl)
    (hsw : swapsWith (.Call (.Attribute (.Name y r1) "pop" r2) [] [] r3) (some (.Name x p1)) pos.line X.env = pure false := by rfl) (hfn : X.fn x = true ∨ X.env.scope.names.lookup x = some .local := by first | exact .inl rfl | exact .inr rfl | assumption) :
    GS X G W (.Assign [.Name x p1] (.Call (.Attribute (.Name y r1) "pop" r2) [] [] r3) pos) (sSetPop0 kx ky) := by
  refine ⟨_, ps_set hN hi hx (pe_bm0 PySem.F.plainAttrs_list PySem.F.slot_list_pop PySem.F.type_list_pop mt_pop (pe_var hj hw hd' hcd') hb' hl') hsw hfn, fun σ H τ ow De wq Dh S h E => ?_⟩
  unfold sSetPop0 at h
  split at h
  · rename_i es c ey
    obtain ⟨z, hz, q⟩ := h
    obtain ⟨l, xs, e3, o3, e4, t, put⟩ := S.putL ey
    rw [List.getLast?_eq_getElem?] at hz
    obtain ⟨y, hy, ry⟩ := t.get hz
    obtain ⟨S2, f2⟩ := put xs.dropLast es.dropLast c (by rw [List.dropLast_eq_take, List.dropLast_eq_take, t.length]; exact t.take _)
    exact ⟨.ref l, e3, .inl ⟨rfl, _, .inl (.inl e4)⟩, l, xs, y, rfl, rfl, e4, by rw [t.length]; exact hy, E.nx _ ow _ _ (S2.setFz hk (DP.pastO o3 (by rw [e4]; trivial) ry)) f2 q⟩
  · exact h.elim
end
end TL

set_option maxHeartbeats 4000000
namespace TL
open PySem PySem.Spec PyProof.Rows L2
/-! ### a square of bools: above[u][v] -/
def mbOk (n : Nat) : List Addr → Hp → V → Prop := fun A H v => ∃ a xs, v = .ref a ∧ a ∈ A ∧ H a = some (.lst xs) ∧ xs.length = n ∧ ∀ x ∈ xs, ∃ (c : Addr) (bs : List Bool), x = .ref c ∧ c ∈ A ∧ H c = some (.lst (bs.map V.bl)) ∧ bs.length = n
theorem mbOk_loc {n : Nat} {A : List Addr} {v : V} (H1 H2 : Hp) (h : ∀ a ∈ A, ∀ o, H1 a = some o → H2 a = some o) (m : mbOk n A H1 v) : mbOk n A H2 v := by
  obtain ⟨a, xs, rfl, ha, e, l, hx⟩ := m
  refine ⟨a, xs, rfl, ha, h a ha _ e, l, fun x hm => ?_⟩
  obtain ⟨c, bs, rfl, hc, e2, l2⟩ := hx x hm
  exact ⟨c, bs, rfl, hc, h c hc _ e2, l2⟩
section
variable {K : PySem.W.Frag} {G : Gh} {τ : Slots} {ow : Ow} {σ : L2.St} {H H' : Hp}
open Classical in
theorem Sim.setReg (S : Sim K G τ ow σ H) (g : Grow K G H H') {k : Nat} {v : V} {φ : List Addr → Hp → V → Prop} {A : List Addr} (hp : G.pool = none ∨ k ≠ G.ps) (hA : ∀ a ∈ A, H a = none ∧ Mut (H' a)) (hφ : φ A H' v)
    (hl : ∀ H1 H2 : Hp, (∀ a ∈ A, ∀ o, H1 a = some o → H2 a = some o) → φ A H1 v → φ A H2 v) : ∃ ow', Sim K G (τ.set k (some (.reg φ))) ow' (σ.set k (some v)) H' ∧ FrS ow H ow' H' := by
  have S' := S.grow g
  have nA : ∀ {c : Addr} {o : HO}, H c = some o → c ∉ A := fun e z => by rw [(hA _ z).1] at e; cases e
  let ow' : Ow := fun c => if c ∈ A then some (some k) else ow c
  have on : ∀ {c : Addr}, c ∉ A → ow' c = ow c := fun h => if_neg h
  have kl : ∀ (b : Bool) (c : Addr) (o : HO), (Fz G ow b c ∧ H c ≠ none) → H c = some o → H' c = some o := fun b c o p e => g.keep c o e (S.npool p.1.1)
  have kt : ∀ c o, H c = some o → ¬ Mut (H c) → H' c = some o := fun c o e m => g.keep c o e (S.nmut m)
  have kp : ∀ (b : Bool) c, (Fz G ow b c ∧ H c ≠ none) → Fz G ow' b c := fun b c q => ⟨by
    rw [on fun z => q.2 (hA c z).1]; exact q.1.1, q.1.2⟩
  refine ⟨ow', ⟨by simp [S.len], fun j s e => ?_, fun c j e => ?_, fun c o e hn => ?_, fun p e => ?_, fun p e => ?_⟩, fun c o e hn => ?_⟩
  · rcases set_get e with ⟨rfl, rfl, hl'⟩ | ⟨hne, e'⟩
    · exact ⟨v, by rw [List.getElem?_set_self (by rw [← S.len]; exact hl')], A, fun a ha => ⟨if_pos ha, (hA a ha).2⟩, hφ, hl⟩
    · rw [List.getElem?_set_ne (fun z => hne z.symm)]
      obtain ⟨u, e1, q⟩ := S.sl j s e'
      refine ⟨u, e1, ?_⟩
      cases s with
      | fz d b' => exact (DP.there (show DP K H (Fz G ow b') u d from q)).keep (kl b') kt (kp b')
      | own ds b' =>
        obtain ⟨c, ys, rfl, o1, e4, t'⟩ := q
        exact ⟨c, ys, rfl, by rw [on (nA e4)]; exact o1, g.keep c _ e4 (S.nslot o1), (DPs.there t').keep (kl b') kt (kp b')⟩
      | dK kvs =>
        obtain ⟨c, ys, rfl, o1, e4, t'⟩ := q
        exact ⟨c, ys, rfl, by rw [on (nA e4)]; exact o1, g.keep c _ e4 (S.nslot o1), Paired.mapP t' fun p q z => ⟨z.1, (DP.there z.2).keep (kl true) kt (kp true)⟩⟩
      | dT kvs =>
        obtain ⟨c, ys, rfl, o1, e4, t'⟩ := q
        exact ⟨c, ys, rfl, by rw [on (nA e4)]; exact o1, g.keep c _ e4 (S.nslot o1), Paired.mapP t' fun p q z => ⟨z.1, (DP.there z.2).keep (kl true) kt (kp true)⟩⟩
      | reg ψ => exact RegOk.keep q fun c o oc e => ⟨g.keep c o e (S.nslot oc), by rw [on (nA e)]; exact oc⟩
  · by_cases hc : c ∈ A
    · exact (hA c hc).2
    · rw [on hc] at e
      exact S'.own c j e
  · obtain ⟨e1, e2⟩ := S'.ent c o e hn
    exact ⟨e1, by rw [on (nA (S.ent c o e hn).1)]; exact e2⟩
  · obtain ⟨e1, e2, e3⟩ := S'.pool p e
    obtain ⟨_, _, _, _, _, q1, q2, _⟩ := (S.pool p e).1
    exact ⟨e1, by rw [on (nA q1)]; exact e2, by rw [on (nA q2)]; exact e3⟩
  · have hk : k ≠ G.ps := hp.resolve_left fun z => by rw [z] at e; cases e
    rw [List.getElem?_set_ne hk]
    exact S.pl p e
  · exact ⟨g.keep c o e (S.npool hn), by rw [on (nA e)]; exact hn⟩
end
section
variable {X : Cx} {G : Gh} {W : WX} {pos : Pos}
/-- a square as it is made -/
def FreshM (n : Nat) (H H' : Hp) (v : V) : Prop := ∃ D xs, v = .ref D ∧ H D = none ∧ H' D = some (.lst xs) ∧ xs.length = n ∧ ∀ x ∈ xs, ∃ (c : Addr) (bs : List Bool), x = .ref c ∧ H c = none ∧ H' c = some (.lst (bs.map V.bl)) ∧ bs.length = n
/-- above = [[..] for u in ..] -/
def sMB (k : Nat) (it : TIt) (tg : TGt) (te : TX) (vs : List Nat) : TSt := fun De wq τ => it τ (fun ds b _ => ds.length ≤ sizeLine ∧ (∀ d ∈ ds, tg d b (wipeT τ vs) fun τ1 => te τ1 (fun y ky => ky = .nw true ∧ ∃ bs : List Bool, y = .list (bs.map PyData.bool) ∧ bs.length = ds.length) (fun _ => False)) ∧
  De.nx (τ.set k (some (.reg (mbOk ds.length))))) (fun nm => wq nm τ)
theorem gs_newMB {y : Str} {elt tg iter : Expr} {scope : Scope} {own : List (Str × Nat)} {it : TIt} {g : TGt} {ks : List Nat} {te : TX} {p2 py : Pos} (k : Nat) (hc : X.calm = true) (hN : X.N.Nodup) (hi : GI X G W tg iter it) (ok : BlkOk X.N X.env.scope scope own) (hp : G.pool = none ∨ G.ps ∉ own.map (·.2)) (hpk : G.pool = none ∨ k ≠ G.ps)
    (hg : ∀ p, GG (blkX X scope p) G tg ks g) (he : ∀ p, GE (blkX X scope p) G WNo elt te) (hks : ∀ i ∈ ks, i ∈ own.map (·.2)) (hy : X.N[k]? = some y := by rfl) (hx : Loc X.env.scope y := by first | exact .inl rfl | exact .inr rfl)
    (hsw : swapsWith (.ListComp elt [⟨tg, iter, [], 0⟩] scope p2) (some (.Name y py)) pos.line X.env = pure false := by rfl) (hfn : X.fn y = true ∨ X.env.scope.names.lookup y = some .local := by first | exact .inl rfl | exact .inr rfl | assumption)
    (hs : ∀ x, foldedSetIterable iter X.env x = pure x := by intro _; rfl) : GS X G W (.Assign [.Name y py] (.ListComp elt [⟨tg, iter, [], 0⟩] scope p2) pos) (sMB k it g te (own.map (·.2))) := by
  obtain ⟨wi, p1, f1⟩ := hi.ex
  refine ⟨_, ps_set hN hy hx (pe_lc hc hN p1 ok (fun s H C cl fp => pgB (s, H, C, cl, fp)) (fun s H C cl fp => ptB (s, H, C, cl, fp)) (fun s H C cl fp => peB (s, H, C, cl, fp)) hs) hsw hfn, fun σ H τ ow De wq Dh S h E => ?_⟩
  refine f1 σ H τ ow _ _ _ S h (fun J H1 ds b ownf gr iok q => ?_) (E.wk S)
  obtain ⟨hz, hel, hnx⟩ := q
  intro D nD
  have S1 := S.grow gr
  have ih := S1.hide nD []
  refine ⟨fun i m H2 => ∃ xs, Sim X.K G τ (owD ow D) σ H2 ∧ Grow X.K G H1 H2 ∧ H2 D = some (.lst xs) ∧ i + m = ds.length ∧ xs.length = i ∧ ∀ x ∈ xs, ∃ (c : Addr) (bs : List Bool), x = .ref c ∧ H1 c = none ∧ c ≠ D ∧ H2 c = some (.lst (bs.map V.bl)) ∧ bs.length = ds.length,
    ⟨ds.length, [], ih, Grow.upd nD, upd_same, by simp, rfl, fun x hx => by simp at hx⟩, ?_⟩
  rintro i m H2 ⟨xs, S2, g2, eD, em, el, hx2⟩
  have fr : FrS ow H1 (owD ow D) H2 := fun c o e n => ⟨g2.keep c o e (S1.npool n), by rw [owD_ne (ne_of_none e nD)]; exact n⟩
  obtain ⟨go, stop⟩ := iok τ _ σ H2 S2 (fun _ c o k e ok => g2.keep c o e (S1.nslot ok)) fr
  cases m with
  | zero =>
    have ei : i = ds.length := by omega
    subst ei
    refine .inl ⟨stop, ?_⟩
    let A : List Addr := D :: xs.filterMap fun x => match x with
      | .ref c => some c
      | _ => none
    have gg := gr.trans g2
    have inA : ∀ {c : Addr}, V.ref c ∈ xs → c ∈ A := fun h => List.mem_cons_of_mem _ (List.mem_filterMap.mpr ⟨_, h, rfl⟩)
    obtain ⟨ow', S3, f3⟩ := S.setReg gg (k := k) (v := .ref D) (φ := mbOk ds.length) (A := A) hpk (fun a ha => by
      rcases List.mem_cons.mp ha with rfl | ha
      · exact ⟨gr.none S nD, by rw [eD]; trivial⟩
      · obtain ⟨x, hm, e⟩ := List.mem_filterMap.mp ha
        obtain ⟨c, bs, rfl, n1, n2, e2, l2⟩ := hx2 x hm
        injection e with e
        subst e
        exact ⟨gr.none S n1, by rw [e2]; trivial⟩) ⟨D, xs, rfl, List.mem_cons_self, eD, el, fun x hm => by
      obtain ⟨c, bs, rfl, n1, n2, e2, l2⟩ := hx2 x hm
      exact ⟨c, bs, rfl, inA hm, e2, l2⟩⟩ (fun a b => mbOk_loc a b)
    exact E.nx _ ow' _ _ S3 f3 hnx
  | succ m =>
    have hi : i < ds.length := by omega
    obtain ⟨go1, go2⟩ := go i ds[i] (List.getElem?_eq_getElem hi)
    refine .inr ⟨go1, fun H' => ∃ xs, Sim X.K G τ (owD ow D) σ H' ∧ Grow X.K G H1 H' ∧ H' D = some (.lst xs) ∧ xs.length = i + 1 ∧ ∀ x ∈ xs, ∃ (c : Addr) (bs : List Bool), x = .ref c ∧ H1 c = none ∧ c ≠ D ∧ H' c = some (.lst (bs.map V.bl)) ∧ bs.length = ds.length,
      fun H' ⟨xs, z1, z2, z3, z4, z5⟩ => ⟨m, Nat.lt_succ_self m, xs, z1, z2, z3, by omega, z4, z5⟩, fun x H3 y => ?_⟩
    obtain ⟨g3, r3⟩ := go2 x H3 y
    have S3 := S2.grow g3
    have g13 := g2.trans g3
    have nDp : G.pool ≠ some D := S1.npool (S1.freshO nD)
    have eD3 := g3.keep D _ eD nDp
    have q2 := hel ds[i] (List.getElem_mem hi)
    intro p
    obtain ⟨g0, pg0, fg⟩ := (hg p).ex
    refine ⟨g0, pg0, fg (L2.wipe σ _) H3 (wipeT τ _) (owD ow D) x ds[i] b _ _ (S3.wipe hp) r3 q2 fun τ4 σ4 S4 hw q4 => ⟨(hw _ hks).trans wipe_wipe, ?_⟩⟩
    intro p
    obtain ⟨t0, pt0, ft⟩ := (gts_nil (X := blkX X scope p) (G := G) (W := WNo)).ex
    refine ⟨t0, pt0, ft σ4 H3 τ4 (owD ow D) (fun bb => bb = true) (fun _ => False) _ S4 rfl (fun b' H4 g4 q5 => ?_) fun nm H' _ z => z⟩
    subst q5
    have S5 := S3.grow g4
    have g14 := g13.trans g4
    have eD4 := g4.keep D _ eD3 nDp
    show geB X scope elt σ4 H4 _
    intro p
    obtain ⟨e0, pe0, fe⟩ := (he p).ex
    refine ⟨e0, pe0, fe σ4 H4 τ4 (owD ow D) _ _ _ (S4.grow g4) q4 (fun v H5 d kd g5 r5 q6 => ?_) fun nm H' _ z => z⟩
    obtain ⟨rfl, bs, rfl, hbs⟩ := q6
    obtain ⟨c, ys, ds', rfl, ed, n4, e5, t5⟩ := r5
    injection ed with ed
    subst ed
    have eb := t5.bools
    subst eb
    have S6 := S5.grow g5
    have eD5 := g5.keep D _ eD4 nDp
    have ncD : c ≠ D := fun z => by rw [z, eD4] at n4; cases n4
    have n1 : H1 c = none := Grow.none S1 g14 n4
    have old : ∀ (c' : Addr) (o : HO), H1 c' = none → c' ≠ D → H2 c' = some o → H5 c' = some o := fun c' o n1 nd e => by
      have np : G.pool ≠ some c' := S1.npool (S1.freshO n1)
      exact (g3.trans (g4.trans g5)).keep c' o e np
    refine ⟨xs, eD5, by rw [el]; omega, xs ++ [.ref c], S6.more nDp eD5 _, ?_, upd_same, by simp [el], fun x hm => ?_⟩
    · have g15 := g14.trans g5
      exact ⟨fun c o e n => by rw [upd_ne (ne_of_none e nD)]; exact g15.keep c o e n, fun pp e hh => by
        have hpD : pp ≠ D := fun z => by rw [e, z] at nDp; exact nDp rfl
        have z := g15.pool pp e hh
        refine z.keep (fun o q => by rw [upd_ne hpD]; exact q) (fun o q => ?_)
        have := (S6.pool pp e).2.2
        rw [upd_ne (owD_none this).1]; exact q⟩
    · rcases List.mem_append.mp hm with hm | hm
      · obtain ⟨c', bs', rfl, h1, h2, h3, h4⟩ := hx2 x hm
        exact ⟨c', bs', rfl, h1, h2, by rw [upd_ne h2]; exact old c' _ h1 h2 h3, h4⟩
      · rw [List.mem_singleton.mp hm]
        exact ⟨c, bs, rfl, n1, ncD, by rw [upd_ne ncD]; exact e5, hbs⟩
/-- above[e1][e2] -/
def gMB (k : Nat) (t1 t2 : TX) : TX := fun τ Q wq => ∃ n, τ[k]? = some (some (.reg (mbOk n))) ∧ t1 τ (fun d1 _ => (∃ i : Int, d1 = .int i ∧ 0 ≤ i ∧ i < (n : Nat)) ∧ t2 τ (fun d2 _ => (∃ j : Int, d2 = .int j ∧ 0 ≤ j ∧ j < (n : Nat)) ∧ ∀ b, Q (.bool b) (.fz true)) wq) wq
theorem atI_in {α : Type} {xs : List α} {i : Int} (h0 : 0 ≤ i) (h1 : i < (xs.length : Nat)) : ∃ x, atI xs i = some x ∧ x ∈ xs ∧ ixN xs.length i = some i.toNat := by
  have hl : i.toNat < xs.length := by omega
  have e : ixN xs.length i = some i.toNat := by unfold ixN; rw [if_pos h0, if_pos h1]
  refine ⟨xs[i.toNat], ?_, List.getElem_mem hl, e⟩
  unfold atI
  rw [e]
  exact List.getElem?_eq_getElem hl
theorem Sim.mb {K : PySem.W.Frag} {τ : Slots} {ow : Ow} {σ : L2.St} {H : Hp} (S : Sim K G τ ow σ H) {k n : Nat} (e : τ[k]? = some (some (.reg (mbOk n)))) : ∃ (a : Addr) (xs : List V) (A : List Addr), σ[k]? = some (some (.ref a)) ∧ (∀ c ∈ A, ow c = some (some k) ∧ Mut (H c)) ∧ a ∈ A ∧ H a = some (.lst xs) ∧ xs.length = n ∧
    ∀ x ∈ xs, ∃ (c : Addr) (bs : List Bool), x = .ref c ∧ c ∈ A ∧ H c = some (.lst (bs.map V.bl)) ∧ bs.length = n := by
  obtain ⟨v, e1, A, hA, ⟨a, xs, rfl, ha, e2, l, hx⟩, _⟩ := S.sl k _ e
  exact ⟨a, xs, A, e1, hA, ha, e2, l, hx⟩
theorem Sim.row {K : PySem.W.Frag} {τ : Slots} {ow : Ow} {σ : L2.St} {H : Hp} (S : Sim K G τ ow σ H) {k n : Nat} {a : Addr} (e : τ[k]? = some (some (.reg (mbOk n)))) (e0 : σ[k]? = some (some (.ref a))) {i : Int} (h0 : 0 ≤ i) (h1 : i < (n : Nat)) :
    ∃ (xs : List V) (c : Addr) (bs : List Bool), H a = some (.lst xs) ∧ atI xs i = some (.ref c) ∧ H c = some (.lst (bs.map V.bl)) ∧ bs.length = n ∧ ow c = some (some k) := by
  obtain ⟨a', xs, A, e1, hA, ha, e2, l, hx⟩ := S.mb e
  rw [e0] at e1
  cases e1
  obtain ⟨z, hz, hm, _⟩ := atI_in h0 (show i < (xs.length : Nat) by rw [l]; exact h1)
  obtain ⟨c, bs, rfl, hc, e3, l3⟩ := hx z hm
  exact ⟨xs, c, bs, e2, hz, e3, l3, (hA c hc).1⟩
theorem ge_mb (k : Nat) {x : Str} {a b : Expr} {t1 t2 : TX} {p1 p2 : Pos} (ha : GE X G W a t1) (hb : GE X G W b t2) (hN : X.N[k]? = some x := by rfl) (hv : Vis X.env.scope x := by first | exact Or.inl rfl | exact Or.inr (Or.inl rfl) | exact Or.inr (Or.inr rfl)) (hd : (x == ("__debug__" : Str)) = false := by decide)
    (hcd : (x == ("__classdict__" : Str)) = false := by decide) (h1 : PlainIx a := by exact fun _ _ => rfl) (h2 : PlainIx b := by exact fun _ _ => rfl) : GE X G W (.Subscript (.Subscript (.Name x p1) a p2) b pos) (gMB k t1 t2) := by
  obtain ⟨te, q1, f1⟩ := ha.ex
  obtain ⟨tf, q2, f2⟩ := hb.ex
  refine ⟨_, pe_ix ix_seq (pe_ix ix_seq (pe_var hN hv hd hcd) q1 h1) q2 h2, fun σ H τ ow Q wq Kt S h kt w => ?_⟩
  obtain ⟨n, ek, h⟩ := h
  obtain ⟨a0, xs0, A0, e0, _⟩ := S.mb ek
  refine ⟨.ref a0, e0, f1 σ H τ ow _ wq _ S h (fun y H1 d1 k1 g1 r1 c1 => ?_) w⟩
  have S1 := S.grow g1
  obtain ⟨⟨i, rfl, i0, i1⟩, c1⟩ := c1
  obtain ⟨xs, c, bs, e2, ez, e3, l3, oc⟩ := S1.row ek e0 i0 i1
  refine .inl ⟨a0, xs, i, _, rfl, r1.int, .of e2, ez, f2 σ H1 τ ow _ wq _ S1 c1 (fun y2 H2 d2 k2 g2 r2 c2 => ?_) (w.grow g1)⟩
  obtain ⟨⟨j, rfl, j0, j1⟩, c2⟩ := c2
  obtain ⟨z, hz, hm, _⟩ := atI_in j0 (show j < ((bs.map V.bl).length : Nat) by rw [List.length_map, l3]; exact j1)
  obtain ⟨bb, _, rfl⟩ := List.mem_map.mp hm
  exact .inl ⟨c, bs.map V.bl, j, _, rfl, r2.int, .of (g2.keep c _ e3 (S1.nslot oc)), hz, kt _ _ _ _ (g1.trans g2) (RV.sc fun _ => .bl _) (c2 bb)⟩
/-- above[e1][e2] = e -/
def sSetMB (k : Nat) (te t1 t2 : TX) : TSt := fun De wq τ => ∃ n, τ[k]? = some (some (.reg (mbOk n))) ∧ te τ (fun d _ => (∃ b, d = .bool b) ∧ t1 τ (fun d1 _ => (∃ i : Int, d1 = .int i ∧ 0 ≤ i ∧ i < (n : Nat)) ∧ t2 τ (fun d2 _ => (∃ j : Int, d2 = .int j ∧ 0 ≤ j ∧ j < (n : Nat)) ∧
  De.nx (τ.set k (some (.reg (mbOk n))))) (fun nm => wq nm τ)) (fun nm => wq nm τ)) (fun nm => wq nm τ)
theorem gs_setMB (k : Nat) {x : Str} {a b e : Expr} {te t1 t2 : TX} {p1 p2 p3 : Pos} (he : GE X G W e te) (ha : GE X G W a t1) (hb : GE X G W b t2) (hN : X.N[k]? = some x := by rfl) (hv : Vis X.env.scope x := by first | exact Or.inl rfl | exact Or.inr (Or.inl rfl) | exact Or.inr (Or.inr rfl)) (hd : (x == ("__debug__" : Str)) = false := by decide)
    (hcd : (x == ("__classdict__" : Str)) = false := by decide) (h1 : PlainIx a := by exact fun _ _ => rfl)
    (hpl : ∀ v, assign (.Subscript (.Subscript (.Name x p1) a p2) b p3) X.env v = (do
      let ov ← holding [v] (eval (.Subscript (.Name x p1) a p2) X.env)
      let iv ← holding [v, ov] (eval b X.env)
      standAt p3
      holding [v, ov, iv] (setItem ov iv v)
      release [v, ov, iv] []) := by intro _; rfl)
    (hs : swapsWithSole [.Subscript (.Subscript (.Name x p1) a p2) b p3] e pos.line X.env = pure false := by rfl) (hw : swappedStores [.Subscript (.Subscript (.Name x p1) a p2) b p3] e X.env = pure none := by rfl)
    (h1' : (assignEach [.Subscript (.Subscript (.Name x p1) a p2) b p3] X.env).map (·.2) = [assign (.Subscript (.Subscript (.Name x p1) a p2) b p3) X.env] := by rfl) :
    GS X G W (.Assign [.Subscript (.Subscript (.Name x p1) a p2) b p3] e pos) (sSetMB k te t1 t2) := by
  obtain ⟨t0, q0, f0⟩ := he.ex
  obtain ⟨ta, q1, f1⟩ := ha.ex
  obtain ⟨tb, q2, f2⟩ := hb.ex
  refine ⟨_, ps_asg q0 (pg_sub (pe_ix ix_seq (pe_var hN hv hd hcd) q1 h1) q2 set_list hpl) hs hw h1', fun σ H τ ow De wq Dh S h E => ?_⟩
  obtain ⟨n, ek, h⟩ := h
  obtain ⟨a0, xs0, A0, e0, _⟩ := S.mb ek
  refine f0 σ H τ ow _ _ _ S h (fun v H1 d kd g r q => ?_) (E.wk S)
  obtain ⟨⟨bv, rfl⟩, q⟩ := q
  have S1 := S.grow g
  refine ⟨.ref a0, e0, f1 σ H1 τ ow _ _ _ S1 q (fun y H2 d1 k1 g1 r1 c1 => ?_) ((E.wk S).grow g)⟩
  have S2 := S1.grow g1
  obtain ⟨⟨i, rfl, i0, i1⟩, c1⟩ := c1
  obtain ⟨xs, c, bs, e2, ez, e3, l3, oc⟩ := S2.row ek e0 i0 i1
  refine .inl ⟨a0, xs, i, _, rfl, r1.int, .of e2, ez, f2 σ H2 τ ow _ _ _ S2 c1 (fun y2 H3 d2 k2 g2 r2 c2 => ?_) (((E.wk S).grow g).grow g1)⟩
  obtain ⟨⟨j, rfl, j0, j1⟩, c2⟩ := c2
  have S3 := S2.grow g2
  have e3' := g2.keep c _ e3 (S2.nslot oc)
  obtain ⟨z, hz, hm, hix⟩ := atI_in j0 (show j < ((bs.map V.bl).length : Nat) by rw [List.length_map, l3]; exact j1)
  refine ⟨c, bs.map V.bl, j, j.toNat, rfl, r2.int, e3', hix, ?_⟩
  have ev : v = .bl bv := r.bool
  subst ev
  obtain ⟨v0, es, A, hA, ⟨a1, ys, rfl, ha1, e5, l5, hx5⟩, hloc⟩ := S3.sl k _ ek
  have nea : a1 ≠ c := fun z => by
    subst z
    rw [e5] at e3'
    injection e3' with e3'
    injection e3' with e3'
    have hn : 0 < ys.length := by omega
    obtain ⟨c', _, e, _⟩ := hx5 _ (List.getElem_mem hn)
    have hb0 : ys[0] ∈ bs.map V.bl := by rw [← e3']; exact List.getElem_mem hn
    obtain ⟨b', _, e'⟩ := List.mem_map.mp hb0
    rw [e] at e'
    cases e'
  obtain ⟨S4, f4⟩ := S3.putO (a := c) (o' := .lst ((bs.map V.bl).set j.toNat (.bl bv))) (sl := .reg (mbOk n)) es oc (by rw [e3']; trivial) trivial ⟨A, fun a ha => ⟨(hA a ha).1, by
      by_cases q : a = c
      · subst q; rw [upd_same]; trivial
      · rw [upd_ne q]; exact (hA a ha).2⟩, ⟨a1, ys, rfl, ha1, by rw [upd_ne nea]; exact e5, l5, fun x hx => by
      obtain ⟨c', bs', rfl, hc', e6, l6⟩ := hx5 x hx
      by_cases q : c' = c
      · subst q
        exact ⟨c', bs.set j.toNat bv, rfl, hc', by rw [upd_same, List.map_set], by rw [List.length_set]; exact l3⟩
      · exact ⟨c', bs', rfl, hc', by rw [upd_ne q]; exact e6, l6⟩⟩, fun a b => mbOk_loc a b⟩
  exact E.nx _ ow _ _ S4 ((((g.trans g1).trans g2).frs S).trans f4) c2
end
end TL

set_option maxHeartbeats 4000000
namespace TL
open PySem PySem.Spec PyProof.Rows L2
section
variable {X : Cx} {G : Gh} {W : WX} {pos : Pos}
/-- the hidden list comes into a slot -/
theorem Sim.adopt {K : PySem.W.Frag} {τ : Slots} {ow : Ow} {σ : L2.St} {H : Hp} {D : Addr} {xs : List V} {ds : List PyData} {f : Bool} {k : Nat} (S : Sim K G τ (owD ow D) σ H) (hp : G.pool = none ∨ k ≠ G.ps) (nD : G.pool ≠ some D) (e : H D = some (.lst xs)) (t : DPs K H (Fz G (owD ow D) f) xs ds) :
    ∃ ow', Sim K G (τ.set k (some (.own ds f))) ow' (σ.set k (some (.ref D))) H ∧ ∀ a, owD ow D a = none → ow' a = none := by
  let ow' : Ow := fun c => if c = D then some (some k) else owD ow D c
  have on : ∀ {c : Addr}, c ≠ D → ow' c = owD ow D c := fun h => if_neg h
  have oD : owD ow D D = some none := if_pos rfl
  have nz : ∀ {c : Addr}, owD ow D c = none → c ≠ D := fun h z => by rw [z, oD] at h; cases h
  have nk : ∀ {c : Addr} {j : Nat}, owD ow D c = some (some j) → c ≠ D := fun h z => by rw [z, oD] at h; cases h
  have kp : ∀ (b : Bool) (c : Addr), Fz G (owD ow D) b c → Fz G ow' b c := fun b c p => ⟨by rw [on (nz p.1)]; exact p.1, p.2⟩
  refine ⟨ow', ⟨by simp [S.len], fun j s ej => ?_, fun c j ej => ?_, fun c o ec hn => ?_, fun p ep => ?_, fun p ep => ?_⟩, fun a h => by rw [on (nz h)]; exact h⟩
  · rcases set_get ej with ⟨rfl, rfl, hl⟩ | ⟨hne, e'⟩
    · exact ⟨_, by rw [List.getElem?_set_self (by rw [← S.len]; exact hl)], D, xs, rfl, if_pos rfl, e, t.mono fun c => kp f c⟩
    · rw [List.getElem?_set_ne (fun z => hne z.symm)]
      obtain ⟨v, e1, q⟩ := S.sl j s e'
      refine ⟨v, e1, ?_⟩
      cases s with
      | fz d b => exact (show DP K H (Fz G _ b) v d from q).mono fun c => kp b c
      | own zs b =>
        obtain ⟨a, ys, rfl, o, e2, t2⟩ := q
        exact ⟨a, ys, rfl, by rw [on (nk o)]; exact o, e2, t2.mono fun c => kp b c⟩
      | dK kvs =>
        obtain ⟨a, ys, rfl, o, e2, t2⟩ := q
        exact ⟨a, ys, rfl, by rw [on (nk o)]; exact o, e2, Paired.mapP t2 fun _ _ z => ⟨z.1, z.2.mono fun c => kp true c⟩⟩
      | dT kvs =>
        obtain ⟨a, ys, rfl, o, e2, t2⟩ := q
        exact ⟨a, ys, rfl, by rw [on (nk o)]; exact o, e2, Paired.mapP t2 fun _ _ z => ⟨z.1, z.2.mono fun c => kp true c⟩⟩
      | reg φ => exact RegOk.keep q fun c ob oc ec => ⟨ec, by rw [on (nk oc)]; exact oc⟩
  · by_cases h : c = D
    · subst h; rw [e]; trivial
    · rw [on h] at ej
      exact S.own c j ej
  · obtain ⟨z1, z2⟩ := S.ent c o ec hn
    exact ⟨z1, by rw [on (nz z2)]; exact z2⟩
  · obtain ⟨z1, z2, z3⟩ := S.pool p ep
    exact ⟨z1, by rw [on fun z => nD (by rw [← z]; exact ep)]; exact z2, by rw [on (nz z3)]; exact z3⟩
  · have hk : k ≠ G.ps := hp.resolve_left fun z => by rw [z] at ep; cases ep
    rw [List.getElem?_set_ne hk]
    exact S.pl p ep
/-- y = [z.pop(e) for j in ..] -/
def lcP (tg : TGt) (te : TX) (ky : Nat) (vs : List Nat) (b : Bool) (F : Slots → List D → Bool → Prop) : List D → Slots → List D → Bool → Prop
  | [], τ, acc, f => F τ acc f
  | d :: ds, τ, acc, f => tg d b (wipeT τ vs) fun τ1 => te τ1 (fun y _ => popSl τ ky y fun z c τ' => lcP tg te ky vs b F ds τ' (acc ++ [z]) (f && c)) (fun _ => False)
def sLcPop (k ky : Nat) (it : TIt) (tg : TGt) (te : TX) (vs : List Nat) : TSt := fun De wq τ => it τ (fun ds b own => own = false ∧ ds.length ≤ sizeLine ∧ (∃ es c, τ[ky]? = some (some (.own es c))) ∧ lcP tg te ky vs b (fun τ' acc f => De.nx (τ'.set k (some (.own acc f)))) ds τ [] true) (fun nm => wq nm τ)
theorem gs_setLcPop {y z : Str} {e tg iter : Expr} {scope : Scope} {own : List (Str × Nat)} {it : TIt} {g : TGt} {ks : List Nat} {te : TX} {p2 py r1 r2 r3 : Pos} (k ky : Nat) (hc : X.calm = true) (hN : X.N.Nodup) (hi : GI X G W tg iter it) (ok : BlkOk X.N X.env.scope scope own) (hp : G.pool = none ∨ G.ps ∉ own.map (·.2)) (hpk : G.pool = none ∨ k ≠ G.ps) (hky : ky ∉ own.map (·.2)) (hne : k ≠ ky)
    (hg : ∀ p, GG (blkX X scope p) G tg ks g) (he : ∀ p, GE (blkX X scope p) G WNo e te) (hks : ∀ i ∈ ks, i ∈ own.map (·.2)) (hy : X.N[k]? = some y := by rfl) (hz : X.N[ky]? = some z := by rfl) (hx : Loc X.env.scope y := by first | exact .inl rfl | exact .inr rfl)
    (hw : ∀ p, Vis (blkX X scope p).env.scope z := by intro _; first | exact Or.inl rfl | exact Or.inr (Or.inl rfl) | exact Or.inr (Or.inr rfl)) (hd' : (z == ("__debug__" : Str)) = false := by decide) (hcd' : (z == ("__classdict__" : Str)) = false := by decide)
    (hb' : ∀ p, attributeBase (.Name z r1) "pop" (blkX X scope p).env (eval (.Name z r1) (blkX X scope p).env) = eval (.Name z r1) (blkX X scope p).env := by intro _; rfl)
    (hf' : ∀ p, ((backTo r3 (starEach [e] (blkX X scope p).env)).all (fun x => !x.1) && (backToKw r3 (keywordEach [] (blkX X scope p).env)).all (fun x => x.1.isSome) && decide ([e].length + ([] : List Keyword).length + (if ([] : List Keyword).isEmpty then 0 else 1) < 30)) = true := by intro _; rfl)
    (hl' : (r2.endLine == r3.line) = true := by rfl) (hs' : ∀ p, starEach [e] (blkX X scope p).env = (false, eval e (blkX X scope p).env) :: starEach [] (blkX X scope p).env := by intro _; rfl) (hp' : ∀ p, (backTo r3 (starEach [] (blkX X scope p).env)).any (·.1) = false := by intro _; rfl)
    (hsw : swapsWith (.ListComp (.Call (.Attribute (.Name z r1) "pop" r2) [e] [] r3) [⟨tg, iter, [], 0⟩] scope p2) (some (.Name y py)) pos.line X.env = pure true) (hyl : X.env.scope.names.lookup y = some .local := by rfl)
    (hs : ∀ x, foldedSetIterable iter X.env x = pure x := by intro _; rfl) : GS X G W (.Assign [.Name y py] (.ListComp (.Call (.Attribute (.Name z r1) "pop" r2) [e] [] r3) [⟨tg, iter, [], 0⟩] scope p2) pos) (sLcPop k ky it g te (own.map (·.2))) := by
  obtain ⟨wi, p1, f1⟩ := hi.ex
  refine ⟨_, ps_setLc hc hN hy hyl hsw p1 ok (fun s H C cl fp => pgB (s, H, C, cl, fp)) (fun s H C cl fp => ptB (s, H, C, cl, fp)) (fun s H C cl fp => peB (s, H, C, cl, fp)) hs, fun σ H τ ow De wq Dh S h E => ?_⟩
  refine f1 σ H τ ow _ _ _ S h (fun J H1 ds b ownf gr iok q => ?_) (E.wk S)
  obtain ⟨rfl, hzl, hown, q⟩ := q
  intro D nD
  have S1 := S.grow gr
  have ih := S1.hide nD []
  have nDp : G.pool ≠ some D := S1.npool (S1.freshO nD)
  refine ⟨fun i m H2 => ∃ τ2 xs acc f, Sim X.K G τ2 (owD ow D) σ H2 ∧ FrS ow H1 (owD ow D) H2 ∧ (∃ es c, τ2[ky]? = some (some (.own es c))) ∧ H2 D = some (.lst xs) ∧ DPs X.K H2 (Fz G (owD ow D) f) xs acc ∧ i + m = ds.length ∧ acc.length ≤ i ∧ lcP g te ky (own.map (·.2)) b (fun τ' acc f => De.nx (τ'.set k (some (.own acc f)))) (ds.drop i) τ2 acc f,
    ⟨ds.length, τ, [], [], true, ih, fun c o e n => ⟨by rw [upd_ne (ne_of_none e nD)]; exact e, by rw [owD_ne (ne_of_none e nD)]; exact n⟩, hown, upd_same, .nil, by simp, Nat.le_refl _, by simpa using q⟩, ?_⟩
  rintro i m H2 ⟨τ2, xs, acc, f, S2, fr, ⟨es, c, ey⟩, eD, tD, em, ea, q2⟩
  obtain ⟨go, stop⟩ := iok τ2 _ σ H2 S2 (fun z => by cases z) fr
  cases m with
  | zero =>
    have ei : i = ds.length := by omega
    subst ei
    rw [List.drop_length] at q2
    obtain ⟨ow', S3, h3⟩ := S2.adopt (k := k) hpk nDp eD tD
    exact .inl ⟨stop, E.nx _ ow' _ _ S3 (fun c o ec n => by
      obtain ⟨z1, zn⟩ := gr.frs S c o ec n
      obtain ⟨z2, z3⟩ := fr c o z1 zn
      exact ⟨z2, h3 c z3⟩) q2⟩
  | succ m =>
    have hi : i < ds.length := by omega
    obtain ⟨go1, go2⟩ := go i ds[i] (List.getElem?_eq_getElem hi)
    refine .inr ⟨go1, fun H' => ∃ τ2 xs acc f, Sim X.K G τ2 (owD ow D) σ H' ∧ FrS ow H1 (owD ow D) H' ∧ (∃ es c, τ2[ky]? = some (some (.own es c))) ∧ H' D = some (.lst xs) ∧ DPs X.K H' (Fz G (owD ow D) f) xs acc ∧ acc.length ≤ i + 1 ∧ lcP g te ky (own.map (·.2)) b (fun τ' acc f => De.nx (τ'.set k (some (.own acc f)))) (ds.drop (i + 1)) τ2 acc f,
      fun H' ⟨τ2, xs, acc, f, z1, z2, z3, z4, z5, z6, z7⟩ => ⟨m, Nat.lt_succ_self m, τ2, xs, acc, f, z1, z2, z3, z4, z5, by omega, z6, z7⟩, fun x H3 yy => ?_⟩
    obtain ⟨g3, r3'⟩ := go2 x H3 yy
    have S3 := S2.grow g3
    have oD : owD ow D D = some none := if_pos rfl
    rw [List.drop_eq_getElem_cons hi] at q2
    simp only [lcP] at q2
    obtain ⟨l, ys, el, _⟩ := S2.putL ey
    intro p
    obtain ⟨g0, pg0, fg⟩ := (hg p).ex
    refine ⟨g0, pg0, fg (L2.wipe σ _) H3 (wipeT τ2 _) (owD ow D) x ds[i] b _ _ (S3.wipe hp) r3' q2 fun τ4 σ4 S4 hwp q4 => ⟨(hwp _ hks).trans wipe_wipe, ?_⟩⟩
    have hσ4 : σ4[ky]? = some (some (.ref l)) := by
      have h1 := congrArg (fun s : L2.St => s[ky]?) ((hwp _ hks).trans wipe_wipe)
      simp only [wipe_get, if_neg hky] at h1
      rw [h1]; exact el
    intro p
    obtain ⟨t0, pt0, ft⟩ := (gts_nil (X := blkX X scope p) (G := G) (W := WNo)).ex
    refine ⟨t0, pt0, ft σ4 H3 τ4 (owD ow D) (fun bb => bb = true) (fun _ => False) _ S4 rfl (fun b' H4 g4 q5 => ?_) fun nm H' _ z => z⟩
    subst q5
    have S5 := S3.grow g4
    show geB X scope _ σ4 H4 _
    intro p
    obtain ⟨e0, pe0, fe⟩ := (he p).ex
    refine ⟨_, pe_bm PySem.F.plainAttrs_list PySem.F.slot_list_pop PySem.F.type_list_pop mt_popAt (pe_var hz (hw p) hd' hcd') (pa_cons pe0 pa_nil (hs' p)) (hb' p) (hf' p) hl' (hs' p) (hp' p), ?_⟩
    obtain ⟨l', ys', el', _, e4, _⟩ := S5.putL ey
    rw [el] at el'
    cases el'
    refine ⟨.ref l, hσ4, .inl ⟨rfl, _, .inl (.inl e4)⟩, fe σ4 H4 τ4 (owD ow D) _ _ _ (S4.grow g4) q4 (fun v H5 d kd g5 r5 q6 => ?_) fun nm H' _ z => z⟩
    have S6 := S5.grow g5
    unfold tNil
    have g35 := g3.trans (g4.trans g5)
    have eD5 := g35.keep D _ eD nDp
    have tD5 := DPs.grow S2 g35 S2.fzp tD
    obtain ⟨l2, ys2, el2, o2, e5, t5, _⟩ := S6.putL ey
    rw [el] at el2
    cases el2
    have nlD : D ≠ l := fun z => by
      rw [← z, oD] at o2
      cases o2
    refine pop_sem S6 ey el r5.dpAny q6 fun zz yv τ' H6 S7 f7 ry hu eτ q7 => ?_
    have eD6 : H6 D = some (.lst xs) := by rw [hu D nlD]; exact eD5
    have tD6 := DPs.frs S6 f7 tD5
    have frA : FrS ow H1 (owD ow D) H6 := fr.trans ((g35.frs S2).trans f7)
    refine ⟨xs, eD6, by rw [tD.length]; omega, τ', xs ++ [yv], acc ++ [zz], f && (c || im zz), S7.more nDp eD6 _, fun a o ea na => ?_, ?_, upd_same, ?_, by simp; omega, q7⟩
    · obtain ⟨z1, z2⟩ := frA a o ea na
      exact ⟨by rw [upd_ne (owD_none z2).1]; exact z1, z2⟩
    · have hl : ky < τ2.length := (List.getElem?_eq_some_iff.mp ey).1
      exact ⟨_, _, by rw [eτ, List.getElem?_set_self hl]⟩
    · have all : DPs X.K H6 (Fz G (owD ow D) (f && (c || im zz))) (xs ++ [yv]) (acc ++ [zz]) := (tD6.mono fun _ q => q.andL).append (.cons (ry.mono fun _ q => q.andR) .nil)
      exact all.keep (fun a o p e => by rw [upd_ne (owD_none p.1).1]; exact e) (fun a o e m => by rw [upd_ne fun z => m (by rw [z, eD6]; trivial)]; exact e) fun _ p => p
end
end TL

set_option maxHeartbeats 1000000
namespace TL
open PySem PySem.Spec PyProof.Rows L2
/-- a for loop by an invariant over the items done -/
theorem forL_inv {α : Type} {inj : α → D} {tg : TGt} {body : TSt} {De : EndsT} {wq : WS} {b : Bool} (I : List α → Slots → Prop) {xs : List α} {τ : Slots} (h0 : I [] τ)
    (step : ∀ (done : List α) (x : α) (rest : List α), xs = done ++ x :: rest → ∀ τ, I done τ → ∀ F : Slots → Prop, (∀ τ', I (done ++ [x]) τ' → F τ') → tg (inj x) b τ fun τ1 => body { De with nx := F, ct := F, bk := De.nx } wq τ1)
    (fin : ∀ τ, I xs τ → De.nx τ) : forL tg body De wq b (xs.map inj) τ := by
  suffices H : ∀ (rest done : List α) (τ : Slots), xs = done ++ rest → I done τ → forL tg body De wq b (rest.map inj) τ from H xs [] τ rfl h0
  intro rest
  induction rest with
  | nil => intro done τ e h; rw [List.append_nil] at e; subst e; exact fin τ h
  | cons x rest ih =>
    intro done τ e h
    exact step done x rest e τ h _ fun τ' h' => ih (done ++ [x]) τ' (by rw [e, List.append_assoc]; rfl) h'
inductive All2 {α β : Type} (P : α → β → Prop) : List α → List β → Prop
  | nil : All2 P [] []
  | cons {a : α} {b : β} {as : List α} {bs : List β} : P a b → All2 P as bs → All2 P (a :: as) (b :: bs)
theorem All2.len {α β : Type} {P : α → β → Prop} : ∀ {as : List α} {bs : List β}, All2 P as bs → as.length = bs.length
  | _, _, .nil => rfl
  | _, _, .cons _ t => by rw [List.length_cons, List.length_cons, t.len]
theorem All2.right {α β : Type} {P : α → β → Prop} : ∀ {as : List α} {bs : List β}, All2 P as bs → ∀ b ∈ bs, ∃ a ∈ as, P a b
  | _, _, .nil, b, h => by simp at h
  | _, _, .cons p t, b, h => by
    rcases List.mem_cons.mp h with rfl | h
    · exact ⟨_, List.mem_cons_self, p⟩
    · obtain ⟨a, ha, q⟩ := t.right b h
      exact ⟨a, List.mem_cons_of_mem _ ha, q⟩
/-- [f(x) for x in xs], each result as told -/
theorem lcL_rel {tg : TGt} {te : TX} {τ : Slots} {Q : QD} {b : Bool} {α β : Type} {inj : α → D} (out : β → D) (P : α → β → Prop) : ∀ {xs : List α} {acc : List D} {fl : Bool},
    (∀ x ∈ xs, ∀ (Ry : D → Kd → Prop), (∀ y, P x y → ∀ ky, notOw ky → ky.b = true → Ry (out y) ky) → tg (inj x) b τ fun τ1 => te τ1 Ry (fun _ => False)) →
    (∀ ys : List β, All2 P xs ys → Q (.list (acc ++ ys.map out)) (.nw fl)) → lcL tg gYes te τ Q b (xs.map inj) acc fl
  | [], acc, fl, _, hQ => by
    have z := hQ [] .nil
    simp only [List.map_nil, List.append_nil] at z
    exact z
  | x :: xs, acc, fl, h, hQ => by
    refine h x List.mem_cons_self _ fun y hy ky hk hb => ⟨hk, ?_⟩
    refine lcL_rel out P (fun z hz => h z (List.mem_cons_of_mem _ hz)) fun ys hys => ?_
    have z := hQ (y :: ys) (.cons hy hys)
    rw [hb, Bool.and_true, List.append_assoc]
    exact z
theorem sl_le {n : Nat} (h : n ≤ 16777216) : n ≤ sizeLine := by rw [sizeLine_eq]; exact h
theorem sl_lt {n : Nat} (h : n < 16777216) : n < sizeLine := by rw [sizeLine_eq]; exact h
/-! ### data that can be compared and sorted: ints, pairs, rows of ints -/
structure Emb {α : Type} (inj : α → D) (lt : α → α → Prop) : Prop where
  eqv : ∀ a b, PyData.eqv (inj a) (inj b) = true ↔ a = b
  imm : ∀ a, im (inj a) = true
  can : ∀ a, PyData.canLay0 (inj a) = true
  dep : ∀ a, (inj a).depth ≤ 10
  alk : ∀ a b, PySem.W.alike (inj a) (inj b) = true
  le : ∀ a b, dLe (inj a) (inj b) = true ↔ ¬ lt b a
  tri : ∀ a b, lt a b ∨ a = b ∨ lt b a
  irr : ∀ a, ¬ lt a a
  trn : ∀ a b c, lt a b → lt b c → lt a c
def tI (l : List Int) : D := .tuple (l.map PyData.int)
theorem emb_int : Emb PyData.int (fun a b : Int => a < b) where
  eqv a b := by rw [eqv_int]; simp
  imm _ := rfl
  can _ := by simp [PyData.canLay0]
  dep _ := by simp [PyData.depth]
  alk _ _ := by simp [PySem.W.alike]
  le a b := by
    have e := PySem.W.dataLe_int (β := Int) id
    have e2 : dLe (.int a) (.int b) = decide (a ≤ b) := congrFun (congrFun e a) b
    rw [e2, decide_eq_true_eq]; omega
  tri a b := by omega
  irr a := by omega
  trn a b c := by omega
theorem emb_pair : Emb pD lt2 where
  eqv a b := by rw [eqv_pD]; simp
  imm _ := rfl
  can _ := by simp [pD, PyData.canLay0, PyData.canLayAll0]
  dep _ := by simp [pD, PyData.depth, PyData.depthAll]
  alk _ _ := by simp [pD, PySem.W.alike, PySem.W.alikeAll]
  le a b := by
    have e := PySem.W.dataLe_ii (β := Int × Int) (fun p => p.1) (fun p => p.2)
    have e2 : dLe (pD a) (pD b) = decide (a.1 < b.1 ∨ (a.1 = b.1 ∧ a.2 ≤ b.2)) := congrFun (congrFun e a) b
    rw [e2, decide_eq_true_eq]; unfold lt2; omega
  tri a b := by
    unfold lt2
    rcases Int.lt_trichotomy a.1 b.1 with h | h | h
    · exact .inl (.inl h)
    · rcases Int.lt_trichotomy a.2 b.2 with h2 | h2 | h2
      · exact .inl (.inr ⟨h, h2⟩)
      · exact .inr (.inl (Prod.ext h h2))
      · exact .inr (.inr (.inr ⟨h.symm, h2⟩))
    · exact .inr (.inr (.inl h))
  irr a := by unfold lt2; omega
  trn a b c := by unfold lt2; omega
theorem eqvAll_ints (l m : List Int) : PyData.eqvAll (l.map .int) (m.map .int) = decide (l = m) := by
  induction l generalizing m with
  | nil => cases m <;> simp [PyData.eqvAll]
  | cons x l ih =>
    cases m with
    | nil => simp [PyData.eqvAll]
    | cons y m =>
      simp only [List.map_cons, PyData.eqvAll, ih, eqv_int]
      rw [Bool.eq_iff_iff]
      simp
theorem eqv_tI (l m : List Int) : PyData.eqv (tI l) (tI m) = decide (l = m) := by
  simp only [tI, PyData.eqv, eqvAll_ints]
theorem imAll_ints (l : List Int) : im.imAll (l.map PyData.int) = true := by
  induction l with
  | nil => rfl
  | cons x l ih => simp [im.imAll, im, ih]
theorem alkAll_ints (l m : List Int) : PySem.W.alikeAll (l.map .int) (m.map .int) = true := PySem.W.alike_ints l m
theorem emb_row : Emb tI (fun a b : List Int => a < b) where
  eqv a b := by rw [eqv_tI]; simp
  imm l := by simp [tI, im, imAll_ints]
  can l := by simp [tI, PyData.canLay0, can_ints]
  dep l := by simp [tI, PyData.depth, PySem.W.depth_ints]
  alk a b := by simp [tI, PySem.W.alike, alkAll_ints]
  le a b := by
    have e2 : dLe (tI a) (tI b) = !PySem.W.dataLt (tI b) (tI a) := rfl
    have e3 : PySem.W.dataLt (tI b) (tI a) = PySem.W.rowLt (b.map .int) (a.map .int) := PySem.W.dataLt_tuple _ _
    rw [e2, e3, PySem.W.dataLt_ints]
    simp
  tri a b := by
    by_cases h : a < b
    · exact .inl h
    · by_cases h2 : b < a
      · exact .inr (.inr h2)
      · exact .inr (.inl (List.le_antisymm (List.not_lt.mp h2) (List.not_lt.mp h)))
  irr a := List.lt_irrefl a
  trn a b c h h2 := List.lt_trans h h2
section
variable {α : Type} {inj : α → D} {lt : α → α → Prop}
theorem Emb.one (E : Emb inj lt) {a b : α} (h : inj a = inj b) : a = b := by
  rw [← E.eqv, h]
  exact (E.eqv b b).mpr rfl
theorem Emb.eqb (E : Emb inj lt) (a b : α) [Decidable (a = b)] : PyData.eqv (inj a) (inj b) = decide (a = b) := by
  rw [Bool.eq_iff_iff, E.eqv, decide_eq_true_eq]
theorem Emb.any (E : Emb inj lt) (l : List α) (a : α) [Decidable (a ∈ l)] : ((l.map inj).any fun z => PyData.eqv z (inj a)) = decide (a ∈ l) := by
  rw [Bool.eq_iff_iff]
  simp only [List.any_map, List.any_eq_true, Function.comp_apply, E.eqv, decide_eq_true_eq]
  exact ⟨fun ⟨x, hx, e⟩ => e ▸ hx, fun h => ⟨a, h, rfl⟩⟩
theorem Emb.imAll (E : Emb inj lt) (l : List α) : im.imAll (l.map inj) = true := by
  induction l with
  | nil => rfl
  | cons x l ih => simp [im.imAll, E.imm, ih]
theorem Emb.canAll (E : Emb inj lt) (l : List α) : PyData.canLayAll0 (l.map inj) = true := by
  induction l with
  | nil => simp [PyData.canLayAll0]
  | cons x l ih => simp [PyData.canLayAll0, E.can, ih]
theorem Emb.depAll (E : Emb inj lt) (l : List α) : PyData.depthAll (l.map inj) ≤ 10 := by
  induction l with
  | nil => simp [PyData.depthAll]
  | cons x l ih =>
    have := E.dep x
    simp only [List.map_cons, PyData.depthAll]
    omega
theorem Emb.sh (E : Emb inj lt) (a : α) : SeqAt.shaped (inj a) = true := by
  have := E.dep a
  simp only [SeqAt.shaped, E.can, Bool.true_and]
  exact decide_eq_true (by omega)
theorem Emb.shT (E : Emb inj lt) (l : List α) : SeqAt.shaped (.tuple (l.map inj)) = true := by
  have := E.depAll l
  simp only [SeqAt.shaped, PyData.canLay0, E.canAll, PyData.depth, Bool.true_and]
  exact decide_eq_true (by omega)
theorem Emb.shL (E : Emb inj lt) (l : List α) : SeqAt.shaped (.list (l.map inj)) = true := by
  have := E.depAll l
  simp only [SeqAt.shaped, PyData.canLay0, E.canAll, PyData.depth, Bool.true_and]
  exact decide_eq_true (by omega)
/-- strictly ascending -/
def Emb.Asc (_ : Emb inj lt) (l : List α) : Prop := l.Pairwise lt
theorem Emb.uniq (E : Emb inj lt) : ∀ {l m : List α}, l.Pairwise lt → m.Pairwise lt → (∀ p, p ∈ l ↔ p ∈ m) → l = m
  | [], [], _, _, _ => rfl
  | [], y :: m, _, _, h => by have := (h y).mpr List.mem_cons_self; simp at this
  | x :: l, [], _, _, h => by have := (h x).mp List.mem_cons_self; simp at this
  | x :: l, y :: m, hl, hm, h => by
    obtain ⟨hx, hl2⟩ := List.pairwise_cons.mp hl
    obtain ⟨hy, hm2⟩ := List.pairwise_cons.mp hm
    have exy : x = y := by
      rcases List.mem_cons.mp ((h x).mp List.mem_cons_self) with e | e
      · exact e
      · rcases List.mem_cons.mp ((h y).mpr List.mem_cons_self) with e' | e'
        · exact e'.symm
        · exact (E.irr _ (E.trn _ _ _ (hx y e') (hy x e))).elim
    subst exy
    refine congrArg _ (Emb.uniq E hl2 hm2 fun p => ?_)
    constructor
    · intro hp
      rcases List.mem_cons.mp ((h p).mp (List.mem_cons_of_mem _ hp)) with e | e
      · subst e; exact (E.irr _ (hx _ hp)).elim
      · exact e
    · intro hp
      rcases List.mem_cons.mp ((h p).mpr (List.mem_cons_of_mem _ hp)) with e | e
      · subst e; exact (E.irr _ (hy _ hp)).elim
      · exact e
theorem asc_nodup (E : Emb inj lt) {l : List α} (h : l.Pairwise lt) : l.Nodup := by
  unfold List.Nodup
  refine h.imp fun {a b} h e => ?_
  subst e
  exact E.irr _ h
/-- the sorted list -/
noncomputable def Emb.sort (_ : Emb inj lt) (l : List α) : List α := l.mergeSort fun a b => dLe (inj a) (inj b)
theorem Emb.map_sort (E : Emb inj lt) (l : List α) : (l.map inj).mergeSort dLe = (E.sort l).map inj :=
  (List.map_mergeSort (f := inj) (r := fun a b => dLe (inj a) (inj b)) (s := dLe) (l := l) fun _ _ _ _ => rfl).symm
theorem Emb.perm (E : Emb inj lt) (l : List α) : (E.sort l).Perm l := List.mergeSort_perm _ _
theorem Emb.mem (E : Emb inj lt) {l : List α} {a : α} : a ∈ E.sort l ↔ a ∈ l := (E.perm l).mem_iff
theorem dLe_tot : PySem.W.TotalLe dLe := by
  have h : PySem.W.TotalLe (PySem.W.dataLe false (id : D → D)) := by unfold PySem.W.dataLe; exact PySem.W.sortLe_total _ _ _
  exact h
theorem Emb.ord (E : Emb inj lt) (l : List α) : (E.sort l).Pairwise fun a b => ¬ lt b a := by
  have h := List.pairwise_mergeSort (le := fun a b => dLe (inj a) (inj b)) (fun a b c h1 h2 => dLe_tot.trans _ _ _ h1 h2) (fun a b => Bool.or_eq_true_iff.mpr (dLe_tot.total _ _)) l
  exact h.imp fun h => (E.le _ _).mp h
theorem Emb.asc (E : Emb inj lt) {l : List α} (h : l.Nodup) : (E.sort l).Pairwise lt := by
  have hn : (E.sort l).Nodup := (E.perm l).nodup_iff.mpr h
  exact ((E.ord l).and hn).imp fun {a b} ⟨h1, h2⟩ => by
    rcases E.tri a b with h | h | h
    · exact h
    · exact (h2 h).elim
    · exact (h1 h).elim
theorem Emb.sort_uniq (E : Emb inj lt) {l m : List α} (h : l.Nodup) (hm : m.Pairwise lt) (e : ∀ p, p ∈ l ↔ p ∈ m) : E.sort l = m :=
  E.uniq (E.asc h) hm fun p => by rw [E.mem, e]
theorem Emb.sort_same (E : Emb inj lt) {l : List α} (h : l.Pairwise lt) : E.sort l = l := E.sort_uniq (asc_nodup E h) h fun _ => Iff.rfl
theorem Emb.okAll (E : Emb inj lt) (l : List α) : PySem.W.AllAlike (l.map inj) := PySem.W.AllAlike.of E.alk
theorem Emb.sok (E : Emb inj lt) {l : List α} (h : PySem.W.Sortable (l.map inj)) : SortOk (l.map inj) := ⟨E.okAll l, h, fun d hd => by
  obtain ⟨a, _, rfl⟩ := List.mem_map.mp hd
  have := E.dep a
  omega⟩
end
theorem sok_ints (l : List Int) : SortOk (l.map PyData.int) := emb_int.sok (PySem.W.Sortable.others (enc := PyData.int) fun _ => ⟨by simp, by simp⟩)
theorem sok_pairs (l : List (Int × Int)) : SortOk (l.map pD) := sortOk_pairs l
theorem sok_rows (l : List (List Int)) (h : ∀ r ∈ l, r ≠ []) : SortOk (l.map tI) := emb_row.sok (.inl fun d hd => by
  obtain ⟨r, hr, rfl⟩ := List.mem_map.mp hd
  cases r with
  | nil => exact (h _ hr rfl).elim
  | cons x r => exact ⟨_, _, rfl⟩)
/-! ### sorted, each one once -/
theorem beq_dec {α : Type} [BEq α] [LawfulBEq α] [DecidableEq α] (a b : α) : (a == b) = decide (a = b) := by
  rw [Bool.eq_iff_iff]; simp
theorem fNe_any {d e : D} {b c : Bool} {Q : QD} (h1 : SeqAt.shaped d = true) (h2 : SeqAt.shaped e = true) (h : Q (.bool (!PyData.eqv d e)) (.fz true)) : fNe d b e c Q := by
  cases d <;> cases e <;> first
    | exact ⟨h1, h2, h⟩
    | (simp only [fNe]; simpa [PyData.eqv, beq_dec] using h)
    | (simp only [fNe]; simp only [PyData.eqv] at h; simpa [beq_dec] using h)
theorem fEq_any {d e : D} {b c : Bool} {Q : QD} (h1 : SeqAt.shaped d = true) (h2 : SeqAt.shaped e = true) (h : Q (.bool (PyData.eqv d e)) (.fz true)) : fEq d b e c Q := by
  cases d <;> cases e <;> first
    | exact ⟨h1, h2, h⟩
    | (simp only [fEq]; simpa [PyData.eqv, beq_dec] using h)
    | (simp only [fEq]; simp only [PyData.eqv] at h; simpa [beq_dec] using h)
end TL
namespace TL
open PySem PySem.Spec PyProof.Rows L2
theorem atQ0 {d : D} {ds : List D} {Q : D → Prop} : atQ (atI (d :: ds) 0) Q = Q d := by
  have : atI (d :: ds) 0 = some d := by unfold atI ixN; simp
  rw [this]; rfl
theorem atQ1 {d e : D} {ds : List D} {Q : D → Prop} : atQ (atI (d :: e :: ds) 1) Q = Q e := by
  have : atI (d :: e :: ds) 1 = some e := by unfold atI ixN; rw [if_pos (by decide), if_pos (by simp only [List.length_cons]; omega)]; rfl
  rw [this]; rfl
theorem atQ2 {d e f : D} {ds : List D} {Q : D → Prop} : atQ (atI (d :: e :: f :: ds) 2) Q = Q f := by
  have : atI (d :: e :: f :: ds) 2 = some f := by unfold atI ixN; rw [if_pos (by decide), if_pos (by simp only [List.length_cons]; omega)]; rfl
  rw [this]; rfl
theorem atQ3 {d e f g : D} {ds : List D} {Q : D → Prop} : atQ (atI (d :: e :: f :: g :: ds) 3) Q = Q g := by
  have : atI (d :: e :: f :: g :: ds) 3 = some g := by unfold atI ixN; rw [if_pos (by decide), if_pos (by simp only [List.length_cons]; omega)]; rfl
  rw [this]; rfl
theorem atQ_last {ds : List D} {d : D} {Q : D → Prop} (q : Q d) : atQ (atI (ds ++ [d]) (-1)) Q := by
  have : atI (ds ++ [d]) (-1) = some d := by
    unfold atI ixN
    rw [if_neg (by decide), if_pos (by rw [List.length_append, List.length_singleton]; omega)]
    have e : ((-1 : Int) + ((ds ++ [d]).length : Nat)).toNat = ds.length := by rw [List.length_append, List.length_singleton]; omega
    show (ds ++ [d])[((-1 : Int) + ((ds ++ [d]).length : Nat)).toNat]? = some d
    rw [e]; simp
  rw [this]; exact q
theorem atQ_map {α : Type} {inj : α → D} {l : List α} {i : Int} {Q : D → Prop} (h0 : 0 ≤ i) (h1 : i < (l.length : Nat)) (q : ∀ a, l[i.toNat]? = some a → Q (inj a)) : atQ (atI (l.map inj) i) Q := by
  have hl : i.toNat < l.length := by omega
  refine atQ_of h0 (d := inj l[i.toNat]) (by rw [List.getElem?_map, List.getElem?_eq_getElem hl]; rfl) (q _ (List.getElem?_eq_getElem hl))
/-- xs.index(a) -/
theorem fIndex_of {α : Type} {inj : α → D} {lt : α → α → Prop} (E : Emb inj lt) {l : List α} {a : α} {Q : QD} (h : a ∈ l) (q : ∀ j : Nat, l[j]? = some a → (∀ m : Nat, m < j → l[m]? ≠ some a) → Q (.int (j : Nat)) (.fz true)) : fIndex (.list (l.map inj)) (inj a) Q := by
  have key : ∃ j : Nat, l[j]? = some a ∧ ∀ m : Nat, m < j → l[m]? ≠ some a := by
    clear q
    induction l with
    | nil => simp at h
    | cons x l ih =>
      by_cases e : x = a
      · exact ⟨0, by simp [e], fun m hm => by omega⟩
      · rcases List.mem_cons.mp h with h | h
        · exact (e h.symm).elim
        · obtain ⟨j, h1, h2⟩ := ih h
          refine ⟨j + 1, by simpa using h1, fun m hm => ?_⟩
          cases m with
          | zero => simpa using e
          | succ m => simpa using h2 m (by omega)
  obtain ⟨j, h1, h2⟩ := key
  refine ⟨E.shL l, E.sh a, j, inj a, by rw [List.getElem?_map, h1]; rfl, (E.eqv _ _).mpr rfl, fun m z hm hz => ?_, q j h1 h2⟩
  rw [List.getElem?_map] at hz
  cases e : l[m]? with
  | none => rw [e] at hz; cases hz
  | some b =>
    rw [e] at hz
    cases hz
    have hb : b ≠ a := fun e' => h2 m hm (by rw [e, e'])
    cases q2 : PyData.eqv (inj b) (inj a) with
    | false => rfl
    | true => exact (hb ((E.eqv _ _).mp q2)).elim
end TL
namespace TL
open PySem PySem.Spec PyProof.Rows L2
section
variable {b c : Bool} {Q : QD} {neg : Bool}
theorem fEq_ii {i j : Int} : fEq (.int i) b (.int j) c Q = Q (.bool (decide (i = j))) (.fz true) := rfl
theorem fEq_bb {i j : Bool} : fEq (.bool i) b (.bool j) c Q = Q (.bool (decide (i = j))) (.fz true) := rfl
theorem fEq_ss {i j : Str} : fEq (.str i) b (.str j) c Q = Q (.bool (decide (i = j))) (.fz true) := rfl
theorem fEq_ll {d e : List D} : fEq (.list d) b (.list e) c Q = (SeqAt.shaped (.list d) = true ∧ SeqAt.shaped (.list e) = true ∧ Q (.bool (PyData.eqv (.list d) (.list e))) (.fz true)) := rfl
theorem fEq_tt {d e : List D} : fEq (.tuple d) b (.tuple e) c Q = (SeqAt.shaped (.tuple d) = true ∧ SeqAt.shaped (.tuple e) = true ∧ Q (.bool (PyData.eqv (.tuple d) (.tuple e))) (.fz true)) := rfl
theorem fNe_ii {i j : Int} : fNe (.int i) b (.int j) c Q = Q (.bool (!decide (i = j))) (.fz true) := rfl
theorem fNe_bb {i j : Bool} : fNe (.bool i) b (.bool j) c Q = Q (.bool (!decide (i = j))) (.fz true) := rfl
theorem fNe_ss {i j : Str} : fNe (.str i) b (.str j) c Q = Q (.bool (!decide (i = j))) (.fz true) := rfl
theorem fNe_ll {d e : List D} : fNe (.list d) b (.list e) c Q = (SeqAt.shaped (.list d) = true ∧ SeqAt.shaped (.list e) = true ∧ Q (.bool (!PyData.eqv (.list d) (.list e))) (.fz true)) := rfl
theorem fNe_tt {d e : List D} : fNe (.tuple d) b (.tuple e) c Q = (SeqAt.shaped (.tuple d) = true ∧ SeqAt.shaped (.tuple e) = true ∧ Q (.bool (!PyData.eqv (.tuple d) (.tuple e))) (.fz true)) := rfl
theorem fIn_l {d : D} {ds : List D} : fIn neg d b (.list ds) c Q = (SeqAt.shaped d = true ∧ SeqAt.shaped (.list ds) = true ∧ Q (.bool (neg ^^ ds.any fun z => PyData.eqv z d)) (.fz true)) := by cases d <;> rfl
theorem fIn_t {d : D} {ds : List D} : fIn neg d b (.tuple ds) c Q = (SeqAt.shaped d = true ∧ SeqAt.shaped (.tuple ds) = true ∧ Q (.bool (neg ^^ ds.any fun z => PyData.eqv z d)) (.fz true)) := by cases d <;> rfl
end
end TL
namespace TL
theorem emap {α β : Type} (f : α → β) (l : List α) (i : Nat) : (l.map f).eraseIdx i = (l.eraseIdx i).map f := by
  induction l generalizing i with
  | nil => rfl
  | cons x l ih => cases i <;> simp [ih]
end TL
namespace TL
theorem pick_perm {α : Type} : ∀ {l : List α} {i : Nat} (h : i < l.length), (l[i] :: l.eraseIdx i).Perm l
  | x :: l, 0, _ => .refl _
  | x :: l, i + 1, h => by
    have := pick_perm (l := l) (i := i) (by simpa using h)
    exact (List.Perm.swap _ _ _).trans (List.Perm.cons x this)
end TL
namespace TL
theorem nodup_inj {α : Type} {l : List α} (h : l.Nodup) {i j : Nat} (hi : i < l.length) (hj : j < l.length) (e : l[i] = l[j]) : i = j := by
  unfold List.Nodup at h
  rw [List.pairwise_iff_getElem] at h
  rcases Nat.lt_trichotomy i j with q | q | q
  · exact (h i j hi hj q e).elim
  · exact q
  · exact (h j i hj hi q e.symm).elim
theorem sum_const {α : Type} (l : List α) (k : Nat) : (l.map fun _ => k).sum = l.length * k := by
  induction l with
  | nil => simp
  | cons x l ih => simp [ih, Nat.succ_mul, Nat.add_comm]
end TL
namespace TL
open PySem PySem.Spec PyProof.Rows L2
theorem fSl_l {ds : List D} {b : Bool} {lo hi : Option Int} {Q : QD} : fSl (.list ds) b lo hi Q = Q (.list (TL.cutD ds lo hi)) (.nw b) := rfl
theorem fSl_t {ds : List D} {b : Bool} {lo hi : Option Int} {Q : QD} : fSl (.tuple ds) b lo hi Q = Q (.tuple (TL.cutD ds lo hi)) (.fz b) := rfl
theorem cut1 (d : D) (ds : List D) : TL.cutD (d :: ds) (some 1) none = ds := by
  unfold TL.cutD HT.sIx
  simp
end TL
namespace TL
open PySem PySem.Spec PyProof.Rows L2
theorem im_pD (p : Int × Int) : im (pD p) = true := rfl
theorem im_tI (l : List Int) : im (tI l) = true := emb_row.imm l
theorem any_ii (a b c : Int) : (([.int a, .int b] : List D).any fun z => PyData.eqv z (.int c)) = decide (c = a ∨ c = b) := by
  have := emb_int.any [a, b] c
  simp only [List.map_cons, List.map_nil] at this
  rw [this]; simp
theorem sh_ii (a b : Int) : SeqAt.shaped (.tuple [.int a, .int b]) = true := emb_int.shT [a, b]
end TL

set_option maxHeartbeats 4000000
namespace TL
open PySem PySem.Spec PyProof.Rows L2
section
variable {X : Cx} {G : Gh} {W : WX} {pos : Pos}
/-- a slot's own list is frozen from here on -/
def frzT (τ : Slots) (k : Nat) : Slots := match τ[k]? with
  | some (some (.own ds b)) => τ.set k (some (.fz (.list ds) b))
  | _ => τ
def sFrz (k : Nat) (t : TSt) : TSt := fun De wq τ => t De wq (frzT τ k)
theorem Sim.frz {K : PySem.W.Frag} {τ : Slots} {ow : Ow} {σ : L2.St} {H : Hp} (S : Sim K G τ ow σ H) {k : Nat} {ds : List D} {b : Bool} (e : τ[k]? = some (some (.own ds b))) :
    ∃ ow', Sim K G (τ.set k (some (.fz (.list ds) b))) ow' σ H ∧ FrS ow H ow' H := by
  obtain ⟨v0, e1, a, xs, rfl, o, e3, t⟩ := S.sl k _ e
  have none_ : ∀ {c : Addr}, ow c = none → (if c = a then none else ow c) = none := fun {c} h => by
    by_cases z : c = a
    · rw [if_pos z]
    · rw [if_neg z]; exact h
  have fz : ∀ {b : Bool} (c : Addr), Fz G ow b c → Fz G (fun c => if c = a then none else ow c) b c := fun c p => ⟨none_ p.1, p.2⟩
  have dp : ∀ {b : Bool} {v : V} {d : D}, DP K H (Fz G ow b) v d → DP K H (Fz G (fun c => if c = a then none else ow c) b) v d := fun h => h.mono fz
  have kp : ∀ {c : Addr} {j : Nat}, j ≠ k → ow c = some (some j) → (if c = a then none else ow c) = some (some j) := fun {c j} hj h => by
    have : c ≠ a := fun z => by
      rw [z, o] at h
      injection h with h
      injection h with h
      exact hj h.symm
    rw [if_neg this]; exact h
  refine ⟨fun c => if c = a then none else ow c, ⟨by simp [S.len], fun j s ej => ?_, fun c j h => ?_, fun c ob h n => ⟨(S.ent c ob h n).1, none_ (S.ent c ob h n).2⟩, fun p ep => ⟨(S.pool p ep).1, ?_, none_ (S.pool p ep).2.2⟩, S.pl⟩, fun c ob h n => ⟨h, none_ n⟩⟩
  · rcases set_get ej with ⟨rfl, rfl, hl⟩ | ⟨hne, e'⟩
    · exact ⟨_, e1, DP.lst ⟨if_pos rfl, .of (S.slot0 o)⟩ e3 (t.mono fz)⟩
    · obtain ⟨v, e4, q⟩ := S.sl j s e'
      refine ⟨v, e4, ?_⟩
      have hj : j ≠ k := by first | exact hne | exact fun z => hne z.symm
      cases s with
      | fz d b => exact dp q
      | own ds b =>
        obtain ⟨c, ys, e5, oc, e6, t6⟩ := q
        exact ⟨c, ys, e5, kp hj oc, e6, t6.mono fz⟩
      | dK kvs =>
        obtain ⟨c, ys, e5, oc, e6, t6⟩ := q
        exact ⟨c, ys, e5, kp hj oc, e6, DKs.keep t6 (fun _ _ _ e => e) (fun _ _ e _ => e) fz⟩
      | dT kvs =>
        obtain ⟨c, ys, e5, oc, e6, t6⟩ := q
        exact ⟨c, ys, e5, kp hj oc, e6, DKs.keep t6 (fun _ _ _ e => e) (fun _ _ e _ => e) fz⟩
      | reg φ => exact RegOk.keep q fun c ob oc e => ⟨e, kp hj oc⟩
  · have h : (if c = a then none else ow c) = some j := h
    by_cases z : c = a
    · rw [if_pos z] at h; cases h
    · rw [if_neg z] at h; exact S.own c j h
  · have : p ≠ a := fun z => by
      have := (S.pool p ep).2.1
      rw [z, o] at this
      cases this
    show (if p = a then none else ow p) = some none
    rw [if_neg this]; exact (S.pool p ep).2.1
theorem gs_frz (k : Nat) {st : Stmt} {t : TSt} (h : GS X G W st t) : GS X G W st (sFrz k t) := by
  obtain ⟨te, p, f⟩ := h.ex
  refine ⟨te, p, fun σ H τ ow De wq Dh S h E => ?_⟩
  unfold sFrz frzT at h
  split at h
  · rename_i ds b e
    obtain ⟨ow', S', g⟩ := S.frz e
    exact f σ H _ ow' De wq Dh S' h (E.frs g)
  · exact f σ H τ ow De wq Dh S h E
end
end TL

set_option maxHeartbeats 4000000
namespace TL
open PySem PySem.Spec PyProof.Rows L2
section
variable {X : Cx} {G : Gh} {W : WX} {pos : Pos}
/-! ### x.extend(e) -/
def extSl : Option (Option Sl) → D → Kd → (Sl → Prop) → Prop
  | some (some (.own ds b)), .list es, kd, Q => ds.length + es.length ≤ sizeLine ∧ Q (.own (ds ++ es) (b && kd.b))
  | _, _, _, _ => False
def sExt (k : Nat) (t : TX) : TSt := fun De wq τ => (∃ ds b, τ[k]? = some (some (.own ds b))) ∧ t τ (fun d kd => extSl τ[k]? d kd fun sl => De.nx (τ.set k (some sl))) (fun nm => wq nm τ)
theorem gs_extend (k : Nat) {x : Str} {e : Expr} {t : TX} {p1 p2 p3 : Pos} (he : GE X G W e t) (hi : X.N[k]? = some x := by rfl) (hv : Vis X.env.scope x := by first | exact Or.inl rfl | exact Or.inr (Or.inl rfl) | exact Or.inr (Or.inr rfl)) (hd : (x == ("__debug__" : Str)) = false := by decide)
    (hcd : (x == ("__classdict__" : Str)) = false := by decide) (hb : attributeBase (.Name x p1) "extend" X.env (eval (.Name x p1) X.env) = eval (.Name x p1) X.env := by rfl)
    (hf : ((backTo p3 (starEach [e] X.env)).all (fun x => !x.1) && (backToKw p3 (keywordEach [] X.env)).all (fun x => x.1.isSome) && decide ([e].length + ([] : List Keyword).length + (if ([] : List Keyword).isEmpty then 0 else 1) < 30)) = true := by rfl)
    (hl : (p2.endLine == p3.line) = true := by rfl) (hs : starEach [e] X.env = (false, eval e X.env) :: starEach [] X.env := by rfl) (hp : (backTo p3 (starEach [] X.env)).any (·.1) = false := by rfl)
    (hsw : swapsWith (.Call (.Attribute (.Name x p1) "extend" p2) [e] [] p3) none pos.line X.env = pure false := by rfl) :
    GS X G W (.Expr (.Call (.Attribute (.Name x p1) "extend" p2) [e] [] p3) pos) (sExt k t) := by
  obtain ⟨te, q1, f1⟩ := he.ex
  refine ⟨_, ps_expr (pe_bm PySem.F.plainAttrs_list PySem.F.slot_list_extend PySem.F.type_list_extend mt_extend (pe_var hi hv hd hcd) (pa_cons q1 pa_nil hs) hb hf hl hs hp) hsw, fun σ H τ ow De wq Dh S h E => ?_⟩
  obtain ⟨⟨ds, b, ek⟩, h⟩ := h
  obtain ⟨a, xs, e1, o, e2, t0, _⟩ := S.putL ek
  refine ⟨.ref a, e1, .inl ⟨rfl, _, .inl (.inl e2)⟩, f1 σ H τ ow _ _ _ S h (fun v H1 d kd g r q => ?_) (E.wk S)⟩
  have S1 := S.grow g
  obtain ⟨a', xs', e1', o', e2', t1, put⟩ := S1.putL ek
  rw [e1] at e1'
  cases e1'
  rw [ek] at q
  cases d with
  | list es =>
    obtain ⟨hlen, q⟩ := (show ds.length + es.length ≤ sizeLine ∧ De.nx (τ.set k (some (.own (ds ++ es) (b && kd.b)))) from q)
    obtain ⟨c, ys, rfl, e3, t3⟩ := r.lst
    obtain ⟨S2, f2⟩ := put (xs' ++ ys) (ds ++ es) (b && kd.b) ((t1.mono fun c p => p.andL).append (t3.mono fun c p => p.andR))
    exact ⟨a, c, xs', ys, rfl, rfl, e2', e3, by rw [t1.length, t3.length]; exact hlen, E.nx _ ow _ _ S2 ((g.frs S).trans f2) q⟩
  | _ => exact q.elim
/-! ### x.remove(e): ints -/
def remSl : Option (Option Sl) → D → (Sl → Prop) → Prop
  | some (some (.own ds b)), .int k, Q => ∃ (ns : List Int) (j : Nat), ds = ns.map PyData.int ∧ ns[j]? = some k ∧ (∀ m : Nat, m < j → ns[m]? ≠ some k) ∧ Q (.own ((ns.eraseIdx j).map PyData.int) b)
  | _, _, _ => False
def sRem (k : Nat) (t : TX) : TSt := fun De wq τ => (∃ ds b, τ[k]? = some (some (.own ds b))) ∧ t τ (fun d _ => remSl τ[k]? d fun sl => De.nx (τ.set k (some sl))) (fun nm => wq nm τ)
theorem gs_remove (k : Nat) {x : Str} {e : Expr} {t : TX} {p1 p2 p3 : Pos} (he : GE X G W e t) (hi : X.N[k]? = some x := by rfl) (hv : Vis X.env.scope x := by first | exact Or.inl rfl | exact Or.inr (Or.inl rfl) | exact Or.inr (Or.inr rfl)) (hd : (x == ("__debug__" : Str)) = false := by decide)
    (hcd : (x == ("__classdict__" : Str)) = false := by decide) (hb : attributeBase (.Name x p1) "remove" X.env (eval (.Name x p1) X.env) = eval (.Name x p1) X.env := by rfl)
    (hf : ((backTo p3 (starEach [e] X.env)).all (fun x => !x.1) && (backToKw p3 (keywordEach [] X.env)).all (fun x => x.1.isSome) && decide ([e].length + ([] : List Keyword).length + (if ([] : List Keyword).isEmpty then 0 else 1) < 30)) = true := by rfl)
    (hl : (p2.endLine == p3.line) = true := by rfl) (hs : starEach [e] X.env = (false, eval e X.env) :: starEach [] X.env := by rfl) (hp : (backTo p3 (starEach [] X.env)).any (·.1) = false := by rfl)
    (hsw : swapsWith (.Call (.Attribute (.Name x p1) "remove" p2) [e] [] p3) none pos.line X.env = pure false := by rfl) :
    GS X G W (.Expr (.Call (.Attribute (.Name x p1) "remove" p2) [e] [] p3) pos) (sRem k t) := by
  obtain ⟨te, q1, f1⟩ := he.ex
  refine ⟨_, ps_expr (pe_bm PySem.F.plainAttrs_list PySem.F.slot_list_remove PySem.F.type_list_remove mt_remove (pe_var hi hv hd hcd) (pa_cons q1 pa_nil hs) hb hf hl hs hp) hsw, fun σ H τ ow De wq Dh S h E => ?_⟩
  obtain ⟨⟨ds, b, ek⟩, h⟩ := h
  obtain ⟨a, xs, e1, o, e2, t0, _⟩ := S.putL ek
  refine ⟨.ref a, e1, .inl ⟨rfl, _, .inl (.inl e2)⟩, f1 σ H τ ow _ _ _ S h (fun v H1 d kd g r q => ?_) (E.wk S)⟩
  have S1 := S.grow g
  obtain ⟨a', xs', e1', o', e2', t1, put⟩ := S1.putL ek
  rw [e1] at e1'
  cases e1'
  rw [ek] at q
  cases d with
  | int i =>
    obtain ⟨ns, j, rfl, hj, hno, q⟩ := (show ∃ (ns : List Int) (j : Nat), ds = ns.map PyData.int ∧ ns[j]? = some i ∧ (∀ m : Nat, m < j → ns[m]? ≠ some i) ∧ De.nx (τ.set k (some (.own ((ns.eraseIdx j).map PyData.int) b))) from q)
    have := t1.ints
    subst this
    obtain ⟨S2, f2⟩ := put ((ns.eraseIdx j).map V.int) ((ns.eraseIdx j).map PyData.int) b (DPs.ofInts _)
    exact ⟨a, ns, i, j, rfl, by rw [r.int], e2', hj, hno, E.nx _ ow _ _ S2 ((g.frs S).trans f2) q⟩
  | _ => exact q.elim
/-! ### x += e, x -= e: ints -/
def sAug (k : Nat) (f : Int → Int → Int) (t : TX) : TSt := fun De wq τ => t τ (fun d kd => match τ[k]?, d with
  | some (some (.fz (.int i) _)), .int j => De.nx (τ.set k (some (.fz (.int (f i j)) true)))
  | _, _ => False) (fun nm => wq nm τ)
theorem gs_aug {op : Operator} {f : Int → Int → Int} (ho : PIp X op (ipI f)) (k : Nat) {x : Str} {e : Expr} {t : TX} {p1 : Pos} (hN : X.N.Nodup) (he : GE X G W e t) (hp : G.pool = none ∨ k ≠ G.ps) (hi : X.N[k]? = some x := by rfl) (hx : Loc X.env.scope x := by first | exact .inl rfl | exact .inr rfl)
    (hf : X.fn x = true ∨ X.env.scope.names.lookup x = some .local := by first | exact .inl rfl | exact .inr rfl | assumption)
    (hv : ∀ τ (De : EndsT) (wq : WS), sAug k f t De wq τ → ∃ i b, τ[k]? = some (some (.fz (.int i) b))) :
    GS X G W (.AugAssign (.Name x p1) op e pos) (sAug k f t) := by
  obtain ⟨te, q1, f1⟩ := he.ex
  refine ⟨_, ps_aug hN hi hx q1 ho hf, fun σ H τ ow De wq Dh S h E => ?_⟩
  obtain ⟨i, b, ek⟩ := hv τ De wq h
  obtain ⟨v, ev, rv⟩ := S.sl k _ ek
  have rv : DP X.K H (Fz G ow b) v (.int i) := rv
  have evi : v = .int i := by cases rv; rfl
  subst evi
  refine ⟨_, ev, f1 σ H τ ow _ _ _ S h (fun v H1 d kd g r q => ?_) (E.wk S)⟩
  rw [ek] at q
  cases d with
  | int j =>
    have S1 := S.grow g
    exact ⟨i, j, rfl, r.int, E.nx _ ow _ _ (S1.setFz hp (.int _)) (g.frs S) q⟩
  | _ => exact q.elim
/-- x += e as the term says it -/
def sAugI (k : Nat) (f : Int → Int → Int) (t : TX) : TSt := fun De wq τ => (∃ i b, τ[k]? = some (some (.fz (.int i) b))) ∧ sAug k f t De wq τ
theorem gs_augI {op : Operator} {f : Int → Int → Int} (ho : PIp X op (ipI f)) (k : Nat) {x : Str} {e : Expr} {t : TX} {p1 : Pos} (hN : X.N.Nodup) (he : GE X G W e t) (hp : G.pool = none ∨ k ≠ G.ps) (hi : X.N[k]? = some x := by rfl) (hx : Loc X.env.scope x := by first | exact .inl rfl | exact .inr rfl)
    (hf : X.fn x = true ∨ X.env.scope.names.lookup x = some .local := by first | exact .inl rfl | exact .inr rfl | assumption) :
    GS X G W (.AugAssign (.Name x p1) op e pos) (sAugI k f t) := by
  obtain ⟨te, q1, f1⟩ := he.ex
  refine ⟨_, ps_aug hN hi hx q1 ho hf, fun σ H τ ow De wq Dh S h E => ?_⟩
  obtain ⟨⟨i, b, ek⟩, h⟩ := h
  obtain ⟨v, ev, rv⟩ := S.sl k _ ek
  have rv : DP X.K H (Fz G ow b) v (.int i) := rv
  have evi : v = .int i := by cases rv; rfl
  subst evi
  refine ⟨_, ev, f1 σ H τ ow _ _ _ S h (fun v H1 d kd g r q => ?_) (E.wk S)⟩
  rw [ek] at q
  cases d with
  | int j =>
    have S1 := S.grow g
    exact ⟨i, j, rfl, r.int, E.nx _ ow _ _ (S1.setFz hp (.int _)) (g.frs S) q⟩
  | _ => exact q.elim
/-! ### (a, *xs, ..) -/
structure GAs (X : Cx) (G : Gh) (W : WX) (es : List Expr) (t : TXs) : Prop where
  ex : ∃ te, PA X es te ∧ ∀ (σ : L2.St) (H : Hp) (τ : Slots) (ow : Ow) (Q : List (D × Kd) → Prop) (wq : WQ) (Kt : List V → Hp → Prop), Sim X.K G τ ow σ H → t τ Q wq →
    (∀ vs H' ds, Grow X.K G H H' → RVs X.K G ow H H' vs ds → Q ds → Kt vs H') → Wk X.K G W σ H wq → te σ H Kt
theorem gas_nil : GAs X G W [] gNil := ⟨_, pa_nil, fun σ H τ ow Q wq Kt S h k _ => k _ _ _ Grow.refl .nil h⟩
theorem gas_cons {e : Expr} {es : List Expr} {ta : TX} {tr : TXs} (ha : GE X G W e ta) (hr : GAs X G W es tr) (hs : starEach (e :: es) X.env = (false, eval e X.env) :: starEach es X.env := by rfl) : GAs X G W (e :: es) (gCons ta tr) := by
  obtain ⟨te, p1, f1⟩ := ha.ex
  obtain ⟨t2, p2, f2⟩ := hr.ex
  refine ⟨_, pa_cons p1 p2 hs, fun σ H τ ow Q wq Kt S h k w => ?_⟩
  refine f1 σ H τ ow _ wq _ S h (fun v H1 d kd g1 r1 q1 => ?_) w
  refine f2 σ H1 τ ow _ wq _ (S.grow g1) q1 (fun vs H2 ds g2 r2 q2 => ?_) (w.grow g1)
  exact k (v :: vs) H2 _ (g1.trans g2) (.cons (r1.grow S g1 g2) (r2.startG S g1)) q2
def starD (d : D) (kd : Kd) (Q : List (D × Kd) → Prop) : Prop := match d with
  | .list ds => Q (ds.map fun x => (x, .fz kd.b))
  | .tuple ds => Q (ds.map fun x => (x, .fz kd.b))
  | _ => False
def gStar (ta : TX) (tr : TXs) : TXs := fun τ Q wq => ta τ (fun d kd => starD d kd fun xs => tr τ (fun ds => Q (xs ++ ds)) wq) wq
theorem rvs_map {K : PySem.W.Frag} {ow : Ow} {H H' : Hp} {b : Bool} : ∀ {vs : List V} {ds : List D}, DPs K H' (Fz G ow b) vs ds → RVs K G ow H H' vs (ds.map fun x => (x, .fz b))
  | _, _, .nil => .nil
  | _, _, .cons h t => .cons h (rvs_map t)
theorem rvs_append {K : PySem.W.Frag} {ow : Ow} {H H' : Hp} : ∀ {vs ws : List V} {ds es : List (D × Kd)}, RVs K G ow H H' vs ds → RVs K G ow H H' ws es → RVs K G ow H H' (vs ++ ws) (ds ++ es)
  | _, _, _, _, .nil, s => s
  | _, _, _, _, .cons h t, s => .cons h (rvs_append t s)
theorem gas_star {e : Expr} {es : List Expr} {p : Pos} {ta : TX} {tr : TXs} (ha : GE X G W e ta) (hr : GAs X G W es tr) (hs : starEach (.Starred e p :: es) X.env = (true, eval e X.env) :: starEach es X.env := by rfl) : GAs X G W (.Starred e p :: es) (gStar ta tr) := by
  obtain ⟨te, p1, f1⟩ := ha.ex
  obtain ⟨t2, p2, f2⟩ := hr.ex
  refine ⟨_, StX.pa_star p1 p2 hs, fun σ H τ ow Q wq Kt S h k w => ?_⟩
  refine f1 σ H τ ow _ wq _ S h (fun v H1 d kd g1 r1 q1 => ?_) w
  cases d with
  | list ds =>
    obtain ⟨a, xs, rfl, e1, t1⟩ := r1.lst
    refine ⟨a, xs, rfl, .inr (.of e1), f2 σ H1 τ ow _ wq _ (S.grow g1) q1 (fun vs H2 es g2 r2 q2 => ?_) (w.grow g1)⟩
    exact k _ H2 _ (g1.trans g2) (rvs_append (rvs_map (DPs.grow (S.grow g1) g2 (S.grow g1).fzp t1)) (r2.startG S g1)) q2
  | tuple ds =>
    obtain ⟨a, xs, rfl, e1, t1⟩ := r1.tup
    refine ⟨a, xs, rfl, .inl (.of e1), f2 σ H1 τ ow _ wq _ (S.grow g1) q1 (fun vs H2 es g2 r2 q2 => ?_) (w.grow g1)⟩
    exact k _ H2 _ (g1.trans g2) (rvs_append (rvs_map (DPs.grow (S.grow g1) g2 (S.grow g1).fzp t1)) (r2.startG S g1)) q2
  | _ => exact q1.elim
def gTupS (t : TXs) : TX := fun τ Q wq => t τ (fun ds => frOk ds ∧ ds.length ≤ sizeLine ∧ Q (.tuple (ds.map (·.1))) (.fz (allB ds))) wq
def gLstS (t : TXs) : TX := fun τ Q wq => t τ (fun ds => frOk ds ∧ ds.length ≤ sizeLine ∧ Q (.list (ds.map (·.1))) (.nw (allB ds))) wq
theorem ge_tupS {es : List Expr} {x1} {t : TXs} (ha : GAs X G W es t) : GE X G W (.Tuple es x1 pos) (gTupS t) := by
  obtain ⟨te, p1, f1⟩ := ha.ex
  refine ⟨_, pe_tup p1, fun σ H τ ow Q wq Kt S h k w => f1 σ H τ ow _ wq _ S h (fun vs H1 ds g1 r1 q1 => ?_) w⟩
  have dd := r1.dps S q1.1
  exact ⟨by rw [dd.length, List.length_map]; exact q1.2.1, fun p hp => k _ _ _ _ (g1.trans (Grow.upd hp)) (RV.newT S g1 hp dd) q1.2.2⟩
theorem ge_lstS {es : List Expr} {t : TXs} (ha : GAs X G W es t) : GE X G W (.List es pos) (gLstS t) := by
  obtain ⟨te, p1, f1⟩ := ha.ex
  refine ⟨_, pe_lst p1, fun σ H τ ow Q wq Kt S h k w => f1 σ H τ ow _ wq _ S h (fun vs H1 ds g1 r1 q1 => ?_) w⟩
  have dd := r1.dps S q1.1
  exact ⟨by rw [dd.length, List.length_map]; exact q1.2.1, fun p hp => k _ _ _ _ (g1.trans (Grow.upd hp)) (RV.new S g1 hp dd) q1.2.2⟩
/-! ### enumerate(list), zip of two lists, of two tuples -/
def enD (ds : List D) : List D := ds.zipIdx.map fun p => .tuple [.int (p.2 : Nat), p.1]
theorem enD_len (ds : List D) : (enD ds).length = ds.length := by simp [enD]
theorem enD_get {ds : List D} {i : Nat} {d : D} (h : (enD ds)[i]? = some d) : ∃ x, ds[i]? = some x ∧ d = .tuple [.int (i : Nat), x] := by
  unfold enD at h
  rw [List.getElem?_map] at h
  cases e : ds.zipIdx[i]? with
  | none => rw [e] at h; cases h
  | some p =>
    rw [e] at h
    rw [List.getElem?_zipIdx] at e
    cases e2 : ds[i]? with
    | none => rw [e2] at e; cases e
    | some x =>
      rw [e2] at e
      simp at e
      subst e
      simp at h
      exact ⟨x, rfl, h.symm⟩
theorem itok_enum {K : PySem.W.Frag} {τ : Slots} {ow : Ow} {σ : L2.St} {H : Hp} {a : Addr} {xs : List V} {ds : List D} {b own : Bool} (S : Sim K G τ ow σ H) (e : H a = some (.lst xs)) (ho : (own = true ∧ ∃ k, ow a = some (some k)) ∨ ow a = none) (t : DPs K H (Fz G ow b) xs ds) : ItOk K G ow H own (Ite K a) (enD ds) b := by
  intro τ2 ow2 σ2 H2 S2 ho2 f
  have e2 : H2 a = some (.lst xs) := by
    rcases ho with ho | ho
    · exact ho2 ho.1 a _ _ e ho.2.choose_spec
    · exact (f a _ e ho).1
  have t2 := t.frs S f
  refine ⟨fun i d hd => ?_, xs, .of e2, by rw [enD_len, t.length]; exact Nat.le_refl _⟩
  obtain ⟨z, hz, rfl⟩ := enD_get hd
  obtain ⟨v, hv, r⟩ := t2.get hz
  refine ⟨⟨xs, v, .of e2, hv⟩, fun x H3 y => ?_⟩
  obtain ⟨T, w, rfl, hT, rfl, y⟩ := y
  have ex : w = v := Option.some.inj ((y xs (.of e2)).symm.trans hv)
  subst ex
  exact ⟨Grow.upd hT, .tup upd_same (.cons (.int _) (.cons (DP.grow S2 (Grow.upd hT) S2.fzp r) .nil))⟩
def iEn (t : TX) : TIt := fun τ Q wq => t τ (fun d kd => match d with
  | .list ds => Q (enD ds) kd.b kd.isOw
  | _ => False) wq
theorem gi_enum {elts : List Expr} {kk : Nat} {tpos p : Pos} {e : Expr} {t : TX} (hm : X.mg "enumerate" = none) (he : GE X G W e t) (hg : Gl X "enumerate" := by rfl) (hs : starEach [e] X.env = (false, eval e X.env) :: starEach [] X.env := by rfl) (hs2 : starEach [e] X.env = [(false, eval e X.env)] := by rfl) :
    GI X G W (.Tuple elts kk tpos) (.Call (.Name "enumerate" p) [e] [] pos) (iEn t) := by
  obtain ⟨te, p1, f1⟩ := he.ex
  refine ⟨_, pi_enum hg hm (pa_cons p1 pa_nil hs) hs2, fun σ H τ ow Q wq R S h k w => f1 σ H τ ow _ wq _ S h (fun v H1 d kd g r q => ?_) w⟩
  have S1 := S.grow g
  cases d with
  | list ds =>
    obtain ⟨a, xs, rfl, e, t⟩ := r.lst
    refine ⟨a, xs, rfl, .of e, k _ _ _ kd.b _ g (itok_enum S1 e ?_ t) q⟩
    cases kd with
    | fz b =>
      cases (show DP X.K H1 (Fz G ow b) _ _ from r) with
      | lst p _ _ => exact .inr p.1
    | nw b =>
      obtain ⟨a', xs', ds', ea, _, n, _⟩ := r
      cases ea
      exact .inr (S.freshO n)
    | ow b =>
      obtain ⟨a', xs', ds', ea, _, n, _⟩ := r
      cases ea
      exact .inl ⟨rfl, n.2⟩
  | _ => exact q.elim
def zpD (ds es : List D) : List D := List.zipWith (fun d e => .tuple [d, e]) ds es
theorem zpD_get {ds es : List D} {i : Nat} {d : D} (h : (zpD ds es)[i]? = some d) : ∃ x y, ds[i]? = some x ∧ es[i]? = some y ∧ d = .tuple [x, y] := by
  unfold zpD at h
  rw [List.getElem?_zipWith] at h
  cases e1 : ds[i]? with
  | none => rw [e1] at h; cases h
  | some x =>
    cases e2 : es[i]? with
    | none => rw [e1, e2] at h; cases h
    | some y =>
      rw [e1, e2] at h
      simp at h
      exact ⟨x, y, rfl, rfl, h.symm⟩
theorem itok_zipT {K : PySem.W.Frag} {τ : Slots} {ow : Ow} {σ : L2.St} {H : Hp} {a b : Addr} {xs ys : List V} {ds es : List D} {c : Bool} (S : Sim K G τ ow σ H) (e : H a = some (.tup xs)) (e' : H b = some (.tup ys)) (t : DPs K H (Fz G ow c) xs ds) (t' : DPs K H (Fz G ow c) ys es) : ItOk K G ow H false (RZ.ItzT K a b) (zpD ds es) c := by
  intro τ2 ow2 σ2 H2 S2 ho2 f
  have nm : ∀ {c : Addr} {l : List V}, H c = some (.tup l) → ow c = none := fun {c l} e => by
    cases q : ow c with
    | none => rfl
    | some k => have := S.own c k q; rw [e] at this; exact this.elim
  have e2 : H2 a = some (.tup xs) := (f a _ e (nm e)).1
  have e2' : H2 b = some (.tup ys) := (f b _ e' (nm e')).1
  have t2 := t.frs S f
  have t2' := t'.frs S f
  refine ⟨fun i d hd => ?_, xs, ys, .of e2, .of e2', by rw [t.length, t'.length, zpD, List.length_zipWith]; omega⟩
  obtain ⟨x, y, hx, hy, rfl⟩ := zpD_get hd
  obtain ⟨v, hv, r⟩ := t2.get hx
  obtain ⟨v', hv', r'⟩ := t2'.get hy
  refine ⟨⟨xs, ys, v, v', .of e2, .of e2', hv, hv'⟩, fun x H3 y => ?_⟩
  obtain ⟨T, w, w', rfl, hT, rfl, y, y'⟩ := y
  have ex : w = v := Option.some.inj ((y xs (.of e2)).symm.trans hv)
  have ex' : w' = v' := Option.some.inj ((y' ys (.of e2')).symm.trans hv')
  subst ex ex'
  exact ⟨Grow.upd hT, .tup upd_same (.cons (DP.grow S2 (Grow.upd hT) S2.fzp r) (.cons (DP.grow S2 (Grow.upd hT) S2.fzp r') .nil))⟩
theorem itok_zipL {K : PySem.W.Frag} {τ : Slots} {ow : Ow} {σ : L2.St} {H : Hp} {a b : Addr} {xs ys : List V} {ds es : List D} {c own : Bool} (S : Sim K G τ ow σ H) (e : H a = some (.lst xs)) (e' : H b = some (.lst ys)) (ho : (own = true ∧ ∃ k, ow a = some (some k)) ∨ ow a = none) (ho' : (own = true ∧ ∃ k, ow b = some (some k)) ∨ ow b = none)
    (t : DPs K H (Fz G ow c) xs ds) (t' : DPs K H (Fz G ow c) ys es) : ItOk K G ow H own (Itz K a b) (zpD ds es) c := by
  intro τ2 ow2 σ2 H2 S2 ho2 f
  have st : ∀ {a : Addr} {l : List V}, H a = some (.lst l) → ((own = true ∧ ∃ k, ow a = some (some k)) ∨ ow a = none) → H2 a = some (.lst l) := fun {a l} e ho => by
    rcases ho with ho | ho
    · exact ho2 ho.1 a _ _ e ho.2.choose_spec
    · exact (f a _ e ho).1
  have e2 := st e ho
  have e2' := st e' ho'
  have t2 := t.frs S f
  have t2' := t'.frs S f
  refine ⟨fun i d hd => ?_, xs, ys, .of e2, .of e2', by rw [t.length, t'.length, zpD, List.length_zipWith]; omega⟩
  obtain ⟨x, y, hx, hy, rfl⟩ := zpD_get hd
  obtain ⟨v, hv, r⟩ := t2.get hx
  obtain ⟨v', hv', r'⟩ := t2'.get hy
  refine ⟨⟨xs, ys, v, v', .of e2, .of e2', hv, hv'⟩, fun x H3 y => ?_⟩
  obtain ⟨T, w, w', rfl, hT, rfl, y, y'⟩ := y
  have ex : w = v := Option.some.inj ((y xs (.of e2)).symm.trans hv)
  have ex' : w' = v' := Option.some.inj ((y' ys (.of e2')).symm.trans hv')
  subst ex ex'
  exact ⟨Grow.upd hT, .tup upd_same (.cons (DP.grow S2 (Grow.upd hT) S2.fzp r) (.cons (DP.grow S2 (Grow.upd hT) S2.fzp r') .nil))⟩
def zipD (d : D) (kd : Kd) (e : D) (ke : Kd) (Q : List D → Bool → Bool → Prop) : Prop := match d, e with
  | .list ds, .list es => Q (zpD ds es) (kd.b && ke.b) (kd.isOw || ke.isOw)
  | .tuple ds, .tuple es => Q (zpD ds es) (kd.b && ke.b) false
  | _, _ => False
def iZp (t u : TX) : TIt := fun τ Q wq => t τ (fun d kd => u τ (fun e ke => zipD d kd e ke Q) wq) wq
theorem RV.ownL {K : PySem.W.Frag} {τ : Slots} {ow : Ow} {σ : L2.St} {H H' : Hp} {a : Addr} {ds : List D} {kd : Kd} {own : Bool} (S : Sim K G τ ow σ H) (r : RV K G ow H H' (.ref a) (.list ds) kd) (h : kd.isOw = true → own = true) : (own = true ∧ ∃ k, ow a = some (some k)) ∨ ow a = none := by
  cases kd with
  | fz b =>
    cases (show DP K H' (Fz G ow b) _ _ from r) with
    | lst p _ _ => exact .inr p.1
  | nw b =>
    obtain ⟨a', xs', ds', ea, _, n, _⟩ := r
    cases ea
    exact .inr (S.freshO n)
  | ow b =>
    obtain ⟨a', xs', ds', ea, _, n, _⟩ := r
    cases ea
    exact .inl ⟨h rfl, n.2⟩
theorem gi_zip {elts : List Expr} {kk : Nat} {tpos p : Pos} {e e2 : Expr} {t u : TX} (hm : X.mg "zip" = none) (he : GE X G W e t) (hu : GE X G W e2 u) (hg : Gl X "zip" := by rfl) (hs : starEach [e, e2] X.env = (false, eval e X.env) :: starEach [e2] X.env := by rfl) (hs2 : starEach [e2] X.env = (false, eval e2 X.env) :: starEach [] X.env := by rfl) (hpl : (backTo pos (starEach [e2] X.env)).any (·.1) = false := by rfl) :
    GI X G W (.Tuple elts kk tpos) (.Call (.Name "zip" p) [e, e2] [] pos) (iZp t u) := by
  obtain ⟨te, p1, f1⟩ := he.ex
  obtain ⟨t2, p2, f2⟩ := hu.ex
  refine ⟨_, RZ.pi_zipA hg hm (pa_cons p1 (pa_cons p2 pa_nil hs2) hs) hs hpl, fun σ H τ ow Q wq R S h k w => f1 σ H τ ow _ wq _ S h (fun v H1 d kd g1 r1 q1 => ?_) w⟩
  refine f2 σ H1 τ ow _ wq _ (S.grow g1) q1 (fun v2 H2 d2 kd2 g2 r2 q2 => ?_) (w.grow g1)
  have S2 := S.grow (g1.trans g2)
  have r1' := r1.grow S g1 g2
  unfold zipD at q2
  split at q2
  · obtain ⟨a, xs, rfl, e1, t1⟩ := r1'.lst
    obtain ⟨b, ys, rfl, e2, t2⟩ := r2.lst
    refine ⟨a, b, xs, ys, rfl, .inl ⟨.of e1, .of e2, k _ _ _ _ _ (g1.trans g2) (itok_zipL S2 e1 e2 (RV.ownL S r1' fun z => by rw [z]; rfl) (RV.ownL (S.grow g1) r2 fun z => by rw [z, Bool.or_true]) (t1.mono fun c p => p.andL) (t2.mono fun c p => p.andR)) q2⟩⟩
  · obtain ⟨a, xs, rfl, e1, t1⟩ := r1'.tup
    obtain ⟨b, ys, rfl, e2, t2⟩ := r2.tup
    refine ⟨a, b, xs, ys, rfl, .inr ⟨.of e1, .of e2, k _ _ _ _ _ (g1.trans g2) (itok_zipT S2 e1 e2 (t1.mono fun c p => p.andL) (t2.mono fun c p => p.andR)) q2⟩⟩
  · exact q2.elim
end
end TL

set_option maxHeartbeats 4000000
namespace TL
open PySem PySem.Spec PyProof.Rows L2
section
variable {X : Cx} {G : Gh} {W : WX} {pos : Pos}
/-- an expression that changes nothing in memory: a name, a constant -/
structure GQ (X : Cx) (G : Gh) (W : WX) (e : Expr) (t : TX) : Prop where
  ex : ∃ te, PE X e te ∧ ∀ (σ : L2.St) (H : Hp) (τ : Slots) (ow : Ow) (Q : QD) (wq : WQ) (Kt : VK), Sim X.K G τ ow σ H → t τ Q wq → (∀ v d kd, RV X.K G ow H H v d kd → Q d kd → Kt v H) → te σ H Kt
theorem gq_bl {i j} : GQ X G W (.Constant (.bool i) j pos) (gC (.bool i)) := ⟨_, pe_bl, fun σ H τ ow Q wq Kt S h k => k _ _ _ (RV.sc fun _ => .bl i) h⟩
theorem gq_int {i j} : GQ X G W (.Constant (.int i) j pos) (gC (.int i)) := ⟨_, pe_int, fun σ H τ ow Q wq Kt S h k => k _ _ _ (RV.sc fun _ => .int i) h⟩
theorem gq_non {j} : GQ X G W (.Constant .none j pos) (gC .none) := ⟨_, pe_non, fun σ H τ ow Q wq Kt S h k => k _ _ _ (RV.sc fun _ => .non) h⟩
theorem gq_var (k : Nat) {x : Str} (hN : X.N[k]? = some x := by rfl) (hv : Vis X.env.scope x := by first | exact Or.inl rfl | exact Or.inr (Or.inl rfl) | exact Or.inr (Or.inr rfl)) (hd : (x == ("__debug__" : Str)) = false := by decide)
    (hcd : (x == ("__classdict__" : Str)) = false := by decide) : GQ X G W (.Name x pos) (gV k) :=
  ⟨_, pe_var hN hv hd hcd, fun σ H τ ow Q wq Kt S h kt => by
    obtain ⟨v, d, kd, e, r, q⟩ := S.slot h
    exact ⟨v, e, kt v d kd r q⟩⟩
/-- x = {e1: e2} -/
def sNew1 (k : Nat) (tk tv : TX) : TSt := fun De wq τ => tk τ (fun y _ => tv τ (fun d kd => match toKey y, kd with
  | some key, .fz c => im d = true ∧ De.nx (τ.set k (some (.dK [(key, d)])))
  | _, _ => False) (fun nm => wq nm τ)) (fun nm => wq nm τ)
theorem upd_upd {H : Hp} {p : Addr} {o o' : HO} : upd (upd H p o) p o' = upd H p o' := by
  funext c
  by_cases h : c = p
  · subst h; rw [upd_same, upd_same]
  · rw [upd_ne h, upd_ne h, upd_ne h]
theorem gs_new1 {k : Nat} {x : Str} {e1 e2 : Expr} {tk tv : TX} {p2 pos' : Pos} (hN : X.N.Nodup) (hk : GQ X G W e1 tk) (hv : GQ X G W e2 tv) (hp : G.pool = none ∨ k ≠ G.ps) (hi : X.N[k]? = some x := by rfl) (hx : Loc X.env.scope x := by first | exact .inl rfl | exact .inr rfl)
    (hs : swapsWith (.Dict [some e1] [e2] p2) (some (.Name x pos')) pos.line X.env = pure false := by rfl) (hf : X.fn x = true ∨ X.env.scope.names.lookup x = some .local := by first | exact .inl rfl | exact .inr rfl | assumption) :
    GS X G W (.Assign [.Name x pos'] (.Dict [some e1] [e2] p2) pos) (sNew1 k tk tv) := by
  obtain ⟨t1, q1, f1⟩ := hk.ex
  obtain ⟨t2, q2, f2⟩ := hv.ex
  refine ⟨_, ps_set hN hi hx (pe_disp (pps_cons q1 q2 pps_nil) rfl rfl (by simp) (by simp)) hs hf, fun σ H τ ow De wq Dh S h E p np => ?_⟩
  have g1 : Grow X.K G H (upd H p (.dK [])) := Grow.upd np
  have S1 := S.grow g1
  have nop : ow p = none := S.freshO np
  refine f1 σ _ τ ow _ _ _ S1 h fun y dy ky ry h1 => f2 σ _ τ ow _ _ _ S1 h1 fun v d kd rv h2 => ?_
  cases ek : toKey dy with
  | none => rw [ek] at h2; exact h2.elim
  | some key =>
    rw [ek] at h2
    cases kd with
    | fz c =>
      obtain ⟨hc, h2⟩ := h2
      have ey : y = kV key := toKey_dp ry.dpAny ek
      refine ⟨upd_same, [(key, v)], by simp [ey], by simp, ?_⟩
      rw [upd_upd]
      have em : mergeK [] [(key, v)] = [(key, v)] := rfl
      rw [em]
      have rv3 : DP X.K (upd H p (.dK [(key, v)])) (fun a => Fz G ow true a ∧ a ≠ p) v d := by
        exact (DP.ofIm (show DP X.K _ (Fz G ow c) v d from rv) hc : DP X.K _ (fun a => Fz G ow true a ∧ a ≠ p) v d).keep (fun c o pc e => by
            rw [upd_ne pc.2] at e ⊢; exact e) (fun c o e m => by
            by_cases z : c = p
            · subst z; exact (m (by rw [upd_same]; trivial)).elim
            · rw [upd_ne z] at e ⊢; exact e) fun _ q => q
      obtain ⟨ow', S', f⟩ := S.setO1 (sl := .dK [(key, d)]) np hp (show Mut (some (.dK [(key, v)])) from trivial) fun ow' o hw => ⟨p, _, rfl, o, upd_same, .cons ⟨rfl, rv3.mono fun c q => ⟨hw c q.2 q.1.1, q.1.2⟩⟩ .nil⟩
      exact E.nx _ ow' _ _ S' f h2
    | _ => exact h2.elim
/-! ### sorted(x), x a dict with ints as keys -/
def gSortK (k : Nat) : TX := fun τ Q _ => ∃ (kvs : List (Key × D)) (ks : List Int), τ[k]? = some (some (.dK kvs)) ∧ kvs.map (·.1) = ks.map Sum.inl ∧ ks.length < 64 ∧ ∀ ys : List Int, ys.Perm ks → ys.Pairwise (· ≤ ·) → Q (.list (ys.map PyData.int)) (.nw true)
theorem ge_sortK (k : Nat) {x : Str} {p p2 : Pos} (hc : X.calm = true) (hm : X.mg "sorted" = none) (hg : Gl X "sorted" := by rfl) (hN : X.N[k]? = some x := by rfl) (hv : Vis X.env.scope x := by first | exact Or.inl rfl | exact Or.inr (Or.inl rfl) | exact Or.inr (Or.inr rfl)) (hd : (x == ("__debug__" : Str)) = false := by decide)
    (hcd : (x == ("__classdict__" : Str)) = false := by decide) (he : starEach [.Name x p2] X.env = (false, eval (.Name x p2) X.env) :: starEach [] X.env := by rfl) : GE X G W (.Call (.Name "sorted" p) [.Name x p2] [] pos) (gSortK k) := by
  refine ⟨_, pe_callB (call_sortedDI hc) hg hm (by decide +kernel) (pa_cons (pe_var hN hv hd hcd) pa_nil he) (by decide) (by decide) he rfl, fun σ H τ ow Q wq Kt S h kt w => ?_⟩
  obtain ⟨kvs, ks, e1, ek, hl, h⟩ := h
  obtain ⟨v, e2, a, xs, rfl, o, e3, t3⟩ := S.sl k _ e1
  have ek2 : xs.map (·.1) = ks.map Sum.inl := by
    rw [← ek]
    obtain ⟨ws, z1, z2, hw⟩ := paired_split t3
    subst z1 z2
    rw [List.map_map, List.map_map]
    exact List.map_congr_left fun w hm => (hw w hm).1
  refine ⟨.ref a, e2, a, xs, ks, rfl, .inl e3, ek2, hl, fun ys p hy hs hn => ?_⟩
  exact kt _ _ _ _ (Grow.upd hn) (RV.new S Grow.refl hn (DPs.ofInts ys)) (h ys hy hs)
/-! ### a op b op' c op'' d -/
def tChain3 (r r' r'' : R2) (ta tb tc td : TE) : TE := fun σ H Q => ta σ H fun x H1 => tb σ H1 fun y H2 => r x y H2 fun z H3 => ∃ k, z = .bl k ∧
  (if k = true then tc σ H3 fun w H4 => r' y w H4 fun z' H5 => ∃ k', z' = .bl k' ∧ (if k' = true then td σ H5 fun v H6 => r'' w v H6 Q else Q (.bl false) H5) else Q (.bl false) H3)
theorem pe_chain3 {a b c d : Expr} {ta tb tc td : TE} {op op' op'' : CmpOp} {r r' r'' : R2} (ho : OpR X (compareOp op) r) (ho' : OpR X (compareOp op') r') (ho'' : OpR X (compareOp op'') r'') (ha : PE X a ta) (hb : PE X b tb) (hc : PE X c tc) (hd : PE X d td)
    (hm : lastMarks [op, op', op''] [b, c, d] = false := by with_unfolding_all rfl) : PE X (.Compare a [op, op', op''] [b, c, d] pos) (tChain3 r r' r'' ta tb tc td) := by
  refine ⟨fun pins s σ H Q I h => ?_⟩
  refine Compare_chain (thn (ha.run pins s σ H _ I h) fun v s1 ⟨x, H1, I1, r1, q1⟩ => ?_) hm
  refine chain_link (thn (hb.run pins s1 σ H1 _ I1 q1) fun u s2 ⟨y, H2, I2, r2, q2⟩ => thn (ho pins s2 σ H2 x y v u _ I2 r1 r2 q2) fun z s3 ⟨zv, H3, I3, r3, k, e, q3⟩ => ?_)
  subst e
  cases r3
  refine wpAny_truthy_bool ?_
  cases k with
  | false => exact ite_ff ⟨.bl false, H3, I3, rfl, q3⟩
  | true =>
    refine ite_tt (chain_link (thn (hc.run pins s3 σ H3 _ I3 q3) fun w s4 ⟨y4, H4, I4, r4, q4⟩ => thn (ho' pins s4 σ H4 y y4 u w _ I4 r2 r4 q4) fun z5 s5 ⟨zv5, H5, I5, r5, k5, e5, q5⟩ => ?_))
    subst e5
    cases r5
    refine wpAny_truthy_bool ?_
    cases k5 with
    | false => exact ite_ff ⟨.bl false, H5, I5, rfl, q5⟩
    | true => exact ite_tt (chain_last (thn (hd.run pins s5 σ H5 _ I5 q5) fun w6 s6 ⟨y6, H6, I6, r6, q6⟩ => ho'' pins s6 σ H6 y4 y6 w w6 Q I6 r4 r6 q6))
def gCh3 (f f' f'' : D → Bool → D → Bool → QD → Prop) (ta tb tc td : TX) : TX := fun τ Q wq => ta τ (fun dx kx => tb τ (fun dy ky => f dx kx.b dy ky.b (asB fun b => if b = true then tc τ (fun dz kz => f' dy ky.b dz kz.b (asB fun b => if b = true then td τ (fun dv kv => f'' dz kz.b dv kv.b Q) wq else Q (.bool false) (.fz true))) wq else Q (.bool false) (.fz true))) wq) wq
theorem ge_ch3 {a b c d : Expr} {ta tb tc td : TX} {op op' op'' : CmpOp} {r r' r'' : R2} {f f' f'' : D → Bool → D → Bool → QD → Prop} (ho : OpR X (compareOp op) r) (hf : OpG X G r f) (ho' : OpR X (compareOp op') r') (hf' : OpG X G r' f') (ho'' : OpR X (compareOp op'') r'') (hf'' : OpG X G r'' f'')
    (ha : GE X G W a ta) (hb : GE X G W b tb) (hc : GE X G W c tc) (hd : GE X G W d td) (hm : lastMarks [op, op', op''] [b, c, d] = false := by with_unfolding_all rfl) : GE X G W (.Compare a [op, op', op''] [b, c, d] pos) (gCh3 f f' f'' ta tb tc td) := by
  obtain ⟨te, p1, f1⟩ := ha.ex
  obtain ⟨t2, p2, f2⟩ := hb.ex
  obtain ⟨t3, p3, f3⟩ := hc.ex
  obtain ⟨t4, p4, f4⟩ := hd.ex
  refine ⟨_, pe_chain3 ho ho' ho'' p1 p2 p3 p4 hm, fun σ H τ ow Q wq Kt S h k w => ?_⟩
  refine f1 σ H τ ow _ wq _ S h (fun x H1 dx kx g1 r1 q1 => ?_) w
  refine f2 σ H1 τ ow _ wq _ (S.grow g1) q1 (fun y H2 dy ky g2 r2 q2 => ?_) (w.grow g1)
  refine hf S (g1.trans g2) (r1.grow S g1 g2) (r2.start S g1) q2 fun v H3 d kd g3 r3 q3 => ?_
  obtain ⟨b, e, q'⟩ := r3.asB q3
  refine ⟨b, e, ?_⟩
  have g13 := (g1.trans g2).trans g3
  cases b with
  | false => exact k _ _ _ _ g13 (RV.sc fun _ => .bl _) q'
  | true =>
    refine f3 σ H3 τ ow _ wq _ (S.grow g13) q' (fun z H4 dz kz g4 r4 q4 => ?_) (w.grow g13)
    refine hf' S (g13.trans g4) ((r2.start S g1).grow S (g1.trans g2) (g3.trans g4)) (r4.start S g13) q4 fun v H5 d kd g5 r5 q5 => ?_
    obtain ⟨b, e, q''⟩ := r5.asB q5
    refine ⟨b, e, ?_⟩
    have g15 := (g13.trans g4).trans g5
    cases b with
    | false => exact k _ _ _ _ g15 (RV.sc fun _ => .bl _) q''
    | true =>
      refine f4 σ H5 τ ow _ wq _ (S.grow g15) q'' (fun v H6 dv kv g6 r6 q6 => ?_) (w.grow g15)
      exact hf'' S (g15.trans g6) ((r4.start S g13).grow S (g13.trans g4) (g5.trans g6)) (r6.start S g15) q6 fun v H7 d kd g7 r7 q7 => k v H7 d kd ((g15.trans g6).trans g7) r7 q7
end
end TL

set_option maxHeartbeats 4000000
namespace TL
open PySem PySem.Spec PyProof.Rows L2
mutual
theorem reads_lt {h : Heap} : ∀ {v : Value} {d : PyData} {as : List Addr}, Reads h v d as → ∀ b ∈ as, b < h.objs.size
  | _, _, _, .none, b, hb => by simp at hb
  | _, _, _, .bool _, b, hb => by simp at hb
  | _, _, _, .int _ _, b, hb => by simp at hb
  | _, _, _, .str _ _, b, hb => by simp at hb
  | _, _, _, .list h1 h2 h3 h4, b, hb => by
    rcases List.mem_cons.mp hb with rfl | hb
    · exact Heap.lt_size h1
    · exact reads_lts h4 b hb
  | _, _, _, .tuple h1 h2 h3 h4, b, hb => reads_lts h4 b hb
  | _, _, _, .dict h1 h2 h3 h4 h5, b, hb => by
    rcases List.mem_append.mp hb with hb | hb
    · rcases List.mem_cons.mp hb with rfl | hb
      · exact Heap.lt_size h1
      · exact reads_lts h4 b hb
    · exact reads_lts h5 b hb
theorem reads_lts {h : Heap} : ∀ {vs : List Value} {ds : List PyData} {as : List Addr}, ReadsAll h vs ds as → ∀ b ∈ as, b < h.objs.size
  | _, _, _, .nil, b, hb => by simp at hb
  | _, _, _, .cons h1 h2, b, hb => by
    rcases List.mem_append.mp hb with hb | hb
    · exact reads_lt h1 b hb
    · exact reads_lts h2 b hb
end
section
variable {X : Cx} {G : Gh} {W : WX} {pos : Pos}
/-- sorted(x), x a tuple -/
def rSortTu (K : PySem.W.Frag) : List V → Hp → VK → Prop := fun vs H Q => ∃ (a : Addr) (zs : List (V × D)), vs = [V.ref a] ∧ SqT K H a (zs.map (·.1)) ∧ (∀ z ∈ zs, Dp K H z.1 z.2) ∧ SortOk (zs.map (·.2)) ∧
  ∀ (ys : List (V × D)) (p : Addr), ys.Perm zs → ys.map (·.2) = (zs.map (·.2)).mergeSort dLe → H p = none → Q (.ref p) (upd H p (.lst (ys.map (·.1))))
theorem call_sortTu (hu : X.A.units + 65 < cLine) : CallR X (.builtin "sorted") (rSortTu X.K) := by
  intro pins s σ H vs us Q I r h
  obtain ⟨a, zs, rfl, hs, hz, ok, q⟩ := h
  obtain ⟨its, rv, pt, hsz⟩ := I.tuple hs
  obtain ⟨u, rfl, rx⟩ := r.one
  cases rx
  have he := vals_each rv
  have hlen : its.length = zs.length := by have := rv.length; rw [List.length_map] at this; exact this.symm
  have z24 : zs.length ≤ sizeLine := by rw [← List.length_map (f := fun z : V × D => z.1)]; exact hsz
  obtain ⟨o, ho, hcl, n, hdt⟩ := id pt
  refine Calls.call_function_entry PyProof.Rows.kind_sorted PyProof.Rows.plain_sorted PyProof.Rows.entry_sorted (PyProof.Rows.args_sorted1 _) ?_
  unfold Builtin.«sorted»
  refine wpAny_bind (m := checkCount "sorted" 1 1 _) (wpAny_pure ?_)
  refine wpAny_bind (wpAny_collect_seq (A := X.A.in1) a (.inr rfl) ho hcl hdt (fun h' hk => ?_) (by simpa [hlen] using z24))
  have I1 : Inv X pins σ H { s with heap := h' } := I.kept (t' := s.toks) hk
  refine wpAny_bind (wpAny_newList ?_ (by simpa [hlen] using z24))
  have hoL : (h'.push (seqObj "list" its.toArray 0)).get? h'.objs.size = some (seqObj "list" its.toArray 0) := Heap.get?_push_size _ rfl
  show wpAny _ _ _ _ _ { s with heap := h'.push (seqObj "list" its.toArray 0) }
  refine wpAny_bind (wpAny_holding (wpAny_mono (PySem.W.list_sort_data (s := { s with heap := h'.push (seqObj "list" its.toArray 0) }) (vs := its) (bs := zs) (enc := fun z => z.2) (R := fun v z => RelV z.1 v ∧ z ∈ zs)
    (Q := fun _ s' => ∃ ys : List (V × D), ∃ out : List Value, ∃ n, Vals (ys.map (·.1)) out ∧ ys.Perm zs ∧ ys.map (·.2) = (zs.map (·.2)).mergeSort dLe ∧
      s'.heap.get? h'.objs.size = some (seqObj "list" out.toArray n) ∧ (∀ b o, h'.get? b = some o → s'.heap.get? b = some o) ∧ s' = { s with heap := s'.heap })
    hoL (each_memAll he fun b hb v hv => ⟨hv, hb⟩) (each_memAll he fun b hb v hv => ?_) ok.1 ok.2.1 z24 (fun b hb => ?_) fun out g1 g2 => ?_) (fun v s' x => ?_) fun _ _ e => e))
  · obtain ⟨as, rr⟩ := Dp.reads I1 b.2 b.1 v (hz b hb) hv
    refine ⟨as, PyProof.Rows.Reads.keeps (fun b o e => Heap.get?_push_of_some _ e) rr, fun hin => ?_⟩
    exact Nat.lt_irrefl _ (reads_lt rr _ hin)
  · have := ok.2.2 b.2 (List.mem_map.mpr ⟨b, hb, rfl⟩)
    show X.A.in1.units + 1 + _ < _
    have e : X.A.in1.units = X.A.units + 1 := rfl
    omega
  · obtain ⟨e', he'⟩ := PyProof.Rows.sortedHeap_at (vs := its) (out := out.toArray) hoL
    refine ⟨zs.mergeSort (PySem.W.dataLe false fun z => z.2), out, e', ?_, List.mergeSort_perm _ _, map_sortG _ _, he', fun b o e => ?_, rfl⟩
    · exact each_vals (each_memAll g2 fun b hb v hv => hv.1)
    · have hb : b < h'.objs.size := Heap.lt_size e
      rw [PyProof.Rows.sortedHeap_old (Nat.ne_of_lt hb) (by rw [size_push']; exact Nat.lt_succ_of_lt hb)]
      exact Heap.get?_push_of_some _ e
  · obtain ⟨ys, out, n, rvs, hp, hm, hg, hold, es'⟩ := x
    rw [es']
    have hl2 : (ys.map (·.1)).length ≤ sizeLine := by rw [List.length_map, hp.length_eq]; exact z24
    exact wpAny_pure ⟨_, rfl, .ref h'.objs.size, upd H h'.objs.size (.lst (ys.map (·.1))), I1.laid (t' := s.toks) hold (Nat.le_refl _)
      (show ObjOk X.prog X.w _ _ _ (.lst _) from ⟨hl2, _, n, rvs, hg⟩), rfl, q ys _ hp hm (I1.hok.fresh (Nat.le_refl _))⟩
/-- sorted(x) of a list, of a tuple -/
def fSrt : List (D × Kd) → QD → Prop
  | [(.list ds, kd)], Q => SortOk ds ∧ Q (.list (ds.mergeSort dLe)) (.nw kd.b)
  | [(.tuple ds, kd)], Q => SortOk ds ∧ Q (.list (ds.mergeSort dLe)) (.nw kd.b)
  | _, _ => False
theorem call_srt (hu : X.A.units + 65 < cLine) : CallR X (.builtin "sorted") (fun vs H Q => rSortD X.K vs H Q ∨ rSortTu X.K vs H Q) := (call_sortD hu).or (call_sortTu hu)
theorem cg_srt : CalG X G (fun vs H Q => rSortD X.K vs H Q ∨ rSortTu X.K vs H Q) fSrt := by
  intro σ H1 H τ ow vs ds Q Kt S gr r hf k
  unfold fSrt at hf
  split at hf
  · exact .inl (cg_sorted S gr r hf k)
  · cases r with
    | cons r1 t =>
      cases t
      obtain ⟨a, xs, rfl, e1, t1⟩ := r1.tup
      obtain ⟨zs, ex, ed, hz⟩ := paired_split (dps_paired t1)
      subst ex ed
      refine .inr ⟨a, zs, rfl, .of e1, fun z hm => (hz z hm).dp (nd_alikes hf.1.1 (List.mem_map.mpr ⟨z, hm, rfl⟩)), hf.1, fun ys p hp hy hn => ?_⟩
      refine k _ _ _ _ (Grow.upd hn) (RV.new S gr hn ?_) hf.2
      rw [← hy]
      exact paired_dps (paired_join fun z hm => hz z (hp.mem_iff.mp hm))
  · exact hf.elim
theorem ge_srt {e : Expr} {p : Pos} {t : TXs} (hu : X.A.units + 65 < cLine) (hm : X.mg "sorted" = none) (ha : GA X G W [e] t) (hg : Gl X "sorted" := by rfl) (he : starEach [e] X.env = (false, eval e X.env) :: starEach [] X.env := by rfl) : GE X G W (.Call (.Name "sorted" p) [e] [] pos) (gCall fSrt t) :=
  ge_callB (call_srt hu) cg_srt ha hm (by decide +kernel) hg (by decide) (by decide) he
end
end TL

set_option maxHeartbeats 1000000
namespace TL
open PySem PySem.Spec PyProof.Rows L2
theorem frOk_fz (l : List D) (b : Bool) : frOk (l.map fun x => (x, Kd.fz b)) = True := by
  induction l with
  | nil => rfl
  | cons x l ih => exact ih
theorem allB_fzt (l : List D) : TL.allB (l.map fun x => (x, Kd.fz true)) = true := by
  induction l with
  | nil => rfl
  | cons x l ih => simp [TL.allB, Kd.b, ih]
theorem fst_fz (l : List D) (b : Bool) : (l.map fun x => (x, Kd.fz b)).map (fun x => x.1) = l := by
  rw [List.map_map]; exact List.map_id _
theorem len_fz (l : List D) (b : Bool) : (l.map fun x => (x, Kd.fz b)).length = l.length := List.length_map _
theorem cut_from {ds : List D} {i : Int} (h : 0 ≤ i) : TL.cutD ds (some i) none = ds.drop i.toNat := by
  unfold TL.cutD HT.sIx
  simp only
  rw [if_neg (by omega)]
  have e : List.take (ds.length - min i.toNat ds.length) (List.drop (min i.toNat ds.length) ds) = List.drop (min i.toNat ds.length) ds := by
    rw [List.take_of_length_le]
    rw [List.length_drop]; omega
  rcases Nat.le_total i.toNat ds.length with q | q
  · rw [Nat.min_eq_left q] at e ⊢
    simpa using e
  · rw [Nat.min_eq_right q] at e ⊢
    rw [List.drop_of_length_le q]
    simp
theorem enD_map {α : Type} (f : α → D) (l : List α) : enD (l.map f) = l.zipIdx.map fun p => .tuple [.int (p.2 : Nat), f p.1] := by
  unfold enD
  rw [List.zipIdx_map, List.map_map]
  rfl
theorem zipIdx_split {α : Type} {l : List α} {done rest : List (α × Nat)} {x : α × Nat} (h : l.zipIdx = done ++ x :: rest) : x.2 = done.length ∧ l.drop done.length = x.1 :: l.drop (done.length + 1) ∧ done.length < l.length := by
  have h2 : l.zipIdx[done.length]? = some x := by rw [h]; simp
  rw [List.getElem?_zipIdx] at h2
  cases e : l[done.length]? with
  | none => rw [e] at h2; cases h2
  | some y =>
    rw [e] at h2
    simp at h2
    have hl := (List.getElem?_eq_some_iff.mp e).1
    have he := (List.getElem?_eq_some_iff.mp e).2
    subst h2
    refine ⟨rfl, ?_, hl⟩
    rw [List.drop_eq_getElem_cons hl, he]
end TL

set_option maxHeartbeats 4000000
namespace TL
open PySem PySem.Spec PyProof.Rows L2
section
variable {X : Cx} {G : Gh} {W : WX} {pos : Pos}
theorem dp_readsAll {pins : List (Addr × Obj)} {σ : L2.St} {H : Hp} {s : Shared} (I : Inv X pins σ H s) : ∀ {zs : List (V × D)} {us : List Value}, (∀ z ∈ zs, Dp X.K H z.1 z.2) → Vals (zs.map (·.1)) us → ∃ as, ReadsAll s.heap us (zs.map (·.2)) as
  | [], _, _, .nil => ⟨[], .nil⟩
  | z :: zs, _, h, .cons r t => by
    obtain ⟨as, r1⟩ := Dp.reads I z.2 z.1 _ (h z List.mem_cons_self) r
    obtain ⟨bs, r2⟩ := dp_readsAll I (fun y hy => h y (List.mem_cons_of_mem _ hy)) t
    exact ⟨as ++ bs, .cons r1 r2⟩
/-- min(xs), data -/
def rMinD (K : PySem.W.Frag) : List V → Hp → VK → Prop := fun vs H Q => ∃ (a : Addr) (z : V × D) (zs : List (V × D)), vs = [V.ref a] ∧ SqL K H a ((z :: zs).map (·.1)) ∧ (∀ y ∈ z :: zs, Dp K H y.1 y.2) ∧ PySem.W.AlikeAll ((z :: zs).map (·.2)) ∧ PyData.depthAll ((z :: zs).map (·.2)) ≤ 60 ∧
  ∀ y ∈ z :: zs, y.2 = PySem.W.minD z.2 (zs.map (·.2)) → Q y.1 H
theorem call_minD (hc : X.calm = true) (hu : X.A.units + 64 < cLine) : CallR X (.builtin "min") (rMinD X.K) := by
  intro pins s σ H vs us Q I r h
  obtain ⟨a, z, zs, rfl, hs, hz, hal, hdep, q⟩ := h
  rw [Vals.ref1 r]
  obtain ⟨its, rv, hl, _⟩ := I.list hs
  obtain ⟨as, ra⟩ := dp_readsAll I hz rv
  refine PySem.W.min_list_data (I.ok.hd hc) hl.isList (x := z.2) (xs := zs.map (·.2)) (by simpa using ra) (by simpa using hal) (by
    have e : PyData.depthAll (z.2 :: zs.map (·.2)) = PyData.depthAll ((z :: zs).map (·.2)) := rfl
    rw [e]; omega) fun i v h' tk bs hi rd hk => ?_
  have hi' : its[i]? = some v := by simpa using hi
  have hlt : i < its.length := (List.getElem?_eq_some_iff.mp hi').1
  have hlen := rv.length
  rw [List.length_map] at hlen
  have hlt2 : i < (z :: zs).length := by omega
  have hy : ((z :: zs).map (·.1))[i]? = some ((z :: zs)[i]).1 := by rw [List.getElem?_map, List.getElem?_eq_getElem hlt2]; rfl
  obtain ⟨u, hu', ru⟩ := rv.get hy
  have ev : u = v := Option.some.inj (hu'.symm.trans hi')
  subst ev
  have hmem : (z :: zs)[i] ∈ z :: zs := List.getElem_mem hlt2
  obtain ⟨cs, rr⟩ := Dp.reads I ((z :: zs)[i]).2 ((z :: zs)[i]).1 u (hz _ hmem) ru
  have e2 := (PySem.Reads.unique (PyProof.Rows.Reads.keeps hk rr) _ _ rd).1
  exact ⟨((z :: zs)[i]).1, H, I.kept hk, ru, q _ hmem e2⟩
def fMinD : List (D × Kd) → QD → Prop
  | [(.list ds, kd)], Q => ∃ (x : D) (xs : List D), ds = x :: xs ∧ PySem.W.AlikeAll ds ∧ PyData.depthAll ds ≤ 60 ∧ Q (PySem.W.minD x xs) (.fz (kd.b || im.imAll ds))
  | _, _ => False
theorem DP.memD {K : PySem.W.Frag} {H : Hp} {P : Addr → Prop} : ∀ {zs : List (V × D)}, (∀ z ∈ zs, DP K H P z.1 z.2) → DPs K H P (zs.map (·.1)) (zs.map (·.2))
  | [], _ => .nil
  | z :: zs, h => .cons (h z List.mem_cons_self) (DP.memD fun y hy => h y (List.mem_cons_of_mem _ hy))
theorem cg_minD : CalG X G (rMinD X.K) fMinD := by
  intro σ H1 H τ ow vs ds Q Kt S gr r hf k
  unfold fMinD at hf
  split at hf
  · rename_i l kd e
    cases r with
    | cons r1 t =>
      cases t
      obtain ⟨x, xs, rfl, ha, hd, q⟩ := hf
      obtain ⟨a, ys, rfl, e1, t1⟩ := r1.lst
      obtain ⟨zs, ex, ed, hz⟩ := paired_split (dps_paired t1.up)
      cases zs with
      | nil => simp at ed
      | cons z zs =>
        simp only [List.map_cons, List.cons.injEq] at ed
        obtain ⟨rfl, rfl⟩ := ed
        refine ⟨a, z, zs, rfl, by rw [← ex]; exact .of e1, fun y hy => (hz y hy).dp (nd_alike (ha.1 _ (List.mem_map.mpr ⟨y, hy, rfl⟩) _ (List.mem_map.mpr ⟨y, hy, rfl⟩))), ha, hd, fun y hy e2 => ?_⟩
        refine k _ _ _ _ Grow.refl (RV.ofFz (hz y hy)) ?_
        rw [e2]
        exact q
  · exact hf.elim
theorem ge_minD {e : Expr} {p : Pos} {t : TXs} (hc : X.calm = true) (hu : X.A.units + 64 < cLine) (hm : X.mg "min" = none) (ha : GA X G W [e] t) (hg : Gl X "min" := by rfl) (he : starEach [e] X.env = (false, eval e X.env) :: starEach [] X.env := by rfl) : GE X G W (.Call (.Name "min" p) [e] [] pos) (gCall fMinD t) :=
  ge_callB (call_minD hc hu) cg_minD ha hm (by decide +kernel) hg (by decide) (by decide) he
/-- the least: one of them, none below it -/
theorem minD_spec : ∀ (xs : List D) (x : D), PySem.W.minD x xs ∈ x :: xs ∧ ∀ y ∈ x :: xs, dLe (PySem.W.minD x xs) y = true := by
  intro xs
  induction xs with
  | nil => intro x; exact ⟨by simp [PySem.W.minD], fun y hy => by rw [List.mem_singleton.mp hy]; exact dLe_tot.refl x⟩
  | cons z xs ih =>
    intro x
    have e : PySem.W.minD x (z :: xs) = PySem.W.minD (if PySem.W.dataLt z x = true then z else x) xs := rfl
    rw [e]
    obtain ⟨h1, h2⟩ := ih (if PySem.W.dataLt z x = true then z else x)
    have hz : dLe (if PySem.W.dataLt z x = true then z else x) z = true ∧ dLe (if PySem.W.dataLt z x = true then z else x) x = true := by
      have d : ∀ a b : D, dLe a b = !PySem.W.dataLt b a := fun _ _ => rfl
      cases q : PySem.W.dataLt z x with
      | true =>
        simp only [if_true]
        refine ⟨dLe_tot.refl z, ?_⟩
        rcases dLe_tot.total z x with h | h
        · exact h
        · rw [d, q] at h; cases h
      | false =>
        simp only [Bool.false_eq_true, if_false]
        exact ⟨by rw [d, q]; rfl, dLe_tot.refl x⟩
    refine ⟨?_, fun y hy => ?_⟩
    · rcases List.mem_cons.mp h1 with h1 | h1
      · rw [h1]
        split
        · simp
        · simp
      · simp [h1]
    · have hh := h2 _ List.mem_cons_self
      rcases List.mem_cons.mp hy with rfl | hy
      · exact dLe_tot.trans _ _ _ hh hz.2
      · rcases List.mem_cons.mp hy with rfl | hy
        · exact dLe_tot.trans _ _ _ hh hz.1
        · exact h2 y (List.mem_cons_of_mem _ hy)
/-- not e by truth, as a value -/
def gNotT (t : TX) : TX := fun τ Q wq => t τ (fun d _ => fTru d fun b => Q (.bool (!b)) (.fz true)) wq
theorem ge_notT {a : Expr} {ta : TX} (ha : GE X G W a ta) : GE X G W (.UnaryOp .Not a pos) (gNotT ta) := by
  obtain ⟨te, p1, f1⟩ := ha.ex
  refine ⟨_, pe_notT p1, fun σ H τ ow Q wq Kt S h k w => f1 σ H τ ow _ wq _ S h (fun v H1 d kd g1 r1 q1 => ?_) w⟩
  cases d with
  | none => exact ⟨false, by rw [r1.non]; rfl, k _ _ _ _ g1 (RV.sc fun _ => .bl _) q1⟩
  | bool b => exact ⟨b, by rw [r1.bool]; rfl, k _ _ _ _ g1 (RV.sc fun _ => .bl _) q1⟩
  | int i => exact ⟨_, by rw [r1.int]; rfl, k _ _ _ _ g1 (RV.sc fun _ => .bl _) q1⟩
  | str y => exact ⟨_, by rw [r1.str]; exact ⟨q1.1, rfl⟩, k _ _ _ _ g1 (RV.sc fun _ => .bl _) q1.2⟩
  | list ds =>
    obtain ⟨a, xs, rfl, e1, t1⟩ := r1.lst
    exact ⟨!ds.isEmpty, .inl ⟨xs, .of e1, by rw [t1.isE]⟩, k _ _ _ _ g1 (RV.sc fun _ => .bl _) q1⟩
  | tuple ds =>
    obtain ⟨a, xs, rfl, e1, t1⟩ := r1.tup
    exact ⟨!ds.isEmpty, .inr (.inl ⟨xs, .of e1, by rw [t1.isE]⟩), k _ _ _ _ g1 (RV.sc fun _ => .bl _) q1⟩
  | dict _ => exact q1.elim
end
end TL

set_option maxHeartbeats 4000000
namespace TL
open PySem PySem.Spec PyProof.Rows L2
/-! ### enumerate(a tuple) -/
set_option maxHeartbeats 1000000 in
theorem meets_en1 {v : Value} {ob : Obj} {HH : Heap → Prop} (B : Begins v ob HH) :
    Meets (Builtin.«enumerate.__new__» ⟨[.type "enumerate", v], []⟩) (fun _ R z => HH z.heap ∧
      R (.ok (.ret (.ref (z.heap.push ob).objs.size))) { z with heap := (z.heap.push ob).push { cls := .type "enumerate", data := .fields #[.none, .bool false, .ref z.heap.objs.size, rawInt 0, .none, .none] } }) :=
  .of_wp fun prog w A R z hz => by
    obtain ⟨h0, g0, d0, t0, o0⟩ := z
    obtain ⟨hb, hz⟩ := hz
    have su := sub_enumerate
    have it : ∀ {A' : Around} {E : Value → Shared → Prop} {Q : Value → Shared → Prop}, Q (.ref h0.objs.size) ⟨h0.push ob, g0, d0, t0, o0⟩ → wpAny (model prog w) A' (pyIter v) Q E ⟨h0, g0, d0, t0, o0⟩ := fun q => B.iter prog w _ _ ⟨h0, g0, d0, t0, o0⟩ _ hb q
    wp_walk using it
    refine wpAny_stack_any fun _ => wpAny_pure ?_
    split
    · rename_i c _ _ _ _ _
      cases (c == Value.type "enumerate") <;> (wp_walk using it; exact ⟨_, rfl, hz⟩)
    · (wp_walk using it; exact ⟨_, rfl, hz⟩)
section
variable {prog : Program} {w : World} {A : Around} {E : Value → Shared → Prop} {s : Shared}
theorem call_en1 {v : Value} {ob : Obj} {HH : Heap → Prop} {Q : Value → Shared → Prop} (B : Begins v ob HH) (h1 : HH s.heap)
    (h : ∀ h', IsEnum h' (s.heap.objs.size + 1) s.heap.objs.size 0 .none → h'.get? s.heap.objs.size = some ob → (∀ b o, s.heap.get? b = some o → h'.get? b = some o) → Q (.ref (s.heap.objs.size + 1)) { s with heap := h' }) :
    wpAny (model prog w) A (call (.type "enumerate") [v]) Q E s := by
  refine callType_new F.called_enumerate (by decide) (F.typeCall_enumerate_1 _) (F.newCall_enumerate_1 _) (fun obj => F.args_object_init_2 obj _) F.entry_enumerate_new (meets_en1 B) ⟨h1, ?_⟩
  have e1 : (s.heap.push ob).objs.size = s.heap.objs.size + 1 := Heap.size_push ..
  show _ ∧ _
  rw [e1]
  have en := Heap.get?_push_size (s.heap.push ob) (o := { cls := .type "enumerate", data := .fields #[.none, .bool false, .ref s.heap.objs.size, rawInt 0, .none, .none] }) rfl
  rw [e1] at en
  exact ⟨⟨_, en, rfl⟩, h _ en (Heap.get?_push_of_some _ (Heap.get?_push_size _ B.free)) fun b o x => Heap.get?_push_of_some _ (Heap.get?_push_of_some _ x)⟩
end
/-- the tuple at a, each item in a new pair -/
def IteT (K : PySem.W.Frag) (a : Addr) : It :=
  ⟨fun i H => ∃ (xs : List V) (x : V), SqT K H a xs ∧ xs[i]? = some x, fun i H v H' => ∃ T x, v = .ref T ∧ H T = none ∧ H' = upd H T (.tup [.int (i : Nat), x]) ∧ ∀ xs, SqT K H a xs → xs[i]? = some x, fun i H => ∃ xs : List V, SqT K H a xs ∧ xs.length = i⟩
theorem turn_enT {P : Program} {w : World} {K : PySem.W.Frag} {elts : List Expr} {kk : Nat} {tpos : Pos} (a e it : Addr) (ha : a ≠ it) (hae : a ≠ e) :
    Turn P w K (.Tuple elts kk tpos) (IteT K a) [e, it] e (fun i h => (∃ old, IsEnum h e it ((i : Nat) : Int) old) ∧ h.IsTupleIter it a i ∧ e ≠ it) where
  mem := by simp
  obj := fun i h st b hb => by
    obtain ⟨⟨old, he⟩, ⟨o, ho, _, hd⟩, _⟩ := st
    rcases (show b = e ∨ b = it by simpa using hb) with rfl | rfl
    · exact ⟨_, he, fun v q => nomatch q⟩
    · exact ⟨o, ho, fun v q => by rw [hd] at q; cases q⟩
  keep := fun i h h' st k => ⟨⟨st.1.choose, k e (by simp) _ st.1.choose_spec⟩, st.2.1.at fun o q => k it (by simp) o q, st.2.2⟩
  item := by
    intro X hP hw hK hc i pins s σ H E I hf st hg
    subst hP hw hK
    obtain ⟨⟨old, he⟩, hit, hne⟩ := st
    obtain ⟨xs, x, hq, hx⟩ := hg
    obtain ⟨its, rv, p, hz⟩ := I.tuple hq
    obtain ⟨u, hu, ru⟩ := rv.get hx
    have lt1 : e < s.heap.objs.size := Heap.lt_size he
    have lt2 : it < s.heap.objs.size := by obtain ⟨_, q, _⟩ := hit; exact Heap.lt_size q
    have hi : i < its.length := (List.getElem?_eq_some_iff.mp hu).1
    have D : Draws X.prog X.w X.A.in1 it [it, a] its.toArray.size (fun i v => its.toArray[i]? = some v) (fun i h => h.IsTupleIter it a i ∧ h.IsTuple a its.toArray) := Draws.tuple (A := X.A.in1) (I.ok.hd hc) it a ha its.toArray
    refine wpAny_pyNext_enum_itemD D he ⟨hit, p⟩ (by simpa using hi) hne (by simp [hne, Ne.symm hae]) fun y h' tk hy ho st' hT hsz hk => ?_
    have ey : y = u := by
      have : its[i]? = some y := by simpa using hy
      exact Option.some.inj (this.symm.trans hu)
    subst ey
    refine ⟨_, rfl, wpAny_letOwnedTupleGo_enum (s := { s with heap := h', toks := tk + 1 }) ho fun h2 he' sb => ?_⟩
    have hT2 := (sb.2 _ (Nat.ne_of_gt lt1)).trans hT
    have new : ObjOk X.prog X.w (upd H s.heap.objs.size (.tup [.int (i : Nat), x])) h2 s.heap.objs.size (.tup [.int (i : Nat), x]) := ⟨by show 2 ≤ sizeLine; decide, [.int i tk, y], .cons ⟨_, rfl⟩ (.cons ru .nil), ⟨_, hT2, rfl, _, rfl⟩⟩
    have I1 : Inv X pins σ (upd H s.heap.objs.size (.tup [.int (i : Nat), x])) { s with heap := h2, toks := tk + 1 } :=
      I.turnedNew (ch := [e, it]) (fun b ob hb q => (sb.2 b (fun z => hb (by simp [z]))).trans (hk b ob (fun z => hb (by simp [z])) (fun z => hb (by simp [z])) q)) hf (Nat.le_refl _) new
    refine ⟨.ref s.heap.objs.size, _, I1, rfl, ⟨_, x, rfl, I.hok.fresh (Nat.le_refl _), rfl, fun ys hy => by rw [I.tuple_inj hy hq]; exact hx⟩, ⟨⟨y, ?_⟩, st'.1.at fun o q => (sb.2 it (Ne.symm hne)).trans q, hne⟩, fun b hb => ?_⟩
    · rw [show ((i + 1 : Nat) : Int) = (i : Int) + 1 by omega]; exact he'
    · have hb' : b < s.heap.objs.size := by
        rcases (show b = e ∨ b = it by simpa using hb) with z | z <;> rw [z]
        · exact lt1
        · exact lt2
      rw [upd_ne (Nat.ne_of_lt hb')]
      exact (hf b hb).1
  done := by
    intro X hP hw hK hc i pins s σ H E I hf st hg
    subst hP hw hK
    obtain ⟨⟨old, he⟩, hit, hne⟩ := st
    obtain ⟨xs, hq, hx⟩ := hg
    obtain ⟨its, rv, p, hz⟩ := I.tuple hq
    obtain ⟨f0, f1, f2, f3, f4, f5⟩ := hf it (by simp)
    have hl := rv.length
    have D : Draws X.prog X.w X.A.in1 it [it, a] its.toArray.size (fun i v => its.toArray[i]? = some v) (fun i h => h.IsTupleIter it a i ∧ h.IsTuple a its.toArray) := Draws.tuple (A := X.A.in1) (I.ok.hd hc) it a ha its.toArray
    have ei : its.toArray.size = i := by simp; omega
    have he2 : IsEnum s.heap e it ((its.toArray.size : Nat) : Int) old := by rw [ei]; exact he
    exact wpAny_pyNext_enum_endD D he2 (by rw [ei]; exact ⟨hit, p⟩) fun h' eb => ⟨rfl, I.turned (t' := s.toks) (fun b o hb q => eb b o hb q) f0 f1 f3 f4 f5⟩
  self := fun A i s Q E st h => wpAny_pyIter_enum st.1.choose_spec h
section
variable {X : Cx} {G : Gh} {W : WX} {pos : Pos}
/-- enumerate of a list, of a tuple -/
def iEnA (K : PySem.W.Frag) (ta : TA) : TI := fun σ H R => ta σ H fun vs H1 => ∃ a xs, vs = [.ref a] ∧ ((SqL K H1 a xs ∧ R (Ite K a) H1) ∨ (SqT K H1 a xs ∧ R (IteT K a) H1))
theorem pi_enA {e : Expr} {ta : TA} {p tpos : Pos} {elts : List Expr} {kk : Nat} (hg : Gl X "enumerate") (hm : X.mg "enumerate" = none) (ha : PA X [e] ta) (hs : starEach [e] X.env = [(false, eval e X.env)] := by rfl) :
    PI X (.Tuple elts kk tpos) (.Call (.Name "enumerate" p) [e] [] pos) (iEnA X.K ta) := by
  refine ⟨fun pins s σ H R I h => ?_⟩
  refine Call_ (ld_blt I hg hm boot_enumerate (PyProof.Rows.callWith_type1 (thn (ha.run pos pins s σ H _ I h) fun us z ⟨vs, H1, I1, r1, q1⟩ => ?_) hs rfl))
  obtain ⟨a, xs, rfl, q1⟩ := q1
  obtain ⟨u, rfl, rx⟩ := r1.one
  cases rx
  have fr : ∀ b ∈ [z.heap.objs.size + 1, z.heap.objs.size], FpOk X pins H1 b := fun b hb => by
    have hle : z.heap.objs.size ≤ b := by
      rcases (show b = z.heap.objs.size + 1 ∨ b = z.heap.objs.size by simpa using hb) with q | q <;> rw [q]
      · exact Nat.le_succ _
      · exact Nat.le_refl _
    exact I1.fpOk hle (I1.hok.fresh hle)
  rcases q1 with ⟨hq, q⟩ | ⟨hq, q⟩
  · obtain ⟨its, rv, p', hz⟩ := I1.list hq
    refine call_enumerate_list p'.isList fun h' he hit _ hk => wpAny_pyIter_enum he ?_
    exact ⟨z.heap.objs.size + 1, [z.heap.objs.size + 1, z.heap.objs.size], _, _, H1, rfl, I1.kept (t' := z.toks) hk, turn_enum a (z.heap.objs.size + 1) z.heap.objs.size, ⟨⟨.none, he⟩, hit, Nat.succ_ne_self _⟩, fr, q⟩
  · obtain ⟨its, rv, p', hz⟩ := I1.tuple hq
    have la : a < z.heap.objs.size := by obtain ⟨o, ho, _⟩ := id p'; exact Heap.lt_size ho
    refine call_en1 (begins_tuple a its.toArray) p' fun h' he hit hk => wpAny_pyIter_enum he ?_
    exact ⟨z.heap.objs.size + 1, [z.heap.objs.size + 1, z.heap.objs.size], _, _, H1, rfl, I1.kept (t' := z.toks) hk, turn_enT a (z.heap.objs.size + 1) z.heap.objs.size (Nat.ne_of_lt la) (Nat.ne_of_lt (Nat.lt_succ_of_lt la)), ⟨⟨.none, he⟩, ⟨_, hit, rfl, rfl⟩, Nat.succ_ne_self _⟩, fr, q⟩
theorem itok_enT {K : PySem.W.Frag} {τ : Slots} {ow : Ow} {σ : L2.St} {H : Hp} {a : Addr} {xs : List V} {ds : List D} {b own : Bool} (S : Sim K G τ ow σ H) (e : H a = some (.tup xs)) (t : DPs K H (Fz G ow b) xs ds) : ItOk K G ow H own (IteT K a) (enD ds) b := by
  intro τ2 ow2 σ2 H2 S2 ho2 f
  have na : ow a = none := by
    cases q : ow a with
    | none => rfl
    | some k => have := S.own a k q; rw [e] at this; exact this.elim
  have e2 : H2 a = some (.tup xs) := (f a _ e na).1
  have t2 := t.frs S f
  refine ⟨fun i d hd => ?_, xs, .of e2, by rw [enD_len, t.length]⟩
  obtain ⟨z, hz, rfl⟩ := enD_get hd
  obtain ⟨v, hv, r⟩ := t2.get hz
  refine ⟨⟨xs, v, .of e2, hv⟩, fun x H3 y => ?_⟩
  obtain ⟨T, w, rfl, hT, rfl, y⟩ := y
  have ex : w = v := Option.some.inj ((y xs (.of e2)).symm.trans hv)
  subst ex
  exact ⟨Grow.upd hT, .tup upd_same (.cons (.int _) (.cons (DP.grow S2 (Grow.upd hT) S2.fzp r) .nil))⟩
def itE (d : D) (kd : Kd) (Q : List D → Bool → Bool → Prop) : Prop := match d with
  | .list ds => Q (enD ds) kd.b kd.isOw
  | .tuple ds => Q (enD ds) kd.b false
  | _ => False
def iEn2 (t : TX) : TIt := fun τ Q wq => t τ (fun d kd => itE d kd Q) wq
theorem gi_en2 {elts : List Expr} {kk : Nat} {tpos p : Pos} {e : Expr} {t : TX} (hm : X.mg "enumerate" = none) (he : GE X G W e t) (hg : Gl X "enumerate" := by rfl) (hs : starEach [e] X.env = (false, eval e X.env) :: starEach [] X.env := by rfl) (hs2 : starEach [e] X.env = [(false, eval e X.env)] := by rfl) :
    GI X G W (.Tuple elts kk tpos) (.Call (.Name "enumerate" p) [e] [] pos) (iEn2 t) := by
  obtain ⟨te, p1, f1⟩ := he.ex
  refine ⟨_, pi_enA hg hm (pa_cons p1 pa_nil hs) hs2, fun σ H τ ow Q wq R S h k w => f1 σ H τ ow _ wq _ S h (fun v H1 d kd g r q => ?_) w⟩
  have S1 := S.grow g
  cases d with
  | list ds =>
    obtain ⟨a, xs, rfl, e, t⟩ := r.lst
    exact ⟨a, xs, rfl, .inl ⟨.of e, k _ _ _ kd.b _ g (itok_enum S1 e (RV.ownL S r fun z => z) t) q⟩⟩
  | tuple ds =>
    obtain ⟨a, xs, rfl, e, t⟩ := r.tup
    exact ⟨a, xs, rfl, .inr ⟨.of e, k _ _ _ kd.b _ g (itok_enT S1 e t) q⟩⟩
  | _ => exact q.elim
end
end TL

set_option maxHeartbeats 4000000
namespace TL
open PySem PySem.Spec PyProof.Rows L2
section
variable {X : Cx} {G : Gh} {W : WX} {pos : Pos}
/-- an object at D that no slot knows -/
theorem Sim.hideO {K : PySem.W.Frag} {τ : Slots} {ow : Ow} {σ : L2.St} {H : Hp} (S : Sim K G τ ow σ H) {D : Addr} (n : H D = none) {o' : HO} (m1 : Mut (some o')) : Sim K G τ (owD ow D) σ (upd H D o') := by
  have ne : ∀ {c : Addr} {o : HO}, H c = some o → c ≠ D := fun e => ne_of_none e n
  have kl : ∀ (b : Bool) (c : Addr) (o : HO), (Fz G ow b c ∧ c ≠ D) → H c = some o → upd H D o' c = some o := fun b c o p e => by rw [upd_ne p.2]; exact e
  have kt : ∀ (c : Addr) (o : HO), H c = some o → ¬ Mut (H c) → upd H D o' c = some o := fun c o e _ => by rw [upd_ne (ne e)]; exact e
  have kp : ∀ (b : Bool) (c : Addr), (Fz G ow b c ∧ c ≠ D) → Fz G (owD ow D) b c := fun b c p => ⟨by rw [owD_ne p.2]; exact p.1.1, p.1.2⟩
  refine ⟨S.len, fun k s e => ?_, fun a k e => ?_, fun a o e hn => ?_, fun p e => ?_, S.pl⟩
  · obtain ⟨v, e1, q⟩ := S.sl k s e
    refine ⟨v, e1, ?_⟩
    cases s with
    | fz d b => exact (DP.live n (show DP K H (Fz G ow b) v d from q)).keep (kl b) kt (kp b)
    | own ds b =>
      obtain ⟨a, ys, rfl, o, e2, t⟩ := q
      exact ⟨a, ys, rfl, by rw [owD_ne (ne e2)]; exact o, by rw [upd_ne (ne e2)]; exact e2, (DPs.live n t).keep (kl b) kt (kp b)⟩
    | dK kvs =>
      obtain ⟨a, ys, rfl, o, e2, t⟩ := q
      exact ⟨a, ys, rfl, by rw [owD_ne (ne e2)]; exact o, by rw [upd_ne (ne e2)]; exact e2, Paired.mapP t fun _ _ z => ⟨z.1, (DP.live n z.2).keep (kl true) kt (kp true)⟩⟩
    | dT kvs =>
      obtain ⟨a, ys, rfl, o, e2, t⟩ := q
      exact ⟨a, ys, rfl, by rw [owD_ne (ne e2)]; exact o, by rw [upd_ne (ne e2)]; exact e2, Paired.mapP t fun _ _ z => ⟨z.1, (DP.live n z.2).keep (kl true) kt (kp true)⟩⟩
    | reg φ => exact RegOk.keep q fun c ob oc e => ⟨by rw [upd_ne (ne e)]; exact e, by rw [owD_ne (ne e)]; exact oc⟩
  · by_cases h : a = D
    · subst h; rw [upd_same]; exact m1
    · rw [owD_ne h] at e
      rw [upd_ne h]; exact S.own a k e
  · obtain ⟨z1, z2⟩ := S.ent a o e hn
    exact ⟨by rw [upd_ne (ne z1)]; exact z1, by rw [owD_ne (ne z1)]; exact z2⟩
  · obtain ⟨z1, z2, z3⟩ := S.pool p e
    obtain ⟨_, _, _, _, _, y1, y2, _⟩ := id z1
    exact ⟨z1.keep (fun o q => by rw [upd_ne (ne q)]; exact q) (fun o q => by rw [upd_ne (ne q)]; exact q), by rw [owD_ne (ne y1)]; exact z2, by rw [owD_ne (ne y2)]; exact z3⟩
theorem Sim.moreO {K : PySem.W.Frag} {τ : Slots} {ow : Ow} {σ : L2.St} {H : Hp} {D : Addr} {o0 o' : HO} (S : Sim K G τ (owD ow D) σ H) (nD : G.pool ≠ some D) (e : H D = some o0) (m0 : Mut (some o0)) (m1 : Mut (some o')) : Sim K G τ (owD ow D) σ (upd H D o') := by
  have oD : owD ow D D = some none := if_pos rfl
  have kl : ∀ (b : Bool) (c : Addr) (o : HO), Fz G (owD ow D) b c → H c = some o → upd H D o' c = some o := fun b c o p e => by rw [upd_ne (owD_none p.1).1]; exact e
  have kt : ∀ (c : Addr) (o : HO), H c = some o → ¬ Mut (H c) → upd H D o' c = some o := fun c o ec m => by
    rw [upd_ne fun z => m (by rw [z, e]; exact m0)]; exact ec
  have na : ∀ {k : Nat} {s : Sl} {a : Addr}, τ[k]? = some (some s) → owD ow D a = some (some k) → a ≠ D := fun {k s a} ek h z => by
    rw [z, oD] at h
    cases h
  refine ⟨S.len, fun k s ek => ?_, fun a k e => ?_, fun a o e hn => ?_, fun p e => ?_, S.pl⟩
  · obtain ⟨v, e1, q⟩ := S.sl k s ek
    refine ⟨v, e1, ?_⟩
    cases s with
    | fz d b => exact (show DP K H (Fz G _ b) v d from q).keep (kl b) kt fun _ p => p
    | own ds b =>
      obtain ⟨a, zs, rfl, o, e2, t⟩ := q
      exact ⟨a, zs, rfl, o, by rw [upd_ne (na ek o)]; exact e2, t.keep (kl b) kt fun _ p => p⟩
    | dK kvs =>
      obtain ⟨a, zs, rfl, o, e2, t⟩ := q
      exact ⟨a, zs, rfl, o, by rw [upd_ne (na ek o)]; exact e2, DKs.keep t (kl true) kt fun _ p => p⟩
    | dT kvs =>
      obtain ⟨a, zs, rfl, o, e2, t⟩ := q
      exact ⟨a, zs, rfl, o, by rw [upd_ne (na ek o)]; exact e2, DKs.keep t (kl true) kt fun _ p => p⟩
    | reg φ => exact RegOk.keep q fun c ob oc e => ⟨by rw [upd_ne (na ek oc)]; exact e, oc⟩
  · by_cases h : a = D
    · subst h; rw [upd_same]; exact m1
    · rw [upd_ne h]; exact S.own a k e
  · obtain ⟨z1, z2⟩ := S.ent a o e hn
    exact ⟨by rw [upd_ne (owD_none z2).1]; exact z1, z2⟩
  · obtain ⟨z1, z2, z3⟩ := S.pool p e
    have hp : p ≠ D := fun z => nD (by rw [← z]; exact e)
    exact ⟨z1.keep (fun o q => by rw [upd_ne hp]; exact q) (fun o q => by rw [upd_ne (owD_none z3).1]; exact q), z2, z3⟩
/-- the object comes into a slot -/
theorem Sim.claim {K : PySem.W.Frag} {τ : Slots} {ow : Ow} {σ : L2.St} {H : Hp} {D : Addr} {k : Nat} {xs : List (Key × V)} {kvs : List (Key × PyData)} (S : Sim K G τ (owD ow D) σ H) (hp : G.pool = none ∨ k ≠ G.ps) (nD : G.pool ≠ some D) (e : H D = some (.dK xs)) (t : DKs K H (Fz G (owD ow D) true) xs kvs) :
    Sim K G (τ.set k (some (.dK kvs))) (owS ow D k) (σ.set k (some (.ref D))) H := by
  have oD : owD ow D D = some none := if_pos rfl
  have fzp : ∀ {b : Bool} (c : Addr), Fz G (owD ow D) b c → Fz G (owS ow D k) b c := fun c p => ⟨by
    obtain ⟨h1, h2⟩ := owD_none p.1
    rw [owS_ne h1]; exact h2, p.2⟩
  have kn : ∀ (c : Addr) (o : HO), H c = some o → ¬ Mut (H c) → H c = some o := fun _ _ e _ => e
  have up : ∀ {c : Addr} {j : Nat}, owD ow D c = some (some j) → owS ow D k c = some (some j) := fun {c j} h => by
    have : c ≠ D := fun z => by rw [z, oD] at h; cases h
    rw [owS_ne this]; rw [owD_ne this] at h; exact h
  refine ⟨by simp [S.len], fun j s ej => ?_, fun c j h => ?_, fun c o h n => ?_, fun p ep => ?_, fun p ep => ?_⟩
  · rcases set_get ej with ⟨rfl, rfl, hl⟩ | ⟨hne, e'⟩
    · exact ⟨_, by rw [List.getElem?_set_self (by rw [← S.len]; exact hl)], D, xs, rfl, if_pos rfl, e, DKs.keep t (fun _ _ _ e => e) kn fzp⟩
    · rw [List.getElem?_set_ne (fun z => hne z.symm)]
      obtain ⟨v, e1, q⟩ := S.sl j s e'
      refine ⟨v, e1, ?_⟩
      cases s with
      | fz d b => exact (show DP K H (Fz G _ b) v d from q).mono fzp
      | own ds b =>
        obtain ⟨a, zs, rfl, o, e2, t⟩ := q
        exact ⟨a, zs, rfl, up o, e2, t.mono fzp⟩
      | dK kvs =>
        obtain ⟨a, zs, rfl, o, e2, t⟩ := q
        exact ⟨a, zs, rfl, up o, e2, DKs.keep t (fun _ _ _ e => e) kn fzp⟩
      | dT kvs =>
        obtain ⟨a, zs, rfl, o, e2, t⟩ := q
        exact ⟨a, zs, rfl, up o, e2, DKs.keep t (fun _ _ _ e => e) kn fzp⟩
      | reg φ => exact RegOk.keep q fun c ob oc e => ⟨e, up oc⟩
  · by_cases z : c = D
    · subst z; rw [e]; trivial
    · have h' : owD ow D c = some j := by rw [owD_ne z]; rw [owS_ne z] at h; exact h
      exact S.own c j h'
  · obtain ⟨h1, h2⟩ := S.ent c o h n
    exact ⟨h1, by obtain ⟨y1, y2⟩ := owD_none h2; rw [owS_ne y1]; exact y2⟩
  · obtain ⟨z1, z2, z3⟩ := S.pool p ep
    have hpD : p ≠ D := fun z => nD (by rw [← z]; exact ep)
    refine ⟨z1, ?_, ?_⟩
    · rw [owS_ne hpD]; rw [owD_ne hpD] at z2; exact z2
    · obtain ⟨h1, h2⟩ := owD_none z3
      rw [owS_ne h1]; exact h2
  · have hk : k ≠ G.ps := hp.resolve_left fun z => by rw [z] at ep; cases ep
    rw [List.getElem?_set_ne hk]
    exact S.pl p ep
/-- y = {k: v for tg in iter if ..} -/
theorem ps_setDc {i : Nat} {y : Str} {py : Pos} {kx vx tg iter : Expr} {ifs : List Expr} {scope : Scope} {own : List (Str × Nat)} {p2 spos : Pos} {wi : TI} {g : TG} {tt : TT} {tk tv : TE} (hc : X.calm = true) (hN : X.N.Nodup) (hy : X.N[i]? = some y) (hyl : X.env.scope.names.lookup y = some .local)
    (hsw : swapsWith (.DictComp kx vx [⟨tg, iter, ifs, 0⟩] scope p2) (some (.Name y py)) spos.line X.env = pure true) (hi : PI X tg iter wi) (ok : BlkOk X.N X.env.scope scope own)
    (hg : ∀ p, PG (blkX X scope p) tg g) (ht : ∀ p, PTs (blkX X scope p) ifs tt) (hk : ∀ p, PE (blkX X scope p) kx tk) (he : ∀ p, PE (blkX X scope p) vx tv) (hs : ∀ x, foldedSetIterable iter X.env x = pure x := by intro _; rfl) :
    PS X (.Assign [.Name y py] (.DictComp kx vx [⟨tg, iter, ifs, 0⟩] scope p2) spos) (tAsg (tDc wi g tt tk tv (own.map (·.2))) (gName i)) := by
  refine ⟨fun pins z σ H D' I hh => ?_⟩
  rw [exec_Assign_Name_used _ _ _ _ hsw]
  refine wpAny_bind (wpAny_standAt (wpAny_bind ?_))
  show wpAny _ X.A (do let _ ← comprehension (.DictComp kx vx [⟨tg, iter, ifs, 0⟩] scope p2) scope X.env (firstIterPos [⟨tg, iter, ifs, 0⟩] p2) newDict false (eval iter X.env) (some (assign (.Name y py) X.env))) _ _ z
  have hh : tDc wi g tt tk tv (own.map (·.2)) σ H (fun x H1 => gName i x σ H1 D'.nx) := hh
  refine wpAny_bind (thn (dc_core (Qf := fun _ s' => SP X pins D' .next s') hc hN I hi ok (fun s H C cl fp => hg (s, H, C, cl, fp)) (fun s H C cl fp => ht (s, H, C, cl, fp)) (fun s H C cl fp => hk (s, H, C, cl, fp)) (fun s H C cl fp => he (s, H, C, cl, fp)) hs hh fun L C s' m H' I' q hn f => ?_) fun _ s' hq => wpAny_pure (wpAny_pure hq))
  show wpAny _ _ (assign (.Name y py) X.env (.ref L)) _ _ _
  refine wpAny_assign_Name (store_ok2 (v := V.ref L) I' hN hy (.inl hyl) rfl (fun s2 I2 ⟨a, sb, hc2⟩ => ?_) (.inr hyl))
  obtain ⟨f0, f1, f2, f3, f4, f5⟩ := f
  have hCa : C ≠ a := by
    rcases hc2 with z | z
    · rw [z]; exact f1
    · exact fun e => f4 y a z e.symm
  exact ⟨m, hn.sameBut sb hCa, fun h3 sb3 => ⟨_, H', I2.turned (t' := s2.toks) (fun b o hb e => (sb3.2 b hb).trans e) f0 f1 f3 f4 f5, q⟩⟩
def dcL (tg : TGt) (tt : TXb) (tk tv : TX) (τ : Slots) (b : Bool) (F : List (Key × PyData) → Prop) : List D → List (Key × PyData) → Prop
  | [], acc => F acc
  | d :: ds, acc => tg d b τ fun τ1 => tt τ1 (fun ok => if ok = true then tk τ1 (fun y _ => tv τ1 (fun z kz => (notOw kz ∧ (kz.b = true ∨ im z = true)) ∧ (match toKey y with
      | some k => dcL tg tt tk tv τ b F ds (putD acc k z)
      | none => False)) (fun _ => False)) (fun _ => False) else dcL tg tt tk tv τ b F ds acc) (fun _ => False)
def sDc (k : Nat) (it : TIt) (tg : TGt) (tt : TXb) (tk tv : TX) (vs : List Nat) : TSt := fun De wq τ => it τ (fun ds b _ => ds.length < sizeLine ∧ dcL tg tt tk tv (wipeT τ vs) b (fun acc => De.nx (τ.set k (some (.dK acc)))) ds []) (fun nm => wq nm τ)
theorem putD_len {κ : Type} [DecidableEq κ] (l : List (κ × D)) (k : κ) (d : D) : (putD l k d).length ≤ l.length + 1 := by
  unfold putD
  split
  · rw [List.length_map]; omega
  · simp
theorem gs_setDcP {S : Stmt} {kx vx tg iter : Expr} {ifs : List Expr} {scope : Scope} {own : List (Str × Nat)} {it : TIt} {g : TGt} {ks : List Nat} {tt : TXb} {tk tv : TX} (k : Nat) (hc : X.calm = true) (hN : X.N.Nodup) (hi : GI X G W tg iter it) (ok : BlkOk X.N X.env.scope scope own) (hp : G.pool = none ∨ G.ps ∉ own.map (·.2)) (hpk : G.pool = none ∨ k ≠ G.ps)
    (hg : ∀ p, GG (blkX X scope p) G tg ks g) (ht : ∀ p, GTs (blkX X scope p) G WNo ifs tt) (hk : ∀ p, GE (blkX X scope p) G WNo kx tk) (he : ∀ p, GE (blkX X scope p) G WNo vx tv) (hks : ∀ i ∈ ks, i ∈ own.map (·.2))
    (hps : ∀ {wi : TI}, PI X tg iter wi → PS X S (tAsg (tDc wi (ggB X scope tg) (gtB X scope ifs) (geB X scope kx) (geB X scope vx) (own.map (·.2))) (gName k))) : GS X G W S (sDc k it g tt tk tv (own.map (·.2))) := by
  obtain ⟨wi, p1, f1⟩ := hi.ex
  refine ⟨_, hps p1, fun σ H τ ow De wq Dh S h E => ?_⟩
  generalize hvs : own.map (·.2) = vs at *
  refine f1 σ H τ ow _ _ _ S h (fun J H1 ds b ownf gr iok q => ?_) (E.wk S)
  obtain ⟨hz, q⟩ := q
  intro D nD
  have S1 := S.grow gr
  have ih := S1.hideO nD (o' := .dK []) trivial
  have oD : owD ow D D = some none := if_pos rfl
  have nDp : G.pool ≠ some D := S1.npool (S1.freshO nD)
  refine ⟨fun i m H2 => ∃ (acc : List (Key × PyData)) (xs : List (Key × V)), Sim X.K G τ (owD ow D) σ H2 ∧ Grow X.K G H1 H2 ∧ H2 D = some (.dK xs) ∧ DKs X.K H2 (Fz G (owD ow D) true) xs acc ∧ i + m = ds.length ∧ acc.length ≤ i ∧ dcL g tt tk tv (wipeT τ vs) b (fun acc => De.nx (τ.set k (some (.dK acc)))) (ds.drop i) acc,
    ⟨ds.length, [], [], ih, Grow.upd nD, upd_same, .nil, by simp, Nat.le_refl _, by simpa using q⟩, ?_⟩
  rintro i m H2 ⟨acc, xs, S2, g2, eD, tD, em, ea, q2⟩
  have fr : FrS ow H1 (owD ow D) H2 := fun c o e n => ⟨g2.keep c o e (S1.npool n), by rw [owD_ne (ne_of_none e nD)]; exact n⟩
  obtain ⟨go, stop⟩ := iok τ _ σ H2 S2 (fun _ c o k e ok => g2.keep c o e (S1.nslot ok)) fr
  cases m with
  | zero =>
    have ei : i = ds.length := by omega
    subst ei
    rw [List.drop_length] at q2
    refine .inl ⟨stop, ?_⟩
    have Sc := S2.claim hpk nDp eD tD
    exact E.nx _ _ _ _ Sc (fun c o e n => ⟨(gr.trans g2).keep c o e (S.npool n), by
      have hcD : c ≠ D := fun z => by
        have := gr.none S nD
        rw [z, this] at e; cases e
      rw [owS_ne hcD]; exact n⟩) q2
  | succ m =>
    have hi : i < ds.length := by omega
    obtain ⟨go1, go2⟩ := go i ds[i] (List.getElem?_eq_getElem hi)
    refine .inr ⟨go1, fun H' => ∃ (acc : List (Key × PyData)) (xs : List (Key × V)), Sim X.K G τ (owD ow D) σ H' ∧ Grow X.K G H1 H' ∧ H' D = some (.dK xs) ∧ DKs X.K H' (Fz G (owD ow D) true) xs acc ∧ acc.length ≤ i + 1 ∧ dcL g tt tk tv (wipeT τ vs) b (fun acc => De.nx (τ.set k (some (.dK acc)))) (ds.drop (i + 1)) acc,
      fun H' ⟨acc, xs, z1, z2, z3, z4, z5, z6⟩ => ⟨m, Nat.lt_succ_self m, acc, xs, z1, z2, z3, z4, by omega, z5, z6⟩, fun x H3 y => ?_⟩
    obtain ⟨g3, r3⟩ := go2 x H3 y
    have S3 := S2.grow g3
    have g13 := g2.trans g3
    have eD3 := g3.keep D _ eD nDp
    have kk : ∀ {A B : Hp} {τ' : Slots} {σ' : L2.St}, Sim X.K G τ' (owD ow D) σ' A → Grow X.K G A B → ∀ {xs : List (Key × V)} {acc : List (Key × PyData)}, DKs X.K A (Fz G (owD ow D) true) xs acc → DKs X.K B (Fz G (owD ow D) true) xs acc := by
      intro A B τ' σ' SA gg xs acc t
      exact DKs.keep t (fun a o p e => gg.keep a o e (SA.fzp a p)) (fun a o e n => gg.keep a o e (SA.nmut n)) fun _ p => p
    have tD3 := kk S2 g3 tD
    rw [List.drop_eq_getElem_cons hi] at q2
    simp only [dcL] at q2
    intro p
    obtain ⟨g0, pg0, fg⟩ := (hg p).ex
    refine ⟨g0, pg0, fg (L2.wipe σ vs) H3 (wipeT τ vs) (owD ow D) x ds[i] b _ _ (S3.wipe hp) r3 q2 fun τ4 σ4 S4 hw q4 => ⟨(hw _ hks).trans wipe_wipe, ?_⟩⟩
    intro p
    obtain ⟨t0, pt0, ft⟩ := (ht p).ex
    refine ⟨t0, pt0, ft σ4 H3 τ4 (owD ow D) _ _ _ S4 q4 (fun b' H4 g4 q5 => ?_) fun nm H' _ z => z⟩
    have S5 := S3.grow g4
    have g14 := g13.trans g4
    have eD4 := g4.keep D _ eD3 nDp
    have tD4 := kk S3 g4 tD3
    cases b' with
    | false =>
      show ∃ acc xs, _
      exact ⟨acc, xs, S5, g14, eD4, tD4, by omega, q5⟩
    | true =>
      show geB X scope kx σ4 H4 _
      intro p
      obtain ⟨e0, pe0, fe⟩ := (hk p).ex
      refine ⟨e0, pe0, fe σ4 H4 τ4 (owD ow D) _ _ _ (S4.grow g4) q5 (fun v H5 dy ky g5 r5 q6 => ?_) fun nm H' _ z => z⟩
      have S45 := (S4.grow g4).grow g5
      have S6 := S5.grow g5
      have eD5 := g5.keep D _ eD4 nDp
      have tD5 := kk S5 g5 tD4
      intro p
      obtain ⟨e1, pe1, fe1⟩ := (he p).ex
      refine ⟨e1, pe1, fe1 σ4 H5 τ4 (owD ow D) _ _ _ S45 q6 (fun w H6 dz kz g6 r6 q7 => ?_) fun nm H' _ z => z⟩
      obtain ⟨⟨hk1, hk2⟩, q7⟩ := q7
      have S7 := S6.grow g6
      have eD6 := g6.keep D _ eD5 nDp
      have tD6 := kk S6 g6 tD5
      have rd : DP X.K H6 (Fz G (owD ow D) true) w dz := by
        have r0 : DP X.K H6 (Fz G (owD ow D) kz.b) w dz := by
          cases kz with
          | fz b => exact r6
          | nw b => exact RV.frz S6 r6
          | ow b => exact hk1.elim
        rcases hk2 with h | h
        · rw [h] at r0; exact r0
        · exact DP.ofIm r0 h
      cases ekk : toKey dy with
      | none => rw [ekk] at q7; exact q7.elim
      | some key =>
        rw [ekk] at q7
        have ev : v = kV key := toKey_dp r5.dpAny ekk
        refine ⟨xs, key, ev, eD6, by rw [tD.length]; omega, putD acc key dz, putK xs key w, S7.moreO nDp eD6 trivial trivial, ?_, upd_same, ?_, by have := putD_len acc key dz; omega, q7⟩
        · have g16 := (g14.trans g5).trans g6
          exact ⟨fun c o e n => by rw [upd_ne (ne_of_none e nD)]; exact g16.keep c o e n, fun pp e hh => by
            have hpD : pp ≠ D := fun z => by rw [e, z] at nDp; exact nDp rfl
            have z := g16.pool pp e hh
            refine z.keep (fun o q => by rw [upd_ne hpD]; exact q) (fun o q => ?_)
            have := (S7.pool pp e).2.2
            rw [upd_ne (owD_none this).1]; exact q⟩
        · exact DKs.keep (tD6.put key rd) (fun c o p e => by rw [upd_ne (owD_none p.1).1]; exact e) (fun c o e m => by rw [upd_ne fun z => m (by rw [z, eD6]; trivial)]; exact e) fun _ p => p
theorem gs_setDc {y : Str} {kx vx tg iter : Expr} {ifs : List Expr} {scope : Scope} {own : List (Str × Nat)} {it : TIt} {g : TGt} {ks : List Nat} {tt : TXb} {tk tv : TX} {p2 py : Pos} (k : Nat) (hc : X.calm = true) (hN : X.N.Nodup) (hi : GI X G W tg iter it) (ok : BlkOk X.N X.env.scope scope own) (hp : G.pool = none ∨ G.ps ∉ own.map (·.2)) (hpk : G.pool = none ∨ k ≠ G.ps)
    (hg : ∀ p, GG (blkX X scope p) G tg ks g) (ht : ∀ p, GTs (blkX X scope p) G WNo ifs tt) (hk : ∀ p, GE (blkX X scope p) G WNo kx tk) (he : ∀ p, GE (blkX X scope p) G WNo vx tv) (hks : ∀ i ∈ ks, i ∈ own.map (·.2))
    (hsw : swapsWith (.DictComp kx vx [⟨tg, iter, ifs, 0⟩] scope p2) (some (.Name y py)) pos.line X.env = pure true) (hy : X.N[k]? = some y := by rfl) (hyl : X.env.scope.names.lookup y = some .local := by rfl)
    (hs : ∀ x, foldedSetIterable iter X.env x = pure x := by intro _; rfl) : GS X G W (.Assign [.Name y py] (.DictComp kx vx [⟨tg, iter, ifs, 0⟩] scope p2) pos) (sDc k it g tt tk tv (own.map (·.2))) :=
  gs_setDcP k hc hN hi ok hp hpk hg ht hk he hks fun p1 => ps_setDc hc hN hy hyl hsw p1 ok pgB ptB peB peB hs
theorem gs_setDcC {y : Str} {kx vx tg iter : Expr} {ifs : List Expr} {scope : Scope} {own : List (Str × Nat)} {it : TIt} {g : TGt} {ks : List Nat} {tt : TXb} {tk tv : TX} {p2 py : Pos} (k : Nat) (hc : X.calm = true) (hN : X.N.Nodup) (hi : GI X G W tg iter it) (ok : BlkOk X.N X.env.scope scope own) (hp : G.pool = none ∨ G.ps ∉ own.map (·.2)) (hpk : G.pool = none ∨ k ≠ G.ps)
    (hg : ∀ p, GG (blkX X scope p) G tg ks g) (ht : ∀ p, GTs (blkX X scope p) G WNo ifs tt) (hk : ∀ p, GE (blkX X scope p) G WNo kx tk) (he : ∀ p, GE (blkX X scope p) G WNo vx tv) (hks : ∀ i ∈ ks, i ∈ own.map (·.2))
    (hsw : swapsWith (.DictComp kx vx [⟨tg, iter, ifs, 0⟩] scope p2) (some (.Name y py)) pos.line X.env = pure false := by rfl) (hy : X.N[k]? = some y := by rfl) (hx : Loc X.env.scope y := by first | exact .inl rfl | exact .inr rfl) (hf : X.fn y = true ∨ X.env.scope.names.lookup y = some .local := by first | exact .inl rfl | exact .inr rfl | assumption)
    (hs : ∀ x, foldedSetIterable iter X.env x = pure x := by intro _; rfl) : GS X G W (.Assign [.Name y py] (.DictComp kx vx [⟨tg, iter, ifs, 0⟩] scope p2) pos) (sDc k it g tt tk tv (own.map (·.2))) :=
  gs_setDcP k hc hN hi ok hp hpk hg ht hk he hks fun p1 => ps_set hN hy hx (pe_dc hc hN p1 ok (fun s H C cl fp => pgB (s, H, C, cl, fp)) (fun s H C cl fp => ptB (s, H, C, cl, fp)) (fun s H C cl fp => peB (s, H, C, cl, fp)) (fun s H C cl fp => peB (s, H, C, cl, fp)) hs) hsw hf
end
end TL

set_option maxHeartbeats 4000000
namespace TL
open PySem PySem.Spec PyProof.Rows L2
section
variable {X : Cx} {G : Gh} {W : WX}
/-- an expression that is never evaluated -/
def gDead : TX := fun _ _ _ => False
theorem ge_dead {e : Expr} : GE X G W e gDead :=
  ⟨fun _ _ _ => False, ⟨fun _ _ _ _ _ _ h => h.elim⟩, fun _ _ _ _ _ _ _ _ h _ _ => h.elim⟩
end
end TL

set_option maxHeartbeats 4000000
namespace TL
open PySem PySem.Spec PyProof.Rows L2
/-! ### facts of own classes of errors -/
def excB (K : PySem.W.Frag) (x : Str) : Bool :=
  He.eqO (PySem.W.findIn K (.ref (He.ga K x)) "__getattribute__") (some (some (.builtin "BaseException.__getattribute__"))) && (He.eqO (PySem.W.findIn K (.ref (He.ga K x)) "__getattr__") (some none) &&
  (decide (PySem.W.subIn K (.ref (He.ga K x)) (.type "BaseException") = some true) && (PySem.W.hasDictIn K (He.ga K x) && (He.eqO (PySem.W.findIn K (.ref (He.ga K x)) "__class__") (some (some (.builtin "object.__class__"))) &&
  (He.eqO (PySem.W.specialIn K (.builtin "object.__class__") "__get__") (some (some (.builtin "getset_descriptor.__get__"))) && (decide (PySem.W.takesIn K (.builtin "object.__class__") = some true) && decide (PySem.W.mroIn K (He.ga K x) (.type "object") = some true)))))))
theorem excB_ok {K : PySem.W.Frag} {x : Str} (h : excB K x = true) : L2.ExcC K (He.ga K x) := by
  unfold excB at h
  simp only [Bool.and_eq_true, decide_eq_true_eq] at h
  obtain ⟨h1, h2, h3, h4, h5, h6, h7, h8⟩ := h
  exact ⟨He.eqO_ok h1, He.eqO_ok h2, h3, h4, He.eqO_ok h5, He.eqO_ok h6, h7, h8⟩
def isB (K : PySem.W.Frag) (x y : Str) (b : Bool) : Bool := decide (PySem.W.kitOne K (.ref (He.ga K x)) (.ref (He.ga K y)) = some b)
theorem isB_ok {K : PySem.W.Frag} {x y : Str} {b : Bool} (h : isB K x y b = true) : PySem.W.kitOne K (.ref (He.ga K x)) (.ref (He.ga K y)) = some b := of_decide_eq_true h
/-- the hook with one more test of the fragment -/
def obsX (n : Nat) (fa : List He.Fa) (fn : List He.DefD) (ex : PySem.W.Frag → Bool) (g : Addr → Option Obj) : Bool × He.AlD := (ex (He.frG g (He.asD g n)), He.obsDG n fa fn g)
def hookX (n : Nat) (fa : List He.Fa) (fn : List He.DefD) (ex : PySem.W.Frag → Bool) : PySem.W.Hook where
  α := Bool × He.AlD
  obs := fun s => obsX n fa fn ex s.heap.get?
  val := fun _ => (true, He.valD fn)
  says := fun _ h => ∃ K : PySem.W.Frag, K.In h ∧ He.SaysD fa fn K ∧ ex K = true
  of := fun _ _ e => ⟨_, He.frG_in, congrArg Prod.snd e, congrArg Prod.fst e⟩
  keeps := fun _ _ _ ⟨K, hK, c⟩ k => ⟨K, PySem.W.Frag.In.keeps hK k, c⟩
theorem obsX_eq {n : Nat} {fa : List He.Fa} {fn : List He.DefD} {ex : PySem.W.Frag → Bool} {g : Addr → Option Obj} {s : Shared} (h : ∀ a, g a = s.heap.get? a) : obsX n fa fn ex g = (hookX n fa fn ex).obs s := by
  have e : g = s.heap.get? := funext h
  rw [e] <;> rfl
/-! ### except X as e -/
def excAt (a : Addr) : List Addr → Hp → V → Prop := fun _ _ v => v = .ref a
theorem Sim.setEx {K : PySem.W.Frag} {G : Gh} {τ : Slots} {ow : Ow} {σ : L2.St} {H : Hp} (S : Sim K G τ ow σ H) {k : Nat} {a : Addr} (hp : G.pool = none ∨ k ≠ G.ps) : Sim K G (τ.set k (some (.reg (excAt a)))) ow (σ.set k (some (.ref a))) H := by
  refine ⟨by simp [S.len], fun j s e => ?_, S.own, S.ent, S.pool, fun p e => ?_⟩
  · rcases set_get e with ⟨rfl, rfl, hl⟩ | ⟨hne, e'⟩
    · exact ⟨.ref a, by rw [List.getElem?_set_self (by rw [← S.len]; exact hl)], [], fun _ h => (nomatch h), rfl, fun _ _ _ z => z⟩
    · rw [List.getElem?_set_ne (fun z => hne z.symm)]
      exact S.sl j s e'
  · have hk : k ≠ G.ps := hp.resolve_left fun z => by rw [z] at e; cases e
    rw [List.getElem?_set_ne hk]
    exact S.pl p e
theorem Sim.setNo {K : PySem.W.Frag} {G : Gh} {τ : Slots} {ow : Ow} {σ : L2.St} {H : Hp} (S : Sim K G τ ow σ H) {k : Nat} (hp : G.pool = none ∨ k ≠ G.ps) : Sim K G (τ.set k none) ow (σ.set k none) H := by
  refine ⟨by simp [S.len], fun j s e => ?_, S.own, S.ent, S.pool, fun p e => ?_⟩
  · by_cases hj : k = j
    · subst hj
      by_cases hl : k < τ.length
      · rw [List.getElem?_set_self hl] at e; cases e
      · rw [List.getElem?_eq_none (by simpa using hl)] at e; cases e
    · rw [List.getElem?_set_ne hj] at e ⊢
      exact S.sl j s e
  · have hk : k ≠ G.ps := hp.resolve_left fun z => by rw [z] at e; cases e
    rw [List.getElem?_set_ne hk]
    exact S.pl p e
section
variable {X : Cx} {G : Gh} {W : WX} {pos : Pos}
def gIsE (a : Addr) (k : Nat) (b : Bool) : TX := fun τ Q _ => τ[k]? = some (some (.reg (excAt a))) ∧ Q (.bool b) (.fz true)
theorem ge_isE {a D : Addr} {oe : Obj} {pn : List (Addr × Obj)} (k : Nat) (b : Bool) {y z : Str} {p p1 p2 : Pos} (C : L2.ExcC X.K D) (hz : Zc (.ref D) none oe) (hf : ∃ vs, oe.data = .fields vs) {D2 : Addr} (hk : PySem.W.kitOne X.K (.ref D) (.ref D2) = some b)
    (hm : X.mg "isinstance" = none) (hy : X.mg y = some (.ref D2)) (hN : X.N[k]? = some z := by rfl) (hv : Vis X.env.scope z := by first | exact Or.inl rfl | exact Or.inr (Or.inl rfl) | exact Or.inr (Or.inr rfl)) (hg : Gl X "isinstance" := by rfl) (hgy : Gl X y := by rfl) (hd : (z == ("__debug__" : Str)) = false := by decide) (hcd : (z == ("__classdict__" : Str)) = false := by decide) (hdy : (y == ("__debug__" : Str)) = false := by decide)
    (he : starEach [.Name z p1, .Name y p2] X.env = (false, eval (.Name z p1) X.env) :: starEach [.Name y p2] X.env := by rfl) (he2 : starEach [.Name y p2] X.env = (false, eval (.Name y p2) X.env) :: starEach [] X.env := by rfl)
    (hpl : (backTo pos (starEach [.Name y p2] X.env)).any (·.1) = false := by rfl) : GE (X.suite a ((a, oe) :: pn)) G W (.Call (.Name "isinstance" p) [.Name z p1, .Name y p2] [] pos) (gIsE a k b) := by
  refine ⟨_, pe_callB (X := X.suite a ((a, oe) :: pn)) (call_isE C hz hf) hg hm (by decide +kernel) (pa_cons (X := X.suite a ((a, oe) :: pn)) (pe_var (X := X.suite a ((a, oe) :: pn)) hN hv hd hcd) (pa_cons (X := X.suite a ((a, oe) :: pn)) (pe_glob (X := X.suite a ((a, oe) :: pn)) (v := .ref D2) hgy hy rfl hdy) pa_nil he2) he) (by decide) (by decide) he hpl, fun σ H τ ow Q wq Kt S h kt w => ?_⟩
  obtain ⟨e, q⟩ := h
  obtain ⟨v, e1, r⟩ := S.sl k _ e
  obtain ⟨A, _, hφ, _⟩ := r
  have hφ : v = .ref a := hφ
  subst hφ
  exact ⟨.ref a, e1, .ref D2, .ref D2, b, rfl, fun u h => h, hk, kt _ _ _ _ Grow.refl (RV.sc fun _ => .bl _) q⟩
def sTryAs (k : Nat) (x : Str) (tb : TSt) (tsu : Addr → TSt) : TSt := fun De wq τ => tb De (fun nm τ' => if nm = x then ∀ a, tsu a { nx := fun τ2 => De.nx (τ2.set k none), rt := De.rt, bk := fun τ2 => De.bk (τ2.set k none), ct := fun τ2 => De.ct (τ2.set k none) } (fun _ _ => False) (τ'.set k (some (.reg (excAt a)))) else False) τ
theorem gs_tryAs {k : Nat} {x n : Str} {b₀ : Stmt} {body suite : List Stmt} {np pos' : Pos} {tb : TSt} {tsu : Addr → TSt} (hs : X.stack = X.env :: X.outer) (hf : X.env.frame = some X.env.locals) (hN : X.N.Nodup) (hp : G.pool = none ∨ k ≠ G.ps) (hc : Names X x (.ref (He.ga X.K x))) (hx : PySem.W.exmOne X.K (.ref (He.ga X.K x)) (.ref (He.ga X.K x)) = some true)
    (hb : ∀ (W' : WX) (pn : List (Addr × Obj)) (xe : Value → Shared → Prop), Takes (X.tr pn xe) W' → PassesOwn (model X.prog X.w) X.A X.env xe → GSs (X.tr pn xe) G W' body tb)
    (hsu : ∀ (a : Addr) (oe : Obj) (pn : List (Addr × Obj)), Zc (.ref (He.ga X.K x)) none oe → (∃ vs, oe.data = .fields vs) → GSs (X.suite a ((a, oe) :: pn)) G WNo (b₀ :: suite) (tsu a)) (hi : X.N[k]? = some n := by rfl) (hln : X.env.kindOf n = some .local := by rfl) :
    GS X G W (.Try body [.ExceptHandler (some (.Name x np)) (some n) (b₀ :: suite) pos'] [] [] pos) (sTryAs k x tb tsu) := by
  let hbt : WX → TS := fun W' D σ H => ∀ pn xe, Takes (X.tr pn xe) W' → PassesOwn (model X.prog X.w) X.A X.env xe → ∃ ts, PSs (X.tr pn xe) body ts ∧ ts D σ H
  let hst : Addr → Value → Option Addr → TS := fun a cls d D σ H => ∀ oe pn, Zc cls d oe → (∃ vs, oe.data = .fields vs) → ∃ ts, PSs (X.suite a ((a, oe) :: pn)) (b₀ :: suite) ts ∧ ts D σ H
  refine ⟨_, ps_try_as (tb := hbt) (ts := hst) (Wout := fun _ _ _ _ => False) hs hf hN hi hln hc takes0 (fun W' pn xe tk po => ⟨fun pins s σ H D I h => ?_⟩) (fun a oe cls d pn hz hd => ⟨fun pins s σ H D I h => ?_⟩), fun σ H τ ow De wq Dh S h E => ?_⟩
  · obtain ⟨ts, p, q⟩ := h pn xe tk po
    exact p.run pins s σ H D I q
  · obtain ⟨ts, p, q⟩ := h oe pn hz hd
    exact p.run pins s σ H D I q
  · intro pn xe tk po
    obtain ⟨ts, p, f⟩ := (hb _ pn xe tk po).ex
    refine ⟨ts, p, f σ H τ ow De _ Dh S h ⟨E.nx, E.bk, E.ct, E.rt, fun nm τ' ow' σ' H' S' g' q => ?_⟩⟩
    by_cases e : nm = x
    · subst e
      rw [if_pos rfl] at q
      refine ⟨true, hx, fun _ a _ oe pn' hz hd => ?_, fun z => by cases z⟩
      obtain ⟨ts', p', f'⟩ := (hsu a oe pn' hz hd).ex
      have E' := E.frs g'
      exact ⟨ts', p', f' (σ'.set k (some (.ref a))) H' (τ'.set k (some (.reg (excAt a)))) ow' _ (fun _ _ => False) _ (S'.setEx hp) (q a)
        ⟨fun τ2 ow2 σ2 H2 S2 g2 z => E'.nx _ _ _ _ (S2.setNo hp) g2 z, fun τ2 ow2 σ2 H2 S2 g2 z => E'.bk _ _ _ _ (S2.setNo hp) g2 z, fun τ2 ow2 σ2 H2 S2 g2 z => E'.ct _ _ _ _ (S2.setNo hp) g2 z, E'.rt, fun _ _ _ _ _ _ _ z => z⟩⟩
    · rw [if_neg e] at q; exact q.elim
/-! ### xs.insert(i, e) -/
def insSl : Option (Option Sl) → D → D → Kd → (Sl → Prop) → Prop
  | some (some (.own ds b)), .int i, d, kd, Q => ds.length < sizeLine ∧ 0 ≤ i ∧ i ≤ (ds.length : Nat) ∧ notOw kd ∧ Q (.own (ds.take i.toNat ++ [d] ++ ds.drop i.toNat) (b && kd.b))
  | _, _, _, _, _ => False
def sIns (k : Nat) (ti t : TX) : TSt := fun De wq τ => (∃ ds b, τ[k]? = some (some (.own ds b))) ∧ ti τ (fun di _ => t τ (fun d kd => insSl τ[k]? di d kd fun sl => De.nx (τ.set k (some sl))) (fun nm => wq nm τ)) (fun nm => wq nm τ)
theorem gs_insert (k : Nat) {x : Str} {ei e : Expr} {ti t : TX} {p1 p2 p3 : Pos} (hei : GE X G W ei ti) (he : GE X G W e t) (hi : X.N[k]? = some x := by rfl) (hv : Vis X.env.scope x := by first | exact Or.inl rfl | exact Or.inr (Or.inl rfl) | exact Or.inr (Or.inr rfl)) (hd : (x == ("__debug__" : Str)) = false := by decide)
    (hcd : (x == ("__classdict__" : Str)) = false := by decide) (hb : attributeBase (.Name x p1) "insert" X.env (eval (.Name x p1) X.env) = eval (.Name x p1) X.env := by rfl)
    (hf : ((backTo p3 (starEach [ei, e] X.env)).all (fun x => !x.1) && (backToKw p3 (keywordEach [] X.env)).all (fun x => x.1.isSome) && decide ([ei, e].length + ([] : List Keyword).length + (if ([] : List Keyword).isEmpty then 0 else 1) < 30)) = true := by rfl)
    (hl : (p2.endLine == p3.line) = true := by rfl) (hs : starEach [ei, e] X.env = (false, eval ei X.env) :: starEach [e] X.env := by rfl) (hs2 : starEach [e] X.env = (false, eval e X.env) :: starEach [] X.env := by rfl) (hp : (backTo p3 (starEach [e] X.env)).any (·.1) = false := by rfl)
    (hsw : swapsWith (.Call (.Attribute (.Name x p1) "insert" p2) [ei, e] [] p3) none pos.line X.env = pure false := by rfl) :
    GS X G W (.Expr (.Call (.Attribute (.Name x p1) "insert" p2) [ei, e] [] p3) pos) (sIns k ti t) := by
  obtain ⟨te0, q0, f0⟩ := hei.ex
  obtain ⟨te, q1, f1⟩ := he.ex
  refine ⟨_, ps_expr (pe_bm PySem.F.plainAttrs_list PySem.F.slot_list_insert PySem.F.type_list_insert mt_insert (pe_var hi hv hd hcd) (pa_cons q0 (pa_cons q1 pa_nil hs2) hs) hb hf hl hs hp) hsw, fun σ H τ ow De wq Dh S h E => ?_⟩
  obtain ⟨⟨ds, b, ek⟩, h⟩ := h
  obtain ⟨a, xs, e1, o, e2, t0, _⟩ := S.putL ek
  refine ⟨.ref a, e1, .inl ⟨rfl, _, .inl (.inl e2)⟩, f0 σ H τ ow _ _ _ S h (fun vi H0 di kdi g0 r0 q => ?_) (E.wk S)⟩
  have S0 := S.grow g0
  have E0 := E.frs (g0.frs S)
  refine f1 σ H0 τ ow _ _ _ S0 q (fun v H1 d kd g r q => ?_) (E0.wk S0)
  have S1 := S0.grow g
  obtain ⟨a', xs', e1', o', e2', t1, put⟩ := S1.putL ek
  rw [e1] at e1'
  cases e1'
  rw [ek] at q
  cases di with
  | int i =>
    have q : ds.length < sizeLine ∧ 0 ≤ i ∧ i ≤ (ds.length : Nat) ∧ notOw kd ∧ De.nx (τ.set k (some (.own (ds.take i.toNat ++ [d] ++ ds.drop i.toNat) (b && kd.b)))) := q
    obtain ⟨hl, h0, h1, hk, q⟩ := q
    have tt := t1.mono (P' := fun c => Fz G ow (b && kd.b) c) fun c p => p.andL
    obtain ⟨S2, f2⟩ := put (xs'.take i.toNat ++ [v] ++ xs'.drop i.toNat) (ds.take i.toNat ++ [d] ++ ds.drop i.toNat) (b && kd.b) (((tt.take _).append (.cons ((r.item S0 hk).mono fun c p => p.andR) .nil)).append (tt.drop _))
    have hz : ds.length < 16777216 := by rw [sizeLine_eq] at hl; exact hl
    exact ⟨a, xs', i, v, rfl, by rw [r0.int], e2', by rw [t1.length]; exact hl, h0, by omega, E0.nx _ ow _ _ S2 ((g.frs S0).trans f2) q⟩
  | _ => exact q.elim
end
end TL

set_option maxHeartbeats 4000000
namespace TL
open PySem PySem.Spec PyProof.Rows L2
section
variable {X : Cx} {G : Gh} {W : WX} {pos : Pos}
/-! ### xs.reverse() -/
def sRev (k : Nat) : TSt := fun De _ τ => match τ[k]? with
  | some (some (.own ds b)) => De.nx (τ.set k (some (.own ds.reverse b)))
  | _ => False
theorem DPs.rev {K : PySem.W.Frag} {H : Hp} {P : Addr → Prop} : ∀ {vs : List V} {ds : List D}, DPs K H P vs ds → DPs K H P vs.reverse ds.reverse
  | _, _, .nil => .nil
  | _, _, .cons h t => by rw [List.reverse_cons, List.reverse_cons]; exact (DPs.rev t).append (.cons h .nil)
theorem gs_reverse (k : Nat) {x : Str} {p1 p2 p3 : Pos} (hi : X.N[k]? = some x := by rfl) (hv : Vis X.env.scope x := by first | exact Or.inl rfl | exact Or.inr (Or.inl rfl) | exact Or.inr (Or.inr rfl)) (hd : (x == ("__debug__" : Str)) = false := by decide)
    (hcd : (x == ("__classdict__" : Str)) = false := by decide) (hb : attributeBase (.Name x p1) "reverse" X.env (eval (.Name x p1) X.env) = eval (.Name x p1) X.env := by rfl) (hl : (p2.endLine == p3.line) = true := by rfl)
    (hsw : swapsWith (.Call (.Attribute (.Name x p1) "reverse" p2) [] [] p3) none pos.line X.env = pure false := by rfl) :
    GS X G W (.Expr (.Call (.Attribute (.Name x p1) "reverse" p2) [] [] p3) pos) (sRev k) := by
  refine ⟨_, ps_expr (pe_bm0 PySem.F.plainAttrs_list PySem.F.slot_list_reverse PySem.F.type_list_reverse mt_reverse (pe_var hi hv hd hcd) hb hl) hsw, fun σ H τ ow De wq Dh S h E => ?_⟩
  unfold sRev at h
  split at h
  · rename_i ds b ek
    obtain ⟨a, xs, e1, o, e2, t, put⟩ := S.putL ek
    obtain ⟨S2, f2⟩ := put xs.reverse ds.reverse b (DPs.rev t)
    exact ⟨.ref a, e1, .inl ⟨rfl, _, .inl (.inl e2)⟩, a, xs, rfl, rfl, e2, E.nx _ ow _ _ S2 f2 h⟩
  · exact h.elim
/-! ### ys.pop(e), its value dropped -/
def sPopX (ky : Nat) (te : TX) : TSt := fun De wq τ => (∃ es c, τ[ky]? = some (some (.own es c))) ∧ te τ (fun d _ => popSl τ ky d fun _ _ τ' => De.nx τ') (fun nm => wq nm τ)
theorem gs_popX (ky : Nat) {y : Str} {e : Expr} {t : TX} {r1 r2 r3 : Pos} (he : GE X G W e t) (hj : X.N[ky]? = some y := by rfl) (hw : Vis X.env.scope y := by first | exact Or.inl rfl | exact Or.inr (Or.inl rfl) | exact Or.inr (Or.inr rfl))
    (hd' : (y == ("__debug__" : Str)) = false := by decide) (hcd' : (y == ("__classdict__" : Str)) = false := by decide)
    (hb' : attributeBase (.Name y r1) "pop" X.env (eval (.Name y r1) X.env) = eval (.Name y r1) X.env := by rfl)
    (hf' : ((backTo r3 (starEach [e] X.env)).all (fun x => !x.1) && (backToKw r3 (keywordEach [] X.env)).all (fun x => x.1.isSome) && decide ([e].length + ([] : List Keyword).length + (if ([] : List Keyword).isEmpty then 0 else 1) < 30)) = true := by rfl)
    (hl' : (r2.endLine == r3.line) = true := by rfl) (hs' : starEach [e] X.env = (false, eval e X.env) :: starEach [] X.env := by rfl) (hp' : (backTo r3 (starEach [] X.env)).any (·.1) = false := by rfl)
    (hsw : swapsWith (.Call (.Attribute (.Name y r1) "pop" r2) [e] [] r3) none pos.line X.env = pure false := by rfl) :
    GS X G W (.Expr (.Call (.Attribute (.Name y r1) "pop" r2) [e] [] r3) pos) (sPopX ky t) := by
  obtain ⟨te, q1, f1⟩ := he.ex
  refine ⟨_, ps_expr (pe_bm PySem.F.plainAttrs_list PySem.F.slot_list_pop PySem.F.type_list_pop mt_popAt (pe_var hj hw hd' hcd') (pa_cons q1 pa_nil hs') hb' hf' hl' hs' hp') hsw, fun σ H τ ow De wq Dh S h E => ?_⟩
  obtain ⟨⟨es, c, ey⟩, h⟩ := h
  obtain ⟨l, ys, e3, o3, e4, _, _⟩ := S.putL ey
  refine ⟨.ref l, e3, .inl ⟨rfl, _, .inl (.inl e4)⟩, f1 σ H τ ow _ _ _ S h (fun v H1 d kd g r q => ?_) (E.wk S)⟩
  refine pop_sem (S.grow g) ey e3 r.dpAny q fun z y τ' H2 S2 f2 ry _ eτ q => ?_
  exact E.nx _ ow _ _ S2 ((g.frs S).trans f2) q
/-! ### range(i, j, -1) -/
def rgC (i c : Int) (n : Nat) : List D := (List.range n).map fun (k : Nat) => .int (i + (k : Nat) * c)
theorem itok_rangeC {K : PySem.W.Frag} {ow : Ow} {H : Hp} {i c : Int} {n : Nat} : ItOk K G ow H false (Itc i c n) (rgC i c n) true := by
  intro τ2 ow2 σ2 H2 S2 ho2 f
  refine ⟨fun k d hd => ?_, by show n ≤ (rgC i c n).length; simp [rgC]⟩
  have hi : k < n := by
    rcases Nat.lt_or_ge k n with h | h
    · exact h
    · rw [List.getElem?_eq_none (by simpa [rgC] using h)] at hd; cases hd
  refine ⟨hi, fun x H3 y => ?_⟩
  obtain ⟨rfl, rfl⟩ := y
  have : (rgC i c n)[k]? = some (.int (i + (k : Nat) * c)) := by simp [rgC, hi]
  rw [this] at hd
  cases hd
  exact ⟨Grow.refl, .int _⟩
def fRg3 : List (D × Kd) → (List D → Bool → Bool → Prop) → Prop
  | [(.int i, _), (.int j, _), (.int c, _)], Q => c = -1 ∧ (-(2 ^ 62) ≤ i ∧ i < 2 ^ 62 ∧ -(2 ^ 62) ≤ j ∧ j < 2 ^ 62) ∧ Q (rgC i (-1) (i - j).toNat) true false
  | _, _ => False
def iRg3 (t : TXs) : TIt := fun τ Q wq => t τ (fun ds => fRg3 ds Q) wq
theorem gi_range3 {tg a b c : Expr} {p : Pos} {t : TXs} (hm : X.mg "range" = none) (ha : GA X G W [a, b, c] t) (hg : Gl X "range" := by rfl) (hs : starEach [a, b, c] X.env = (false, eval a X.env) :: starEach [b, c] X.env := by rfl) (hpl : (backTo pos (starEach [b, c] X.env)).any (·.1) = false := by rfl) : GI X G W tg (.Call (.Name "range" p) [a, b, c] [] pos) (iRg3 t) := by
  obtain ⟨te, p1, f1⟩ := ha.ex
  refine ⟨_, pi_range3 hg hm p1 hs hpl, fun σ H τ ow Q wq R S h k w => f1 σ H τ ow _ wq _ S h (fun vs H1 ds g r l q => ?_) w⟩
  unfold fRg3 at q
  split at q
  · obtain ⟨rfl, ⟨h1, h2, h3, h4⟩, q⟩ := q
    cases r with
    | cons r1 t => cases t with
      | cons r2 t => cases t with
        | cons r3 t => cases t with
          | nil => exact ⟨_, _, _, _, by rw [r1.int, r2.int, r3.int], RgC.neg h1 h2 h3 h4, k _ _ _ _ _ g itok_rangeC q⟩
  · exact q.elim
end
end TL

set_option maxHeartbeats 1000000
namespace LW
open PySem PySem.Spec PyProof.Rows L2 TL
/-! ### graphs, trees, what the defs promise -/
def gD (n : Int) (es : List (Int × Int)) : D := .tuple [.int n, .tuple (es.map pD)]
def nrm (e : Int × Int) : Int × Int := (min e.1 e.2, max e.1 e.2)
/-- the edges of a graph with n vertices -/
def Gr (n : Int) (L : List (Int × Int)) : Prop := Srt L ∧ ∀ p ∈ L, 0 ≤ p.1 ∧ p.1 < p.2 ∧ p.2 < n
def fullE (n : Int) : List (Int × Int) := (rg 0 n).flatMap fun u => (rg (u + 1) n).map fun v => (u, v)
def iDs (l : List Int) : List D := l.map PyData.int
inductive Tr where
  | leaf (i : Int)
  | node (w : Str) (ts : List Tr)
mutual
def Tr.d : Tr → D
  | .leaf i => .int i
  | .node w ts => .tuple (.str w :: Tr.ds ts)
def Tr.ds : List Tr → List D
  | [] => []
  | t :: ts => t.d :: Tr.ds ts
end
mutual
def Tr.dep : Tr → Nat
  | .leaf _ => 0
  | .node _ ts => Tr.deps ts + 1
def Tr.deps : List Tr → Nat
  | [] => 0
  | t :: ts => max t.dep (Tr.deps ts)
end
mutual
def Tr.lv : Tr → List Int
  | .leaf i => [i]
  | .node _ ts => Tr.lvs ts
def Tr.lvs : List Tr → List Int
  | [] => []
  | t :: ts => t.lv ++ Tr.lvs ts
end
mutual
/-- the pairs that a tree joins, in the order of the walk -/
def Tr.tp : Tr → List (Int × Int)
  | .leaf _ => []
  | .node w ts => Tr.tps w [] ts
def Tr.tps (w : Str) (before : List Int) : List Tr → List (Int × Int)
  | [] => []
  | t :: ts => t.tp ++ (if w = "join" then before.flatMap fun u => t.lv.map fun v => nrm (u, v) else []) ++ Tr.tps w (before ++ t.lv) ts
end
mutual
/-- words and enough parts -/
def Tr.wf : Tr → Prop
  | .leaf _ => True
  | .node w ts => (w = "union" ∨ w = "join") ∧ 2 ≤ ts.length ∧ Tr.wfs ts
def Tr.wfs : List Tr → Prop
  | [] => True
  | t :: ts => t.wf ∧ Tr.wfs ts
end
theorem wfs_iff : ∀ {ts : List Tr}, Tr.wfs ts ↔ ∀ t ∈ ts, t.wf
  | [] => by simp [Tr.wfs]
  | t :: ts => by simp [Tr.wfs, wfs_iff (ts := ts)]
/-- the neighbours of v, ascending -/
def nbs (n : Int) (L : List (Int × Int)) (v : Int) : List Int := (rg 0 n).filter fun w => decide (w ≠ v ∧ nrm (w, v) ∈ L)
abbrev S__law_spread : FSp := SSpread
abbrev S__law_draw : FSp := SDraw
def atomD : D → Bool
  | .none => true
  | .bool _ => true
  | .int _ => true
  | .str _ => true
  | _ => false
def sameOk : Nat → D → Bool
  | 0, d => atomD d
  | n + 1, .list ds => decide (ds.length < 2 ^ 62) && ds.all (sameOk n)
  | n + 1, .tuple ds => decide (ds.length < 2 ^ 62) && ds.all (sameOk n)
  | _ + 1, d => atomD d
/-- _law_same of equal data -/
def S__law_same : Nat → FSp
  | 0 => fun _ _ _ => False
  | n + 1 => fun ds Q _ => ∃ d : D, ds = [d, d] ∧ sameOk n d = true ∧ Q (.bool true)
/-- the items once each, ascending -/
def S__law_distinct : FSp := fun ds Q _ => ∃ (α : Type) (inj : α → D) (lt : α → α → Prop) (_ : Emb inj lt) (es : List α), ds = [.list (es.map inj)] ∧ SortOk (es.map inj) ∧ es.length ≤ 100000 ∧ ∀ L : List α, L.Pairwise lt → (∀ p, p ∈ L ↔ p ∈ es) → Q (.list (L.map inj))
def S__law_pairs : FSp := fun ds Q _ => ∃ n : Int, ds = [.int n] ∧ 0 ≤ n ∧ n ≤ 1000 ∧ Q (.list ((fullE n).map pD))
def S__law_of : FSp := fun ds Q _ => ∃ (n : Int) (es : List (Int × Int)), ds = [.int n, .list (es.map pD)] ∧ es.length ≤ 100000 ∧ ∀ L, Srt L → (∀ p, p ∈ L ↔ ∃ e ∈ es, nrm e = p) → Q (gD n L)
def S__law_met : FSp := fun ds Q _ => ∃ (n : Int) (L : List (Int × Int)) (u v : Int), ds = [gD n L, .int u, .int v] ∧ L.length ≤ 100000 ∧ Q (.bool (decide (nrm (u, v) ∈ L)))
def S__law_near : FSp := fun ds Q _ => ∃ (n : Int) (L : List (Int × Int)) (v : Int), ds = [gD n L, .int v] ∧ L.length ≤ 100000 ∧ 0 ≤ n ∧ n ≤ 1000 ∧ Q (.list (iDs (nbs n L v)))
def S__law_shuffled : FSp := fun ds Q _ => ∃ is : List Int, ds = [.list (iDs is)] ∧ is.length ≤ 100000 ∧ ∀ js : List Int, js.Perm is → Q (.list (iDs js))
def S__law_moved : FSp := fun ds Q _ => ∃ (n : Int) (L : List (Int × Int)) (os : List Int), (ds = [gD n L, .list (iDs os)] ∨ ds = [gD n L, tI os]) ∧ L.length ≤ 100000 ∧ (∀ p ∈ L, 0 ≤ p.1 ∧ p.1 < (os.length : Nat) ∧ 0 ≤ p.2 ∧ p.2 < (os.length : Nat)) ∧
  ∀ L', Srt L' → (∀ q, q ∈ L' ↔ ∃ p ∈ L, nrm (os.getD p.1.toNat 0, os.getD p.2.toNat 0) = q) → Q (gD n L')
def S__law_other : FSp := fun ds Q _ => ∃ (n : Int) (L : List (Int × Int)), ds = [gD n L] ∧ L.length ≤ 100000 ∧ 0 ≤ n ∧ n ≤ 100 ∧ Q (gD n ((fullE n).filter fun p => decide (p ∉ L)))
/-- any graph with n vertices comes -/
def AnyG (n : Int) (Q : D → Prop) : Prop := ∀ L, Gr n L → Q (gD n L)
def S__law_random_graph : FSp := fun ds Q _ => ∃ m : Int, ds = [.int m] ∧ 1 ≤ m ∧ m ≤ 60 ∧ ∀ n, 1 ≤ n → n ≤ m → AnyG n Q
def S__law_interval_rows : FSp := fun ds Q _ => ∃ n : Int, ds = [.int n] ∧ 0 ≤ n ∧ n ≤ 60 ∧ ∀ rs : List (Int × Int), (rs.length : Int) = n → Q (.list (rs.map pD))
def S__law_interval_graph : FSp := fun ds Q _ => ∃ rs : List (Int × Int), ds = [.list (rs.map pD)] ∧ rs.length ≤ 60 ∧ AnyG (rs.length : Nat) Q
def S__law_turned_graph : FSp := fun ds Q _ => ∃ as bs : List Int, ds = [.list (iDs as), .list (iDs bs)] ∧ as.length ≤ 60 ∧ bs.length ≤ 60 ∧ (∀ u : Int, 0 ≤ u → u < (as.length : Nat) → u ∈ as ∧ u ∈ bs) ∧ AnyG (as.length : Nat) Q
def S__law_ordered_graph : FSp := fun ds Q _ => ∃ n : Int, ds = [.int n] ∧ 0 ≤ n ∧ n ≤ 60 ∧ AnyG n Q
def S__law_clique_graph : FSp := fun ds Q _ => ∃ n : Int, ds = [.int n] ∧ 0 ≤ n ∧ n ≤ 60 ∧ AnyG n Q
def S__law_drawn_tree : FSp := fun ds Q _ => ∃ is : List Int, ds = [.list (iDs is)] ∧ 1 ≤ is.length ∧ is.length ≤ 60 ∧ ∀ t : Tr, t.wf → t.lv.Perm is → t.dep < is.length → Q t.d
def S__law_leaves : Nat → FSp
  | 0 => fun _ _ _ => False
  | n + 1 => fun ds Q _ => ∃ t : Tr, ds = [t.d] ∧ t.dep ≤ n ∧ t.lv.length ≤ 100 ∧ Q (.list (iDs t.lv))
def S__law_tree_pairs : Nat → FSp
  | 0 => fun _ _ _ => False
  | n + 1 => fun ds Q _ => ∃ t : Tr, ds = [t.d] ∧ t.dep ≤ n ∧ n < 12 ∧ t.lv.length ≤ 100 ∧ Q (.list (t.tp.map pD))
def S__law_ringed : FSp := fun ds Q _ => ∃ n : Int, ds = [.int n] ∧ 1 ≤ n ∧ n ≤ 60 ∧ AnyG n Q
def S__law_graph : FSp := fun ds Q _ => ∃ m : Int, ds = [.int m] ∧ 1 ≤ m ∧ m ≤ 12 ∧ ∀ n, 1 ≤ n → n ≤ m → AnyG n Q

/- _law_spread: 0 _law_cell, 1 _law_mixed, 2 _law_total, 3 _law_k -/
def g__law_spread_1 : TGt := tN 3
def w__law_spread_1 : TSt := sSeq (sSet 1 (gBin fMod (gCall fInt (gCons (gBin fAdd (gBin fAdd (gBin fMul (gV 1) (gC (.int 48271))) (gC (.int 12345))) (gV 3)) (gNil))) (gC (.int 2147483647)))) (sSet 2 (gBin fAdd (gBin fMul (gV 2) (gC (.int 2147483647))) (gV 1)))
def t__law_spread : TSt := sSeq (sSet 1 (gBin fMod (gCall fInt (gCons (gV 0) (gNil))) (gC (.int 2147483647)))) (sSeq (sSet 2 (gC (.int 1))) (sSeq (sFor (iRg (gCons (gC (.int 4)) (gNil))) g__law_spread_1 w__law_spread_1) (sRet (gV 2))))
/- _law_same: 0 _law_actual, 1 _law_due, 2 _law_k -/
def g__law_same_1 (n : Nat) : TGt := tN 2
def w__law_same_1 (n : Nat) : TSt := sIf (gNot (gTru (gFn (S__law_same n) (gCons (gBin fIx (gV 0) (gV 2)) (gCons (gBin fIx (gV 1) (gV 2)) (gNil)))))) (sRet (gC (.bool false))) (sNext)
def t__law_same (n : Nat) : TSt := sSeq (sIf (gOrB (gTru (gIsi "tuple" (gV 1))) (gTru (gIsi "list" (gV 1)))) (sSeq (sIf (gOrB (gT (gBin fNe (gIsi "tuple" (gV 1)) (gIsi "tuple" (gV 0)))) (gT (gBin fNe (gIsi "list" (gV 1)) (gIsi "list" (gV 0))))) (sRet (gC (.bool false))) (sNext)) (sSeq (sIf (gT (gBin fNe (gCall fLen (gCons (gV 0) (gNil))) (gCall fLen (gCons (gV 1) (gNil))))) (sRet (gC (.bool false))) (sNext)) (sSeq (sFor (iRg (gCons (gCall fLen (gCons (gV 1) (gNil))) (gNil))) (g__law_same_1 n) (w__law_same_1 n)) (sRet (gC (.bool true)))))) (sNext)) (sSeq (sIf (gT (gBin (fIsN false) (gV 1) (gC .none))) (sRet (gBin (fIsN false) (gV 0) (gC .none))) (sNext)) (sSeq (sIf (gTru (gIsi "bool" (gV 1))) (sRet (gAndV (gIsi "bool" (gV 0)) (gBin fEq (gV 0) (gV 1)))) (sNext)) (sSeq (sIf (gTru (gIsi "int" (gV 1))) (sRet (gAndV (gIsi "int" (gV 0)) (gAndV (gNotV (gIsi "bool" (gV 0))) (gBin fEq (gV 0) (gV 1))))) (sNext)) (sRet (gAndV (gIsi "str" (gV 0)) (gBin fEq (gV 0) (gV 1)))))))
/- _law_distinct: 0 _law_rows, 1 _law_found, 2 _law_row -/
def g__law_distinct_1 : TGt := tN 2
def w__law_distinct_1 : TSt := sIf (gOrB (gT (gBin fEq (gV 1) (gLst (gNil)))) (gT (gBin fNe (gBin fIx (gV 1) (gUn fNeg (gC (.int 1)))) (gV 2)))) (sApp 1 (gV 2)) (sNext)
def t__law_distinct : TSt := sSeq (sSet 1 (gLst (gNil))) (sSeq (sFor (iSeq (gCall fSrt (gCons (gV 0) (gNil)))) g__law_distinct_1 w__law_distinct_1) (sRet (gV 1)))
/- _law_pairs: 0 _law_n, 1 _law_found, 2 _law_u, 3 _law_v -/
def g__law_pairs_1 : TGt := tN 3
def w__law_pairs_1 : TSt := sApp 1 (gTup (gCons (gV 2) (gCons (gV 3) (gNil))))
def g__law_pairs_2 : TGt := tN 2
def w__law_pairs_2 : TSt := sFor (iRg (gCons (gBin fAdd (gV 2) (gC (.int 1))) (gCons (gV 0) (gNil)))) g__law_pairs_1 w__law_pairs_1
def t__law_pairs : TSt := sSeq (sSet 1 (gLst (gNil))) (sSeq (sFor (iRg (gCons (gV 0) (gNil))) g__law_pairs_2 w__law_pairs_2) (sRet (gV 1)))
/- _law_of: 0 _law_n, 1 _law_pairs_here, 2 _law_pair -/
def g__law_of_1 : TGt := tN 2
def e__law_of_1 : TX := gTup (gCons (gCall (fMM min) (gCons (gV 2) (gNil))) (gCons (gCall (fMM max) (gCons (gV 2) (gNil))) (gNil)))
def t__law_of : TSt := sRet (gTup (gCons (gV 0) (gCons (gCall fTuple (gCons (gFn S__law_distinct (gCons (gLc (iSeq (gV 1)) g__law_of_1 gYes e__law_of_1 [2]) (gNil))) (gNil))) (gNil))))
/- _law_met: 0 _law_graph_here, 1 _law_u, 2 _law_v -/
def t__law_met : TSt := sRet (gBin (fIn false) (gTup (gCons (gCall fMin2 (gCons (gV 1) (gCons (gV 2) (gNil)))) (gCons (gCall fMax2 (gCons (gV 1) (gCons (gV 2) (gNil)))) (gNil)))) (gBin fIx (gV 0) (gC (.int 1))))
/- _law_near: 0 _law_graph_here, 1 _law_v, 2 _law_u -/
def g__law_near_1 : TGt := tN 2
def e__law_near_1 : TX := gV 2
def c__law_near_1 : TXb := gAndB (gT (gBin fNe (gV 2) (gV 1))) (gTru (gFn S__law_met (gCons (gV 0) (gCons (gV 2) (gCons (gV 1) (gNil))))))
def t__law_near : TSt := sRet (gLc (iRg (gCons (gBin fIx (gV 0) (gC (.int 0))) (gNil))) g__law_near_1 c__law_near_1 e__law_near_1 [2])
/- _law_shuffled: 0 _law_pool_here, 1 _law_items, 2 _law_rest, 3 _law_found, 4 _law_k -/
def g__law_shuffled_1 : TGt := tN 4
def w__law_shuffled_1 : TSt := sAppPop 3 2 (gFn S__law_draw (gCons (gCall fLen (gCons (gV 2) (gNil))) (gNil)))
def t__law_shuffled : TSt := sSeq (sSet 2 (gCall fList (gCons (gV 1) (gNil)))) (sSeq (sSet 3 (gLst (gNil))) (sSeq (sFor (iRg (gCons (gCall fLen (gCons (gV 2) (gNil))) (gNil))) g__law_shuffled_1 w__law_shuffled_1) (sRet (gV 3))))
/- _law_moved: 0 _law_graph_here, 1 _law_order, 2 _law_pair -/
def g__law_moved_1 : TGt := tN 2
def e__law_moved_1 : TX := gTup (gCons (gBin fIx (gV 1) (gBin fIx (gV 2) (gC (.int 0)))) (gCons (gBin fIx (gV 1) (gBin fIx (gV 2) (gC (.int 1)))) (gNil)))
def t__law_moved : TSt := sRet (gFn S__law_of (gCons (gBin fIx (gV 0) (gC (.int 0))) (gCons (gLc (iSeq (gBin fIx (gV 0) (gC (.int 1)))) g__law_moved_1 gYes e__law_moved_1 [2]) (gNil))))
/- _law_other: 0 _law_graph_here, 1 _law_pair -/
def g__law_other_1 : TGt := tN 1
def e__law_other_1 : TX := gV 1
def c__law_other_1 : TXb := gT (gBin (fIn true) (gV 1) (gBin fIx (gV 0) (gC (.int 1))))
def t__law_other : TSt := sRet (gTup (gCons (gBin fIx (gV 0) (gC (.int 0))) (gCons (gCall fTuple (gCons (gLc (iSeq (gFn S__law_pairs (gCons (gBin fIx (gV 0) (gC (.int 0))) (gNil)))) g__law_other_1 c__law_other_1 e__law_other_1 [1]) (gNil))) (gNil))))
/- _law_random_graph: 0 _law_pool_here, 1 _law_most, 2 _law_n, 3 _law_dense, 4 _law_pair -/
def g__law_random_graph_1 : TGt := tN 4
def e__law_random_graph_1 : TX := gV 4
def c__law_random_graph_1 : TXb := gT (gBin fLt (gFn S__law_draw (gCons (gC (.int 6)) (gNil))) (gV 3))
def t__law_random_graph : TSt := sSeq (sSet 2 (gBin fIx (gLst (gCons (gV 1) (gCons (gBin fAdd (gC (.int 1)) (gFn S__law_draw (gCons (gV 1) (gNil)))) (gNil)))) (gCall fInt (gCons (gBin fEq (gFn S__law_draw (gCons (gC (.int 3)) (gNil))) (gC (.int 0))) (gNil))))) (sSeq (sSet 3 (gBin fAdd (gC (.int 1)) (gFn S__law_draw (gCons (gC (.int 5)) (gNil))))) (sRet (gTup (gCons (gV 2) (gCons (gCall fTuple (gCons (gLc (iSeq (gFn S__law_pairs (gCons (gV 2) (gNil)))) g__law_random_graph_1 c__law_random_graph_1 e__law_random_graph_1 [4]) (gNil))) (gNil))))))
/- _law_interval_rows: 0 _law_pool_here, 1 _law_n, 2 _law_rows, 3 _law_k, 4 _law_start -/
def g__law_interval_rows_1 : TGt := tN 3
def w__law_interval_rows_1 : TSt := sSeq (sSet 4 (gBin fSub (gFn S__law_draw (gCons (gC (.int 9)) (gNil))) (gC (.int 4)))) (sApp 2 (gTup (gCons (gV 4) (gCons (gBin fAdd (gV 4) (gFn S__law_draw (gCons (gBin fIx (gLst (gCons (gC (.int 1)) (gCons (gC (.int 3)) (gCons (gC (.int 6)) (gNil))))) (gFn S__law_draw (gCons (gC (.int 3)) (gNil)))) (gNil)))) (gNil)))))
def t__law_interval_rows : TSt := sSeq (sSet 2 (gLst (gNil))) (sSeq (sFor (iRg (gCons (gV 1) (gNil))) g__law_interval_rows_1 w__law_interval_rows_1) (sRet (gV 2)))
/- _law_interval_graph: 0 _law_rows, 1 _law_pair -/
def g__law_interval_graph_1 : TGt := tN 1
def e__law_interval_graph_1 : TX := gV 1
def c__law_interval_graph_1 : TXb := gAndB (gT (gBin fLe (gBin fIx (gBin fIx (gV 0) (gBin fIx (gV 1) (gC (.int 0)))) (gC (.int 0))) (gBin fIx (gBin fIx (gV 0) (gBin fIx (gV 1) (gC (.int 1)))) (gC (.int 1))))) (gT (gBin fLe (gBin fIx (gBin fIx (gV 0) (gBin fIx (gV 1) (gC (.int 1)))) (gC (.int 0))) (gBin fIx (gBin fIx (gV 0) (gBin fIx (gV 1) (gC (.int 0)))) (gC (.int 1)))))
def t__law_interval_graph : TSt := sRet (gTup (gCons (gCall fLen (gCons (gV 0) (gNil))) (gCons (gCall fTuple (gCons (gLc (iSeq (gFn S__law_pairs (gCons (gCall fLen (gCons (gV 0) (gNil))) (gNil)))) g__law_interval_graph_1 c__law_interval_graph_1 e__law_interval_graph_1 [1]) (gNil))) (gNil))))
/- _law_turned_graph: 0 _law_one, 1 _law_two, 2 _law_first, 3 _law_second, 4 _law_found, 5 _law_u, 6 _law_v -/
def g__law_turned_graph_1 : TGt := tTupG 2 (tsCons (tN 5) (tsCons (tN 6) (tsNil)))
def w__law_turned_graph_1 : TSt := sIf (gT (gBin fNe (gBin fLt (gIndex (gV 2) (gV 5)) (gIndex (gV 2) (gV 6))) (gBin fLt (gIndex (gV 3) (gV 5)) (gIndex (gV 3) (gV 6))))) (sApp 4 (gTup (gCons (gV 5) (gCons (gV 6) (gNil))))) (sNext)
def t__law_turned_graph : TSt := sSeq (sSet 2 (gCall fList (gCons (gV 0) (gNil)))) (sSeq (sSet 3 (gCall fList (gCons (gV 1) (gNil)))) (sSeq (sSet 4 (gLst (gNil))) (sSeq (sFor (iSeq (gFn S__law_pairs (gCons (gCall fLen (gCons (gV 2) (gNil))) (gNil)))) g__law_turned_graph_1 w__law_turned_graph_1) (sRet (gTup (gCons (gCall fLen (gCons (gV 2) (gNil))) (gCons (gCall fTuple (gCons (gV 4) (gNil))) (gNil))))))))
/- _law_ordered_graph: 0 _law_pool_here, 1 _law_n, 2 _law_above, 3 _law_v, 4 _law_u, 5 _law_w, 6 _law_pair -/
def g__law_ordered_graph_1 : TGt := tN 3
def e__law_ordered_graph_1 : TX := gAndV (gBin fLt (gV 4) (gV 3)) (gBin fEq (gFn S__law_draw (gCons (gC (.int 3)) (gNil))) (gC (.int 0)))
def g__law_ordered_graph_2 : TGt := tN 4
def e__law_ordered_graph_2 : TX := gLc (iRg (gCons (gV 1) (gNil))) g__law_ordered_graph_1 gYes e__law_ordered_graph_1 [3]
def g__law_ordered_graph_3 : TGt := tN 3
def w__law_ordered_graph_3 : TSt := sSetMB 2 (gOrV (gMB 2 (gV 4) (gV 3)) (gAndV (gMB 2 (gV 4) (gV 5)) (gMB 2 (gV 5) (gV 3)))) (gV 4) (gV 3)
def g__law_ordered_graph_4 : TGt := tN 4
def w__law_ordered_graph_4 : TSt := sFor (iRg (gCons (gV 1) (gNil))) g__law_ordered_graph_3 w__law_ordered_graph_3
def g__law_ordered_graph_5 : TGt := tN 5
def w__law_ordered_graph_5 : TSt := sFor (iRg (gCons (gV 1) (gNil))) g__law_ordered_graph_4 w__law_ordered_graph_4
def g__law_ordered_graph_6 : TGt := tN 6
def e__law_ordered_graph_6 : TX := gV 6
def c__law_ordered_graph_6 : TXb := gTru (gMB 2 (gBin fIx (gV 6) (gC (.int 0))) (gBin fIx (gV 6) (gC (.int 1))))
def t__law_ordered_graph : TSt := sSeq (sMB 2 (iRg (gCons (gV 1) (gNil))) g__law_ordered_graph_2 e__law_ordered_graph_2 [4]) (sSeq (sFor (iRg (gCons (gV 1) (gNil))) g__law_ordered_graph_5 w__law_ordered_graph_5) (sRet (gTup (gCons (gV 1) (gCons (gCall fTuple (gCons (gLc (iSeq (gFn S__law_pairs (gCons (gV 1) (gNil)))) g__law_ordered_graph_6 c__law_ordered_graph_6 e__law_ordered_graph_6 [6]) (gNil))) (gNil))))))
/- _law_clique_graph: 0 _law_pool_here, 1 _law_n, 2 _law_cliques, 3 _law_pairs_here, 4 _law_v, 5 _law_base, 6 _law_kept, 7 _law_u -/
def g__law_clique_graph_1 : TGt := tN 7
def e__law_clique_graph_1 : TX := gV 7
def c__law_clique_graph_1 : TXb := gT (gBin fGt (gFn S__law_draw (gCons (gC (.int 4)) (gNil))) (gC (.int 0)))
def g__law_clique_graph_2 : TGt := tN 7
def e__law_clique_graph_2 : TX := gTup (gCons (gV 7) (gCons (gV 4) (gNil)))
def g__law_clique_graph_3 : TGt := tN 4
def w__law_clique_graph_3 : TSt := sSeq (sSet 5 (gBin fIx (gV 2) (gFn S__law_draw (gCons (gCall fLen (gCons (gV 2) (gNil))) (gNil))))) (sSeq (sSet 6 (gLc (iSeq (gV 5)) g__law_clique_graph_1 c__law_clique_graph_1 e__law_clique_graph_1 [7])) (sSeq (sSet 3 (gBin fAdd (gV 3) (gLc (iSeq (gV 6)) g__law_clique_graph_2 gYes e__law_clique_graph_2 [7]))) (sApp 2 (gBin fAdd (gV 6) (gLst (gCons (gV 4) (gNil)))))))
def t__law_clique_graph : TSt := sSeq (sSet 2 (gLst (gCons (gLst (gNil)) (gNil)))) (sSeq (sSet 3 (gLst (gNil))) (sSeq (sFor (iRg (gCons (gV 1) (gNil))) g__law_clique_graph_3 w__law_clique_graph_3) (sRet (gTup (gCons (gV 1) (gCons (gCall fTuple (gCons (gCall fSrt (gCons (gV 3) (gNil))) (gNil))) (gNil)))))))
/- _law_drawn_tree: 0 _law_pool_here, 1 _law_leaves_here, 2 _law_trees, 3 _law_k, 4 _law_many, 5 _law_parts, 6 _law_j -/
def g__law_drawn_tree_1 : TGt := tN 6
def e__law_drawn_tree_1 : TX := gFn S__law_draw (gCons (gCall fLen (gCons (gV 2) (gNil))) (gNil))
def g__law_drawn_tree_2 : TGt := tN 3
def w__law_drawn_tree_2 : TSt := sIf (gT (gBin fGt (gCall fLen (gCons (gV 2) (gNil))) (gC (.int 1)))) (sSeq (sSet 4 (gCall fMin2 (gCons (gCall fLen (gCons (gV 2) (gNil))) (gCons (gBin fAdd (gC (.int 2)) (gFn S__law_draw (gCons (gC (.int 2)) (gNil)))) (gNil))))) (sSeq (sLcPop 5 2 (iRg (gCons (gV 4) (gNil))) g__law_drawn_tree_1 e__law_drawn_tree_1 [6]) (sApp 2 (gBin fAdd (gTup (gCons (gBin fIx (gLst (gCons (gC (.str "union")) (gCons (gC (.str "join")) (gNil)))) (gFn S__law_draw (gCons (gC (.int 2)) (gNil)))) (gNil))) (gCall fTuple (gCons (gV 5) (gNil))))))) (sNext)
def t__law_drawn_tree : TSt := sSeq (sSet 2 (gCall fList (gCons (gV 1) (gNil)))) (sSeq (sFor (iRg (gCons (gBin fSub (gCall fLen (gCons (gV 2) (gNil))) (gC (.int 1))) (gNil))) g__law_drawn_tree_2 w__law_drawn_tree_2) (sRet (gBin fIx (gV 2) (gC (.int 0)))))
/- _law_leaves: 0 _law_tree, 1 _law_found, 2 _law_part -/
def g__law_leaves_1 (n : Nat) : TGt := tN 2
def w__law_leaves_1 (n : Nat) : TSt := sSet 1 (gBin fAdd (gV 1) (gFn (S__law_leaves n) (gCons (gV 2) (gNil))))
def t__law_leaves (n : Nat) : TSt := sSeq (sIf (gNot (gTru (gIsi "tuple" (gV 0)))) (sRet (gLst (gCons (gV 0) (gNil)))) (sNext)) (sSeq (sSet 1 (gLst (gNil))) (sSeq (sFor (iSeq (gSl (gV 0) (gP (gC (.int 1))) gNoP)) (g__law_leaves_1 n) (w__law_leaves_1 n)) (sRet (gV 1))))
/- _law_tree_pairs: 0 _law_tree, 1 _law_found, 2 _law_before, 3 _law_part, 4 _law_leaves_here, 5 _law_u, 6 _law_v -/
def g__law_tree_pairs_1 (n : Nat) : TGt := tN 6
def e__law_tree_pairs_1 (n : Nat) : TX := gTup (gCons (gCall fMin2 (gCons (gV 5) (gCons (gV 6) (gNil)))) (gCons (gCall fMax2 (gCons (gV 5) (gCons (gV 6) (gNil)))) (gNil)))
def g__law_tree_pairs_2 (n : Nat) : TGt := tN 5
def w__law_tree_pairs_2 (n : Nat) : TSt := sSet 1 (gBin fAdd (gV 1) (gLc (iSeq (gV 4)) (g__law_tree_pairs_1 n) gYes (e__law_tree_pairs_1 n) [6]))
def g__law_tree_pairs_3 (n : Nat) : TGt := tN 3
def w__law_tree_pairs_3 (n : Nat) : TSt := sSeq (sSet 1 (gBin fAdd (gV 1) (gFn (S__law_tree_pairs n) (gCons (gV 3) (gNil))))) (sSeq (sSet 4 (gFn (S__law_leaves 12) (gCons (gV 3) (gNil)))) (sSeq (sIf (gT (gBin fEq (gBin fIx (gV 0) (gC (.int 0))) (gC (.str "join")))) (sFrz 2 (sFor (iSeq (gV 2)) (g__law_tree_pairs_2 n) (w__law_tree_pairs_2 n))) (sNext)) (sSet 2 (gBin fAdd (gV 2) (gV 4)))))
def t__law_tree_pairs (n : Nat) : TSt := sSeq (sIf (gNot (gTru (gIsi "tuple" (gV 0)))) (sRet (gLst (gNil))) (sNext)) (sSeq (sSet 1 (gLst (gNil))) (sSeq (sSet 2 (gLst (gNil))) (sSeq (sFor (iSeq (gSl (gV 0) (gP (gC (.int 1))) gNoP)) (g__law_tree_pairs_3 n) (w__law_tree_pairs_3 n)) (sRet (gV 1)))))
/- _law_ringed: 0 _law_pool_here, 1 _law_n, 2 _law_m, 3 _law_pairs_here, 4 _law_k, 5 _law_v, 6 _law_u -/
def g__law_ringed_1 : TGt := tN 4
def e__law_ringed_1 : TX := gTup (gCons (gV 4) (gCons (gBin fMod (gBin fAdd (gV 4) (gC (.int 1))) (gV 2)) (gNil)))
def c__law_ringed_1 : TXb := gT (gBin fGt (gV 2) (gC (.int 2)))
def g__law_ringed_2 : TGt := tN 6
def e__law_ringed_2 : TX := gTup (gCons (gV 6) (gCons (gV 5) (gNil)))
def c__law_ringed_2 : TXb := gT (gBin fEq (gFn S__law_draw (gCons (gC (.int 3)) (gNil))) (gC (.int 0)))
def g__law_ringed_3 : TGt := tN 5
def w__law_ringed_3 : TSt := sSet 3 (gBin fAdd (gV 3) (gLc (iRg (gCons (gV 5) (gNil))) g__law_ringed_2 c__law_ringed_2 e__law_ringed_2 [6]))
def t__law_ringed : TSt := sSeq (sSet 2 (gBin fSub (gV 1) (gFn S__law_draw (gCons (gCall fMax2 (gCons (gC (.int 1)) (gCons (gBin fSub (gV 1) (gC (.int 3))) (gNil)))) (gNil))))) (sSeq (sSet 3 (gLc (iRg (gCons (gV 2) (gNil))) g__law_ringed_1 c__law_ringed_1 e__law_ringed_1 [4])) (sSeq (sFor (iRg (gCons (gV 2) (gCons (gV 1) (gNil)))) g__law_ringed_3 w__law_ringed_3) (sRet (gFn S__law_of (gCons (gV 1) (gCons (gV 3) (gNil)))))))
/- _law_graph: 0 _law_pool_here, 1 _law_most, 2 _law_way, 3 _law_n, 4 _law_graph_here -/
def z__law_graph_1 : TSt := sRet (gV 4)
def z__law_graph_2 : TSt := sSeq (sIf (gT (gBin fGt (gFn S__law_draw (gCons (gC (.int 3)) (gNil))) (gC (.int 0)))) (sSet 4 (gFn S__law_moved (gCons (gV 4) (gCons (gFn S__law_shuffled (gCons (gCall fLR (gCons (gBin fIx (gV 4) (gC (.int 0))) gNil)) (gNil))) (gNil))))) (sNext)) (z__law_graph_1)
def z__law_graph_3 : TSt := sSeq (sIf (gT (gBin fEq (gFn S__law_draw (gCons (gC (.int 4)) (gNil))) (gC (.int 0)))) (sSet 4 (gFn S__law_other (gCons (gV 4) (gNil)))) (sNext)) (z__law_graph_2)
def t__law_graph : TSt := sSeq (sSet 2 (gFn S__law_draw (gCons (gC (.int 14)) (gNil)))) (sSeq (sSet 3 (gBin fIx (gLst (gCons (gV 1) (gCons (gBin fAdd (gC (.int 1)) (gFn S__law_draw (gCons (gV 1) (gNil)))) (gNil)))) (gCall fInt (gCons (gBin fEq (gFn S__law_draw (gCons (gC (.int 3)) (gNil))) (gC (.int 0))) (gNil))))) (sSeq (sIf (gT (gBin fEq (gV 2) (gC (.int 0)))) (sSet 4 (gFn S__law_interval_graph (gCons (gFn S__law_interval_rows (gCons (gV 3) (gNil))) (gNil)))) (sIf (gT (gBin fEq (gV 2) (gC (.int 1)))) (sSet 4 (gFn S__law_turned_graph (gCons (gCall fLR (gCons (gV 3) gNil)) (gCons (gFn S__law_shuffled (gCons (gCall fLR (gCons (gV 3) gNil)) (gNil))) (gNil))))) (sIf (gT (gBin fEq (gV 2) (gC (.int 2)))) (sSet 4 (gFn S__law_ordered_graph (gCons (gV 3) (gNil)))) (sIf (gT (gBin fEq (gV 2) (gC (.int 3)))) (sSet 4 (gFn S__law_clique_graph (gCons (gV 3) (gNil)))) (sIf (gT (gBin fEq (gV 2) (gC (.int 4)))) (sSet 4 (gFn S__law_of (gCons (gV 3) (gCons (gFn (S__law_tree_pairs 12) (gCons (gFn S__law_drawn_tree (gCons (gCall fLR (gCons (gV 3) gNil)) (gNil))) (gNil))) (gNil))))) (sIf (gT (gBin fLt (gV 2) (gC (.int 9)))) (sSet 4 (gFn S__law_ringed (gCons (gV 3) (gNil)))) (sIf (gT (gBin fEq (gV 2) (gC (.int 9)))) (sSet 4 (gFn S__law_other (gCons (gFn S__law_clique_graph (gCons (gV 3) (gNil))) (gNil)))) (sSet 4 (gFn S__law_random_graph (gCons (gV 1) (gNil))))))))))) (z__law_graph_3)))
end LW

set_option maxHeartbeats 1000000
namespace LW
open PySem PySem.Spec PyProof.Rows L2 TL
local macro_rules | `(tactic| simp_all only [$xs:simpLemma,*]) => `(tactic| (try simp only [$xs,*, sSeq, sNext, sIf, sRet, sRetN, sSet, sApp, sSetL, sFor, sDrop, sRaise, sTry, sPut, sNewK, sNewT, sBreak, sCont, sUnp, gT, gTru, fTru, gNot, gAndB, gOrB, gAndV, gOrV, gNotV, gIf, gCh, TL.gTup, TL.gLst, gSl, gNoP, gP, gCall, gIsi, fIsi, tyD, gFn, gDIn, gDGet, gSortT, TL.gCons, TL.gNil, gBin, gUn, fNeg, gC, gV, rdSl, asB, asI, fAdd, fMul, fI0, fI2, fLt, fEq, fNe, fMin2, fMax2, fLen, fTuple, fList, fInt, fSorted, fIx_l, fIx_t, isOw_fz, isOw_nw, isOw_res, ex_own, ex_dK, ex_dT, String.reduceBEq, Bool.or_false, Bool.or_self, Bool.and_false, Bool.false_and, Bool.true_or, Bool.or_true, Bool.false_or, fIsN, iSeq, itD, iRg, fRg1, fRg2, tN, tTupG, tsCons, tsNil, gYes, setSl, appSl, setAt, putSl, getSl, retOk_res, retOk_int, retOk_bool, retOk_str, retOk_non, retOk_nw, retOk_ow, retOk_tupT, retOk_tup, kb_fz, kb_nw, kb_ow, kb_res, no_fz, no_nw, no_res, res_int, res_bool, res_str, res_non, res_tup, res_lst, frOk, TL.allB, ent, frzA, List.map_cons, List.map_nil, List.getElem?_cons_zero, List.getElem?_cons_succ, List.set_cons_zero, List.set_cons_succ, decide_eq_true_eq, Bool.and_true, Bool.true_and, Bool.and_self, true_and, and_true, List.cons_append, List.nil_append, List.append_nil, List.length_cons, List.length_nil, Bool.false_eq_true, Bool.not_true, Bool.not_false, reduceIte, true_or, or_true, false_or, or_false, false_and, and_false, List.replicate_succ, List.replicate_zero, reduceCtorEq, ne_eq, not_false_eq_true, implies_true, Bool.not_eq_true', decide_eq_false_iff_not, decide_true, decide_false, Nat.reduceAdd, Nat.reduceSub, Nat.reduceLT, Nat.reduceLeDiff, gLc, gLc2, wipeT, im, fMM, fLR, gIndex, sAppPop, sSetPop, sSetPop0, sMB, gMB, sSetMB, sLcPop, fIn, Bool.false_bne, Bool.false_xor, Bool.true_xor]))

theorem lp_spread {De : EndsT} {wq : WS} {o : Sl} : ∀ (ks : List Int) (m t : Int) (x : Option Sl), (∀ m' t' x', De.nx [some o, some (.fz (.int m') true), some (.fz (.int t') true), x']) →
    forL g__law_spread_1 w__law_spread_1 De wq true (ks.map PyData.int) [some o, some (.fz (.int m) true), some (.fz (.int t) true), x] := by
  intro ks
  induction ks with
  | nil => intro m t x h; exact h m t x
  | cons k ks ih =>
    intro m t x h
    simp only [List.map_cons, forL]
    generalize forL g__law_spread_1 w__law_spread_1 De wq true (List.map PyData.int ks) = F at ih ⊢
    simp_all only [g__law_spread_1, w__law_spread_1]
    exact ⟨.inr ⟨by decide, by decide⟩, by decide, .inr ⟨by decide, by decide⟩, ih _ _ _ h⟩
theorem r__law_spread : ∀ (ds : List D) (Qt : D → Prop) (Et : WQ), ds.length = 1 → S__law_spread ds Qt Et → t__law_spread { nx := fun _ => Qt .none, rt := fun d _ => Qt d } (fun nm _ => Et nm) (ent false 4 ds) := by
  rintro ds Qt Et - ⟨c, rfl, h⟩
  simp_all only [t__law_spread]
  refine ⟨by decide, by decide, by decide, lp_spread _ _ _ none fun m t x => ?_⟩
  simp_all only [true_and]
  exact h _
theorem lp_sameT {De : EndsT} {wq : WS} {b : Bool} {n : Nat} {xs : List D} (hx : ∀ d ∈ xs, ∃ m, n = m + 1 ∧ sameOk m d = true) : ∀ (ks : List Int) (x : Option Sl), (∀ k ∈ ks, 0 ≤ k ∧ k < (xs.length : Nat)) →
    (∀ x', De.nx [some (.fz (.tuple xs) false), some (.fz (.tuple xs) false), x']) →
    forL (g__law_same_1 n) (w__law_same_1 n) De wq b (ks.map PyData.int) [some (.fz (.tuple xs) false), some (.fz (.tuple xs) false), x] := by
  intro ks
  induction ks with
  | nil => intro x _ h; exact h x
  | cons k ks ih =>
    intro x hk h
    simp only [List.map_cons, forL]
    generalize forL (g__law_same_1 n) (w__law_same_1 n) De wq b (List.map PyData.int ks) = F at ih ⊢
    obtain ⟨k0, k1⟩ := hk k List.mem_cons_self
    have hl : k.toNat < xs.length := by omega
    obtain ⟨m, rfl, hs⟩ := hx _ (List.getElem_mem hl)
    simp_all only [g__law_same_1, w__law_same_1]
    refine atQ_of k0 (List.getElem?_eq_getElem hl) (atQ_of k0 (List.getElem?_eq_getElem hl) ⟨_, rfl, hs, ?_⟩)
    simp_all only [true_and]
    exact ih _ (fun j hj => hk j (List.mem_cons_of_mem _ hj)) h
theorem lp_sameL {De : EndsT} {wq : WS} {b : Bool} {n : Nat} {xs : List D} (hx : ∀ d ∈ xs, ∃ m, n = m + 1 ∧ sameOk m d = true) : ∀ (ks : List Int) (x : Option Sl), (∀ k ∈ ks, 0 ≤ k ∧ k < (xs.length : Nat)) →
    (∀ x', De.nx [some (.fz (.list xs) false), some (.fz (.list xs) false), x']) →
    forL (g__law_same_1 n) (w__law_same_1 n) De wq b (ks.map PyData.int) [some (.fz (.list xs) false), some (.fz (.list xs) false), x] := by
  intro ks
  induction ks with
  | nil => intro x _ h; exact h x
  | cons k ks ih =>
    intro x hk h
    simp only [List.map_cons, forL]
    generalize forL (g__law_same_1 n) (w__law_same_1 n) De wq b (List.map PyData.int ks) = F at ih ⊢
    obtain ⟨k0, k1⟩ := hk k List.mem_cons_self
    have hl : k.toNat < xs.length := by omega
    obtain ⟨m, rfl, hs⟩ := hx _ (List.getElem_mem hl)
    simp_all only [g__law_same_1, w__law_same_1]
    refine atQ_of k0 (List.getElem?_eq_getElem hl) (atQ_of k0 (List.getElem?_eq_getElem hl) ⟨_, rfl, hs, ?_⟩)
    simp_all only [true_and]
    exact ih _ (fun j hj => hk j (List.mem_cons_of_mem _ hj)) h
theorem r__law_same (n : Nat) : ∀ (ds : List D) (Qt : D → Prop) (Et : WQ), ds.length = 2 → S__law_same (n + 1) ds Qt Et → t__law_same n { nx := fun _ => Qt .none, rt := fun d _ => Qt d } (fun nm _ => Et nm) (ent false 3 ds) := by
  rintro ds Qt Et - ⟨d, rfl, hd, h⟩
  have items : ∀ xs : List D, (n = 0 → False) → xs.all (sameOk (n - 1)) = true → ∀ d ∈ xs, ∃ m, n = m + 1 ∧ sameOk m d = true := fun xs h0 ha d' hd' => by
    cases n with
    | zero => exact (h0 rfl).elim
    | succ m => exact ⟨m, rfl, List.all_eq_true.mp ha d' hd'⟩
  cases d with
  | none => simp_all only [t__law_same]; exact h
  | bool i => simp_all only [t__law_same]; exact h
  | int i => simp_all only [t__law_same]; exact h
  | str i => simp_all only [t__law_same]; exact h
  | tuple xs =>
    simp_all only [t__law_same]
    have hz : xs.length < 2 ^ 62 ∧ xs.all (sameOk (n - 1)) = true := by
      cases n with
      | zero => simp [sameOk, atomD] at hd
      | succ m => simp only [sameOk, Bool.and_eq_true, decide_eq_true_eq] at hd; exact hd
    have hl := hz.1
    refine ⟨by omega, by omega, lp_sameT (items xs (fun e => by subst e; simp [sameOk, atomD] at hd) hz.2) _ none (fun k hk => by rw [mem_rg] at hk; exact hk) fun x => ?_⟩
    simp_all only [true_and]
    exact h
  | list xs =>
    simp_all only [t__law_same]
    have hz : xs.length < 2 ^ 62 ∧ xs.all (sameOk (n - 1)) = true := by
      cases n with
      | zero => simp [sameOk, atomD] at hd
      | succ m => simp only [sameOk, Bool.and_eq_true, decide_eq_true_eq] at hd; exact hd
    have hl := hz.1
    refine ⟨by omega, by omega, lp_sameL (items xs (fun e => by subst e; simp [sameOk, atomD] at hd) hz.2) _ none (fun k hk => by rw [mem_rg] at hk; exact hk) fun x => ?_⟩
    simp_all only [true_and]
    exact h
  | dict _ => cases n <;> simp [sameOk, atomD] at hd
theorem lp_pairs1 {De : EndsT} {wq : WS} {n u : Int} : ∀ (vs : List Int) (acc : List (Int × Int)) (y : Option Sl), acc.length + vs.length ≤ 2000000 →
    (∀ y', De.nx [some (.fz (.int n) false), some (.own ((acc ++ vs.map fun v => (u, v)).map pD) true), some (.fz (.int u) true), y']) →
    forL g__law_pairs_1 w__law_pairs_1 De wq true (vs.map PyData.int) [some (.fz (.int n) false), some (.own (acc.map pD) true), some (.fz (.int u) true), y] := by
  intro vs
  induction vs with
  | nil =>
    intro acc y _ h
    have z := h y
    simp only [List.map_nil, List.append_nil] at z
    exact z
  | cons v vs ih =>
    intro acc y hl h
    simp only [List.map_cons, forL]
    generalize forL g__law_pairs_1 w__law_pairs_1 De wq true (List.map PyData.int vs) = F at ih ⊢
    rw [List.length_cons] at hl
    simp_all only [g__law_pairs_1, w__law_pairs_1]
    refine ⟨by rw [List.length_map, sizeLine_eq]; omega, ?_⟩
    have z := ih (acc ++ [(u, v)]) (some (.fz (.int v) true)) (by simp; omega) (fun y' => by rw [List.append_assoc]; exact h y')
    simpa [pD] using z
theorem lp_pairs2 {De : EndsT} {wq : WS} {n : Int} (hn : 0 ≤ n ∧ n ≤ 1000) : ∀ (us : List Int) (acc : List (Int × Int)) (x y : Option Sl), acc.length + 1000 * us.length ≤ 1000000 → (∀ u ∈ us, 0 ≤ u ∧ u ≤ 1000) →
    (∀ x' y', De.nx [some (.fz (.int n) false), some (.own ((acc ++ us.flatMap fun u => (rg (u + 1) n).map fun v => (u, v)).map pD) true), x', y']) →
    forL g__law_pairs_2 w__law_pairs_2 De wq true (us.map PyData.int) [some (.fz (.int n) false), some (.own (acc.map pD) true), x, y] := by
  intro us
  induction us with
  | nil =>
    intro acc x y _ _ h
    have z := h x y
    simp only [List.flatMap_nil, List.append_nil] at z
    exact z
  | cons u us ih =>
    intro acc x y hl hu h
    simp only [List.map_cons, forL]
    generalize forL g__law_pairs_2 w__law_pairs_2 De wq true (List.map PyData.int us) = F at ih ⊢
    rw [List.length_cons] at hl
    have hu0 := hu u List.mem_cons_self
    simp_all only [g__law_pairs_2, w__law_pairs_2]
    have hr : (rg (u + 1) n).length ≤ 1000 := by rw [rg_len]; omega
    refine ⟨by omega, lp_pairs1 _ acc y (by omega) fun y' => ?_⟩
    refine ih _ _ _ (by rw [List.length_append, List.length_map]; omega) (fun v hv => hu v (List.mem_cons_of_mem _ hv)) fun x2 y2 => ?_
    rw [List.append_assoc]; exact h x2 y2
theorem r__law_pairs : ∀ (ds : List D) (Qt : D → Prop) (Et : WQ), ds.length = 1 → S__law_pairs ds Qt Et → t__law_pairs { nx := fun _ => Qt .none, rt := fun d _ => Qt d } (fun nm _ => Et nm) (ent false 4 ds) := by
  rintro ds Qt Et - ⟨n, rfl, h0, h1, h⟩
  simp_all only [t__law_pairs]
  refine ⟨by omega, by omega, lp_pairs2 ⟨h0, h1⟩ _ [] none none (by rw [rg_len, List.length_nil]; omega) (fun u hu => by rw [mem_rg] at hu; omega) fun x y => ?_⟩
  simp_all only [true_and]
  exact h
theorem full_mem {n : Int} {p : Int × Int} : p ∈ fullE n ↔ 0 ≤ p.1 ∧ p.1 < p.2 ∧ p.2 < n := by
  unfold fullE
  simp only [List.mem_flatMap, List.mem_map, mem_rg]
  constructor
  · rintro ⟨u, h1, v, h2, rfl⟩
    simp only []
    omega
  · rintro ⟨h1, h2, h3⟩
    exact ⟨p.1, by omega, p.2, by omega, rfl⟩
theorem full_srt (n : Int) : Srt (fullE n) := by
  unfold fullE Srt
  rw [List.pairwise_flatMap]
  refine ⟨fun u _ => ?_, ?_⟩
  · rw [List.pairwise_map]
    exact rg_pair.imp fun h => .inr ⟨rfl, h⟩
  · refine rg_pair.imp fun {a b} h x hx y hy => ?_
    obtain ⟨v, _, rfl⟩ := List.mem_map.mp hx
    obtain ⟨w, _, rfl⟩ := List.mem_map.mp hy
    exact .inl h

theorem im_gD (n : Int) (L : List (Int × Int)) : im (gD n L) = true := by simp [gD, im, im.imAll, im_pairs]
theorem r__law_met : ∀ (ds : List D) (Qt : D → Prop) (Et : WQ), ds.length = 3 → S__law_met ds Qt Et → t__law_met { nx := fun _ => Qt .none, rt := fun d _ => Qt d } (fun nm _ => Et nm) (ent false 3 ds) := by
  rintro ds Qt Et - ⟨n, L, u, v, rfl, hl, h⟩
  simp_all only [t__law_met, gD]
  refine atQ_of (by decide) rfl ?_
  simp_all only [true_and]
  have e' : (L.map pD).any (fun z => PyData.eqv z (PyData.tuple [.int (min u v), .int (max u v)])) = decide (nrm (u, v) ∈ L) := any_pD L (nrm (u, v))
  exact ⟨shaped_pD (nrm (u, v)), shaped_tpairs L, by
    first
      | (rw [e']; exact h)
      | (simp only [e']; exact h)⟩
theorem r__law_near : ∀ (ds : List D) (Qt : D → Prop) (Et : WQ), ds.length = 2 → S__law_near ds Qt Et → t__law_near { nx := fun _ => Qt .none, rt := fun d _ => Qt d } (fun nm _ => Et nm) (ent false 3 ds) := by
  rintro ds Qt Et - ⟨n, L, v, rfl, hl, h0, h1, h⟩
  simp_all only [t__law_near, gD]
  refine atQ_of (by decide) rfl ?_
  simp_all only [true_and]
  refine ⟨by omega, by omega, by rw [List.length_map, rg_len, sizeLine_eq]; omega, ?_⟩
  refine lcL_filt (fun w : Int => w ≠ v ∧ nrm (w, v) ∈ L) PyData.int (fun w hw Rn Ry hn hy => ?_) ?_
  · simp_all only [g__law_near_1, c__law_near_1, e__law_near_1]
    by_cases e : w = v
    · simp_all only [e]
      exact hn fun q => q.1 e
    · rw [if_pos e]
      refine ⟨n, L, w, v, rfl, hl, ?_⟩
      simp_all only [true_and]
      by_cases e2 : nrm (w, v) ∈ L
      · rw [if_pos e2]
        exact hy ⟨e, e2⟩ _ trivial rfl
      · rw [if_neg e2]
        exact hn fun q => e2 q.2
  · simp_all only [true_and]
    exact h

theorem fullE_len1 {n : Int} (h : n ≤ 100) : (fullE n).length ≤ 10000 := by
  have fl : ∀ {xs : List Int} {f : Int → List (Int × Int)} {k : Nat}, (∀ x ∈ xs, (f x).length ≤ k) → (xs.flatMap f).length ≤ xs.length * k := by
    intro xs f k h
    induction xs with
    | nil => simp
    | cons x xs ih =>
      rw [List.flatMap_cons, List.length_append, List.length_cons, Nat.succ_mul]
      have a := h x List.mem_cons_self
      have b := ih fun y hy => h y (List.mem_cons_of_mem _ hy)
      omega
  unfold fullE
  refine Nat.le_trans (fl (k := 100) fun x hx => ?_) ?_
  · rw [mem_rg] at hx
    rw [List.length_map, rg_len]; omega
  · rw [rg_len]; exact Nat.le_trans (Nat.mul_le_mul_right 100 (show (n - 0).toNat ≤ 100 by omega)) (by decide)
theorem r__law_other : ∀ (ds : List D) (Qt : D → Prop) (Et : WQ), ds.length = 1 → S__law_other ds Qt Et → t__law_other { nx := fun _ => Qt .none, rt := fun d _ => Qt d } (fun nm _ => Et nm) (ent false 2 ds) := by
  rintro ds Qt Et - ⟨n, L, rfl, hl, h0, h1, h⟩
  simp_all only [t__law_other, gD]
  refine atQ_of (by decide) rfl ?_
  try simp_all only [true_and]
  refine atQ_of (by decide) rfl ?_
  try simp_all only [true_and]
  refine ⟨n, rfl, h0, by omega, ?_⟩
  try simp_all only [true_and]
  refine ⟨by rw [List.length_map, sizeLine_eq]; have := fullE_len1 h1; omega, ?_⟩
  refine lcL_filt (fun p : Int × Int => p ∉ L) pD (fun p hp Rn Ry hn hy => ?_) ?_
  · simp_all only [g__law_other_1, c__law_other_1, e__law_other_1]
    refine atQ_of (by decide) rfl ?_
    simp_all only [pD]
    have e := any_pD L p
    simp only [pD] at e
    refine ⟨shaped_pD p, shaped_tpairs L, ?_⟩
    rw [e]
    by_cases q : p ∈ L
    · rw [if_neg (by simp [q])]
      exact hn fun z => z q
    · rw [if_pos (by simp [q])]
      exact hy q _ trivial rfl
  · try simp_all only [true_and]
    exact h

theorem r__law_random_graph : ∀ (ds : List D) (Qt : D → Prop) (Et : WQ), ds.length = 1 → S__law_random_graph ds Qt Et → t__law_random_graph { nx := fun _ => Qt .none, rt := fun d _ => Qt d } (fun nm _ => Et nm) (ent true 5 ds) := by
  rintro ds Qt Et - ⟨m, rfl, m1, m2, h⟩
  simp_all only [t__law_random_graph]
  refine ⟨m, rfl, by omega, by omega, fun r1 p1 q1 => ?_⟩
  try simp_all only [true_and]
  refine ⟨3, rfl, by decide, by decide, fun r2 p2 q2 => ?_⟩
  try simp_all only [true_and]
  refine atQ_ints (ns := [m, 1 + r1]) (P := fun n => 1 ≤ n ∧ n ≤ m) rfl (by split <;> decide) (by simp only [List.length_cons, List.length_nil]; split <;> decide) (by simp only [List.mem_cons, List.mem_nil_iff, or_false]; rintro j (rfl | rfl) <;> omega) fun n hn => ?_
  try simp_all only [true_and]
  refine ⟨5, rfl, by decide, by decide, fun r3 p3 q3 => ?_⟩
  try simp_all only [true_and]
  refine ⟨n, rfl, by omega, by omega, ?_⟩
  try simp_all only [true_and]
  refine ⟨by rw [List.length_map, sizeLine_eq]; have := fullE_len1 (n := n) (by omega); omega, ?_⟩
  refine lcL_any pD (fun p hp Rn Ry hn' hy => ?_) fun ys hy => ?_
  · simp_all only [g__law_random_graph_1, c__law_random_graph_1, e__law_random_graph_1]
    refine ⟨6, rfl, by decide, by decide, fun r4 p4 q4 => ?_⟩
    try simp_all only [pD]
    split
    · exact hy _ trivial rfl
    · exact hn'
  · try simp_all only [true_and]
    refine h n hn.1 hn.2 ys ⟨List.Pairwise.sublist hy (full_srt n), fun p hp => ?_⟩
    have := full_mem.mp (hy.mem hp)
    omega

theorem lp_rows {De : EndsT} {wq : WS} {n : Int} : ∀ (ks : List Int) (acc : List (Int × Int)) (x y : Option Sl), acc.length + ks.length ≤ 100 → (∀ rs : List (Int × Int), rs.length = acc.length + ks.length → ∀ x y, De.nx [none, some (.fz (.int n) false), some (.own (rs.map pD) true), x, y]) →
    forL g__law_interval_rows_1 w__law_interval_rows_1 De wq true (ks.map PyData.int) [none, some (.fz (.int n) false), some (.own (acc.map pD) true), x, y] := by
  intro ks
  induction ks with
  | nil => intro acc x y _ h; exact h acc (by simp) x y
  | cons k ks ih =>
    intro acc x y hl h
    simp only [List.map_cons, forL]
    generalize forL g__law_interval_rows_1 w__law_interval_rows_1 De wq true (List.map PyData.int ks) = F at ih ⊢
    rw [List.length_cons] at hl h
    simp_all only [g__law_interval_rows_1, w__law_interval_rows_1]
    refine ⟨9, rfl, by decide, by decide, fun r1 p1 q1 => ?_⟩
    try simp_all only [true_and]
    refine ⟨3, rfl, by decide, by decide, fun r2 p2 q2 => ?_⟩
    try simp_all only [true_and]
    refine atQ_ints (ns := [1, 3, 6]) (P := fun j => 1 ≤ j ∧ j ≤ 6) rfl p2 q2 (by decide) fun j hj => ?_
    try simp_all only [true_and]
    refine ⟨j, rfl, by omega, by omega, fun r3 p3 q3 => ?_⟩
    try simp_all only [true_and]
    refine ⟨by rw [List.length_map, sizeLine_eq]; omega, ?_⟩
    have z := ih (acc ++ [(r1 - 4, r1 - 4 + r3)]) (some (.fz (.int k) true)) (some (.fz (.int (r1 - 4)) true)) (by simp; omega) (fun rs hr => h rs (by rw [hr]; simp; omega))
    simpa [pD] using z
theorem r__law_interval_rows : ∀ (ds : List D) (Qt : D → Prop) (Et : WQ), ds.length = 1 → S__law_interval_rows ds Qt Et → t__law_interval_rows { nx := fun _ => Qt .none, rt := fun d _ => Qt d } (fun nm _ => Et nm) (ent true 5 ds) := by
  rintro ds Qt Et - ⟨n, rfl, h0, h1, h⟩
  simp_all only [t__law_interval_rows]
  refine ⟨by omega, by omega, lp_rows _ [] none none (by rw [rg_len]; simp; omega) fun rs hr x y => ?_⟩
  try simp_all only [Bool.true_or]
  exact h rs (by rw [hr, rg_len]; simp; omega)
end LW

set_option maxHeartbeats 1000000
namespace LW
open PySem PySem.Spec PyProof.Rows L2 TL
local macro_rules | `(tactic| simp_all only [$xs:simpLemma,*]) => `(tactic| (try simp only [$xs,*, sSeq, sNext, sIf, sRet, sRetN, sSet, sApp, sSetL, sFor, sDrop, sRaise, sTry, sPut, sNewK, sNewT, sBreak, sCont, sUnp, gT, gTru, fTru, gNot, gAndB, gOrB, gAndV, gOrV, gNotV, gIf, gCh, TL.gTup, TL.gLst, gSl, gNoP, gP, gCall, gIsi, fIsi, tyD, gFn, gDIn, gDGet, gSortT, TL.gCons, TL.gNil, gBin, gUn, fNeg, gC, gV, rdSl, asB, asI, fAdd, fMul, fI0, fI2, fLt, fMin2, fMax2, fLen, fTuple, fList, fInt, fSorted, fIx_l, fIx_t, isOw_fz, isOw_nw, isOw_res, ex_own, ex_dK, ex_dT, String.reduceBEq, Bool.or_false, Bool.or_self, Bool.and_false, Bool.false_and, Bool.true_or, Bool.or_true, Bool.false_or, fIsN, iSeq, itD, iRg, fRg1, fRg2, tN, tTupG, tsCons, tsNil, gYes, setSl, appSl, setAt, putSl, getSl, retOk_res, retOk_int, retOk_bool, retOk_str, retOk_non, retOk_nw, retOk_ow, retOk_tupT, retOk_tup, kb_fz, kb_nw, kb_ow, kb_res, no_fz, no_nw, no_res, res_int, res_bool, res_str, res_non, res_tup, res_lst, frOk, TL.allB, ent, frzA, List.map_cons, List.map_nil, List.getElem?_cons_zero, List.getElem?_cons_succ, List.set_cons_zero, List.set_cons_succ, decide_eq_true_eq, Bool.and_true, Bool.true_and, Bool.and_self, true_and, and_true, List.cons_append, List.nil_append, List.append_nil, List.length_cons, List.length_nil, Bool.false_eq_true, Bool.not_true, Bool.not_false, reduceIte, true_or, or_true, false_or, or_false, false_and, and_false, List.replicate_succ, List.replicate_zero, reduceCtorEq, ne_eq, not_false_eq_true, implies_true, Bool.not_eq_true', decide_eq_false_iff_not, decide_true, decide_false, Nat.reduceAdd, Nat.reduceSub, Nat.reduceLT, Nat.reduceLeDiff, gLc, gLc2, wipeT, im, fMM, fLR, gIndex, sAppPop, sSetPop, sSetPop0, sMB, gMB, sSetMB, sLcPop, Bool.false_bne, Bool.false_xor, Bool.true_xor, fEq_ii, fEq_bb, fEq_ss, fEq_ll, fEq_tt, fNe_ii, fNe_bb, fNe_ss, fNe_ll, fNe_tt, fIn_l, fIn_t, fSl_l, fSl_t, cut1, fSrt, fMinD, gNotT, frOk_fz, allB_fzt, fst_fz, len_fz, sFrz, frzT, sExt, extSl, sRem, remSl, sAugI, sAug, gStar, starD, gTupS, gLstS, iEn, iEn2, itE, sDc, dcL, gDead, sTryAs, gIsE, sIns, insSl, sRev, sPopX, iRg3, fRg3, iZp, zipD, sNew1, gSortK, gCh3, toKey, getSl, iDs, im_pD, im_tI, im.imAll, im_pairs, imAll_ints, atQ0, atQ1, atQ2, atQ3, gD, popSl, sAppPop, sRetO, gFnO]))
theorem r__law_distinct : ∀ (ds : List D) (Qt : D → Prop) (Et : WQ), ds.length = 1 → S__law_distinct ds Qt Et → t__law_distinct { nx := fun _ => Qt .none, rt := fun d _ => Qt d } (fun nm _ => Et nm) (ent false 3 ds) := by
  rintro ds Qt Et - ⟨α, inj, lt, E, es, rfl, hs, hl, h⟩
  simp_all only [t__law_distinct]
  refine ⟨hs, ?_⟩
  rw [E.map_sort]
  have ho := E.ord es
  have hlen : (E.sort es).length = es.length := (E.perm es).length_eq
  refine forL_inv (fun done τ => ∃ (acc : List α) (y : Option Sl), τ = [some (.fz (.list (es.map inj)) false), some (.own (acc.map inj) true), y] ∧ acc.Pairwise lt ∧ (∀ p, p ∈ acc ↔ p ∈ done) ∧ acc.length ≤ done.length) ⟨[], none, rfl, .nil, fun p => Iff.rfl, by simp⟩ ?_ ?_
  · rintro done x rest e _ ⟨acc, y, rfl, ha, hm, hl2⟩ F hF
    have hx : ∀ a ∈ done, ¬ lt x a := by
      rw [e, List.pairwise_append] at ho
      exact fun a h => ho.2.2 a h x List.mem_cons_self
    have hd : done.length < es.length := by rw [← hlen, e]; simp
    simp_all only [g__law_distinct_1, w__law_distinct_1, E.imm]
    rcases List.eq_nil_or_concat acc with rfl | ⟨acc', z, ec⟩
    · refine ⟨E.shL _, by simp [SeqAt.shaped, PyData.canLay0, PyData.canLayAll0, PyData.depth, PyData.depthAll], ?_⟩
      simp only [List.map_nil, PyData.eqv, PyData.eqvAll, if_true]
      refine ⟨sl_lt (by simp), hF _ ⟨[x], _, rfl, List.pairwise_singleton _ _, fun p => ?_, by simp⟩⟩
      have : done = [] := by
        cases done with
        | nil => rfl
        | cons a l => have := (hm a).mpr List.mem_cons_self; simp at this
      rw [this]; rfl
    · rw [List.concat_eq_append] at ec
      subst ec
      have en : PyData.eqv (.list (List.map inj (acc' ++ [z]))) (.list []) = false := by
        simp only [List.map_append, PyData.eqv]
        cases acc' <;> simp [PyData.eqvAll]
      have hz : z ∈ done := (hm z).mp (by simp)
      refine ⟨E.shL _, by simp [SeqAt.shaped, PyData.canLay0, PyData.canLayAll0, PyData.depth, PyData.depthAll], ?_⟩
      rw [en]
      simp only [List.map_append, List.map_cons, List.map_nil, Bool.false_eq_true, if_false]
      refine atQ_last (fNe_any (E.sh _) (E.sh _) ?_)
      by_cases ez : z = x
      · have : PyData.eqv (inj z) (inj x) = true := (E.eqv _ _).mpr ez
        rw [this]
        simp only [asB, Bool.not_true, Bool.false_eq_true, if_false]
        refine hF _ ⟨acc' ++ [z], _, (by first | rfl | (simp [gD] <;> repeat' (first | rfl | apply And.intro))), ha, fun p => ?_, by rw [List.length_append (as := done)]; exact Nat.le_trans hl2 (Nat.le_add_right _ _)⟩
        rw [hm p]
        simp only [List.mem_append, List.mem_singleton]
        exact ⟨.inl, fun h => h.elim id fun h => h ▸ ez ▸ hz⟩
      · have : PyData.eqv (inj z) (inj x) = false := by
          cases q : PyData.eqv (inj z) (inj x) with
          | false => rfl
          | true => exact (ez ((E.eqv _ _).mp q)).elim
        rw [this]
        simp only [asB, Bool.not_false, if_true]
        have hll : acc'.length + 1 < 16777216 := by
          have : (acc' ++ [z]).length = acc'.length + 1 := by simp
          omega
        refine ⟨sl_lt (by simpa using hll), hF _ ⟨acc' ++ [z] ++ [x], _, (by first | rfl | (simp [gD] <;> repeat' (first | rfl | apply And.intro))), ?_, fun p => ?_, by rw [List.length_append, List.length_append (as := done)]; exact Nat.add_le_add_right hl2 _⟩⟩
        · rw [List.pairwise_append]
          refine ⟨ha, List.pairwise_singleton _ _, fun a h1 b h2 => ?_⟩
          rw [List.mem_singleton] at h2
          rw [h2]
          have hzx : lt z x := (E.tri z x).elim id fun q => q.elim (fun q => (ez q).elim) fun q => (hx z hz q).elim
          rcases List.mem_append.mp h1 with h1 | h1
          · rw [List.pairwise_append] at ha
            exact E.trn _ _ _ (ha.2.2 a h1 z (by simp)) hzx
          · rw [List.mem_singleton] at h1
            subst h1; exact hzx
        · rw [List.mem_append, hm p, List.mem_append]
  · rintro τ ⟨acc, y, rfl, ha, hm, hl2⟩
    simp_all only [E.imAll]
    refine h acc ha fun p => ?_
    rw [hm p, E.mem]
theorem r__law_of : ∀ (ds : List D) (Qt : D → Prop) (Et : WQ), ds.length = 2 → S__law_of ds Qt Et → t__law_of { nx := fun _ => Qt .none, rt := fun d _ => Qt d } (fun nm _ => Et nm) (ent false 3 ds) := by
  rintro ds Qt Et - ⟨n, es, rfl, hl, h⟩
  simp_all only [t__law_of]
  refine ⟨by rw [List.length_map, sizeLine_eq]; omega, lcL_map (f := fun e => pD (nrm e)) (fun e he Ry hy => ?_) ?_⟩
  · simp_all only [g__law_of_1, e__law_of_1, pD]
    refine ⟨e.1, [e.2], rfl, e.1, [e.2], rfl, ?_⟩
    simp_all only [List.foldl_cons, List.foldl_nil]
    exact hy _ trivial rfl
  · simp_all only [true_and]
    refine ⟨_, _, _, emb_pair, es.map nrm, by simp [List.map_map], by simpa [List.map_map] using sok_pairs (es.map nrm), by rw [List.length_map]; exact hl, fun L hL hm => ?_⟩
    simp_all only [emb_pair.imAll]
    refine h L hL fun p => ?_
    rw [hm p]
    simp only [List.mem_map]
theorem r__law_shuffled : ∀ (ds : List D) (Qt : D → Prop) (Et : WQ), ds.length = 1 → S__law_shuffled ds Qt Et → t__law_shuffled { nx := fun _ => Qt .none, rt := fun d _ => Qt d } (fun nm _ => Et nm) (ent true 5 ds) := by
  rintro ds Qt Et - ⟨is, rfl, hl, h⟩
  simp_all only [t__law_shuffled, iDs, List.length_map, imAll_ints]
  refine ⟨by omega, by omega, ?_⟩
  refine forL_inv (fun done τ => ∃ (got left : List Int) (y : Option Sl), τ = [none, some (.fz (.list (is.map PyData.int)) false), some (.own (List.map PyData.int (left)) true), some (.own (List.map PyData.int (got)) true), y] ∧ (got ++ left).Perm is ∧ got.length = done.length) ⟨[], is, none, rfl, List.Perm.refl _, rfl⟩ ?_ ?_
  · rintro done x rest e _ ⟨got, left, y, rfl, hp, hg⟩ F hF
    have hd : done.length < is.length := by
      have := congrArg List.length e
      rw [rg_len, List.length_append, List.length_cons] at this; omega
    have hl2 : got.length + left.length = is.length := by rw [← List.length_append, hp.length_eq]
    simp_all only [g__law_shuffled_1, w__law_shuffled_1, List.length_map, imAll_ints]
    refine ⟨by decide, _, rfl, by omega, by omega, fun r r0 r1 => ?_⟩
    simp_all only [List.length_map]
    have hr : r.toNat < left.length := by omega
    refine ⟨r0, r1, sl_le (by omega), .int left[r.toNat], by rw [List.getElem?_map, List.getElem?_eq_getElem hr]; rfl, ?_⟩
    simp_all only [List.length_map]
    refine ⟨sl_lt (by omega), hF _ ⟨got ++ [left[r.toNat]], left.eraseIdx r.toNat, _, (by first | rfl | (simp [gD, emap] <;> repeat' (first | rfl | apply And.intro))), ?_, by simp [hg]⟩⟩
    refine List.Perm.trans ?_ hp
    rw [List.append_assoc]
    exact List.Perm.append_left _ (pick_perm hr)
  · rintro τ ⟨got, left, y, rfl, hp, hg⟩
    have : left = [] := by
      have := hp.length_eq
      rw [List.length_append, hg, rg_len] at this
      exact List.eq_nil_of_length_eq_zero (by omega)
    subst this
    simp_all only [imAll_ints]
    exact h got (by simpa using hp)
theorem r__law_moved : ∀ (ds : List D) (Qt : D → Prop) (Et : WQ), ds.length = 2 → S__law_moved ds Qt Et → t__law_moved { nx := fun _ => Qt .none, rt := fun d _ => Qt d } (fun nm _ => Et nm) (ent false 3 ds) := by
  rintro ds Qt Et - ⟨n, L, os, hds, hl, hb, h⟩
  rcases hds with rfl | rfl
  all_goals
    simp_all only [t__law_moved, iDs, tI]
    refine ⟨sl_le (by rw [List.length_map]; omega), ?_⟩
    refine lcL_map (f := fun p : Int × Int => pD (os.getD p.1.toNat 0, os.getD p.2.toNat 0)) (fun p hp Ry hy => ?_) ?_
    · obtain ⟨a1, a2, b1, b2⟩ := hb p hp
      simp_all only [g__law_moved_1, e__law_moved_1, pD]
      refine atQ_map a1 a2 fun a ha => ?_
      simp_all only [true_and]
      refine atQ_map b1 b2 fun b hb => ?_
      simp_all only [true_and]
      have e1 : os.getD p.1.toNat 0 = a := by rw [List.getD_eq_getElem?_getD, ha]; rfl
      have e2 : os.getD p.2.toNat 0 = b := by rw [List.getD_eq_getElem?_getD, hb]; rfl
      have := hy (.fz true) trivial rfl
      rw [e1, e2] at this
      exact this
    · simp_all only [true_and]
      refine ⟨n, L.map fun p : Int × Int => (os.getD p.1.toNat 0, os.getD p.2.toNat 0), by simp [List.map_map, Function.comp_def], by rw [List.length_map]; exact hl, fun L' hL hm => ?_⟩
      simp_all only [true_and]
      refine h L' hL fun q => ?_
      rw [hm q]
      simp only [List.mem_map]
      constructor
      · rintro ⟨e, ⟨p, hp, rfl⟩, rfl⟩; exact ⟨p, hp, rfl⟩
      · rintro ⟨p, hp, rfl⟩; exact ⟨_, ⟨p, hp, rfl⟩, rfl⟩
theorem gr_full {n : Int} {ys : List (Int × Int)} (h : ys.Sublist (fullE n)) : Gr n ys := ⟨List.Pairwise.sublist h (full_srt n), fun p hp => by
  have := full_mem.mp (h.mem hp)
  omega⟩
theorem r__law_interval_graph : ∀ (ds : List D) (Qt : D → Prop) (Et : WQ), ds.length = 1 → S__law_interval_graph ds Qt Et → t__law_interval_graph { nx := fun _ => Qt .none, rt := fun d _ => Qt d } (fun nm _ => Et nm) (ent false 2 ds) := by
  rintro ds Qt Et - ⟨rs, rfl, hl, h⟩
  simp_all only [t__law_interval_graph, List.length_map]
  refine ⟨(rs.length : Nat), rfl, by omega, by omega, ?_⟩
  simp_all only [true_and]
  refine ⟨sl_le (by rw [List.length_map]; have := fullE_len1 (n := (rs.length : Nat)) (by omega); omega), ?_⟩
  refine lcL_any pD (fun p hp Rn Ry hn hy => ?_) fun ys hy => ?_
  · have hp := full_mem.mp hp
    simp_all only [g__law_interval_graph_1, c__law_interval_graph_1, e__law_interval_graph_1, pD]
    refine atQ_map (by omega) (by omega) fun a ha => ?_
    simp_all only [pD]
    refine atQ_map (by omega) (by omega) fun b hb => ?_
    simp_all only [pD]
    split
    · refine atQ_map (by omega) (by omega) fun a' ha' => ?_
      simp_all only [pD]
      refine atQ_map (by omega) (by omega) fun b' hb' => ?_
      simp_all only [pD]
      split
      · exact hy _ trivial rfl
      · exact hn
    · exact hn
  · simp_all only [true_and]
    exact h ys (gr_full hy)
theorem r__law_turned_graph : ∀ (ds : List D) (Qt : D → Prop) (Et : WQ), ds.length = 2 → S__law_turned_graph ds Qt Et → t__law_turned_graph { nx := fun _ => Qt .none, rt := fun d _ => Qt d } (fun nm _ => Et nm) (ent false 7 ds) := by
  rintro ds Qt Et - ⟨as, bs, rfl, hl, hl2, hu, h⟩
  simp_all only [t__law_turned_graph, iDs, List.length_map, imAll_ints]
  refine ⟨(as.length : Nat), rfl, by omega, by omega, ?_⟩
  simp_all only [true_and]
  have hf := fullE_len1 (n := (as.length : Nat)) (by omega)
  refine forL_inv (fun done τ => ∃ (acc : List (Int × Int)) (y z : Option Sl), τ = [some (.fz (.list (as.map PyData.int)) false), some (.fz (.list (bs.map PyData.int)) false), some (.own (List.map PyData.int (as)) true), some (.own (List.map PyData.int (bs)) true), some (.own (List.map pD (acc)) true), y, z] ∧ acc.Sublist done) ⟨[], none, none, rfl, .slnil⟩ ?_ ?_
  · rintro done x rest e _ ⟨acc, y, z, rfl, hs⟩ F hF
    have hx := full_mem.mp (show x ∈ fullE (as.length : Nat) by rw [e]; simp)
    obtain ⟨u1, u2⟩ := hu x.1 (by omega) (by omega)
    obtain ⟨v1, v2⟩ := hu x.2 (by omega) (by omega)
    have hd : done.length ≤ 10000 := by
      have := congrArg List.length e
      rw [List.length_append, List.length_cons] at this; omega
    have := hs.length_le
    simp_all only [g__law_turned_graph_1, w__law_turned_graph_1, pD, imAll_ints]
    refine ⟨⟨_, rfl⟩, fIndex_of emb_int u1 fun j1 _ _ => ?_⟩
    simp_all only [imAll_ints]
    refine ⟨⟨_, rfl⟩, fIndex_of emb_int v1 fun j2 _ _ => ?_⟩
    simp_all only [imAll_ints]
    refine ⟨⟨_, rfl⟩, fIndex_of emb_int u2 fun j3 _ _ => ?_⟩
    simp_all only [imAll_ints]
    refine ⟨⟨_, rfl⟩, fIndex_of emb_int v2 fun j4 _ _ => ?_⟩
    simp_all only [imAll_ints]
    split
    · refine ⟨sl_lt (by rw [List.length_map]; omega), hF _ ⟨acc ++ [x], _, _, (by first | rfl | (simp [gD, pD] <;> repeat' (first | rfl | apply And.intro))), hs.append (List.Sublist.refl _)⟩⟩
    · exact hF _ ⟨acc, _, _, rfl, List.Sublist.trans hs (List.sublist_append_left _ _)⟩
  · rintro τ ⟨acc, y, z, rfl, hs⟩
    simp_all only [imAll_ints, im_pairs, List.length_map]
    exact h acc (gr_full hs)
end LW

set_option maxHeartbeats 1000000
namespace LW
open PySem PySem.Spec PyProof.Rows L2 TL
local macro_rules | `(tactic| simp_all only [$xs:simpLemma,*]) => `(tactic| (try simp only [$xs,*, sSeq, sNext, sIf, sRet, sRetN, sSet, sApp, sSetL, sFor, sDrop, sRaise, sTry, sPut, sNewK, sNewT, sBreak, sCont, sUnp, gT, gTru, fTru, gNot, gAndB, gOrB, gAndV, gOrV, gNotV, gIf, gCh, TL.gTup, TL.gLst, gSl, gNoP, gP, gCall, gIsi, fIsi, tyD, gFn, gDIn, gDGet, gSortT, TL.gCons, TL.gNil, gBin, gUn, fNeg, gC, gV, rdSl, asB, asI, fAdd, fMul, fI0, fI2, fLt, fMin2, fMax2, fLen, fTuple, fList, fInt, fSorted, fIx_l, fIx_t, isOw_fz, isOw_nw, isOw_res, ex_own, ex_dK, ex_dT, String.reduceBEq, Bool.or_false, Bool.or_self, Bool.and_false, Bool.false_and, Bool.true_or, Bool.or_true, Bool.false_or, fIsN, iSeq, itD, iRg, fRg1, fRg2, tN, tTupG, tsCons, tsNil, gYes, setSl, appSl, setAt, putSl, getSl, retOk_res, retOk_int, retOk_bool, retOk_str, retOk_non, retOk_nw, retOk_ow, retOk_tupT, retOk_tup, kb_fz, kb_nw, kb_ow, kb_res, no_fz, no_nw, no_res, res_int, res_bool, res_str, res_non, res_tup, res_lst, frOk, TL.allB, ent, frzA, List.map_cons, List.map_nil, List.getElem?_cons_zero, List.getElem?_cons_succ, List.set_cons_zero, List.set_cons_succ, decide_eq_true_eq, Bool.and_true, Bool.true_and, Bool.and_self, true_and, and_true, List.cons_append, List.nil_append, List.append_nil, List.length_cons, List.length_nil, Bool.false_eq_true, Bool.not_true, Bool.not_false, reduceIte, true_or, or_true, false_or, or_false, false_and, and_false, List.replicate_succ, List.replicate_zero, reduceCtorEq, ne_eq, not_false_eq_true, implies_true, Bool.not_eq_true', decide_eq_false_iff_not, decide_true, decide_false, Nat.reduceAdd, Nat.reduceSub, Nat.reduceLT, Nat.reduceLeDiff, gLc, gLc2, wipeT, im, fMM, fLR, gIndex, sAppPop, sSetPop, sSetPop0, sMB, gMB, sSetMB, sLcPop, Bool.false_bne, Bool.false_xor, Bool.true_xor, fEq_ii, fEq_bb, fEq_ss, fEq_ll, fEq_tt, fNe_ii, fNe_bb, fNe_ss, fNe_ll, fNe_tt, fIn_l, fIn_t, fSl_l, fSl_t, cut1, fSrt, fMinD, gNotT, frOk_fz, allB_fzt, fst_fz, len_fz, sFrz, frzT, sExt, extSl, sRem, remSl, sAugI, sAug, gStar, starD, gTupS, gLstS, iEn, iEn2, itE, sDc, dcL, gDead, sTryAs, gIsE, sIns, insSl, sRev, sPopX, iRg3, fRg3, iZp, zipD, sNew1, gSortK, gCh3, toKey, getSl, iDs, im_pD, im_tI, im.imAll, im_pairs, imAll_ints, atQ0, atQ1, atQ2, atQ3, gD, popSl, sAppPop, sRetO, gFnO]))
theorem r__law_ordered_graph : ∀ (ds : List D) (Qt : D → Prop) (Et : WQ), ds.length = 1 → S__law_ordered_graph ds Qt Et → t__law_ordered_graph { nx := fun _ => Qt .none, rt := fun d _ => Qt d } (fun nm _ => Et nm) (ent true 7 ds) := by
  rintro ds Qt Et - ⟨n, rfl, h0, h1, h⟩
  simp_all only [t__law_ordered_graph]
  have hl : (List.map PyData.int (rg 0 n)).length = n.toNat := by rw [List.length_map, rg_len]; omega
  refine ⟨by omega, by omega, sl_le (by omega), fun d hd => ?_, ?_⟩
  · obtain ⟨u, hu, rfl⟩ := List.mem_map.mp hd
    simp_all only [g__law_ordered_graph_2, e__law_ordered_graph_2]
    refine ⟨by omega, by omega, sl_le (by omega), lcL_rel PyData.bool (fun _ _ => True) (fun v hv Ry hy => ?_) fun ys hys => ?_⟩
    · simp_all only [g__law_ordered_graph_1, e__law_ordered_graph_1]
      split
      · refine ⟨3, rfl, by decide, by decide, fun r r0 r1 => ?_⟩
        simp_all only [true_and]
        exact hy _ trivial _ trivial rfl
      · exact hy _ trivial _ trivial rfl
    · simp_all only [true_and]
      exact ⟨ys, rfl, by rw [← hys.len, hl, rg_len]; omega⟩
  rw [hl]
  have en : ((n.toNat : Nat) : Int) = n := by omega
  refine ⟨by omega, by omega, ?_⟩
  refine forL_inv (fun done τ => ∃ (a b c d : Option Sl), τ = [none, some (.fz (.int (n)) false), some (.reg (mbOk n.toNat)), a, b, c, d]) ⟨_, _, _, _, rfl⟩ ?_ ?_
  · rintro done w rest e _ ⟨a, b, c, d, rfl⟩ F hF
    have hw := mem_rg.mp (show w ∈ rg 0 n by rw [e]; simp)
    simp_all only [g__law_ordered_graph_5, w__law_ordered_graph_5]
    refine ⟨by omega, by omega, ?_⟩
    refine forL_inv (fun done τ => ∃ (a b d : Option Sl), τ = [none, some (.fz (.int (n)) false), some (.reg (mbOk n.toNat)), a, b, some (.fz (.int (w)) true), d]) ⟨_, _, _, rfl⟩ ?_ ?_
    · rintro done u rest e _ ⟨a, b, d, rfl⟩ F hF
      have hu := mem_rg.mp (show u ∈ rg 0 n by rw [e]; simp)
      simp_all only [g__law_ordered_graph_4, w__law_ordered_graph_4]
      refine ⟨by omega, by omega, ?_⟩
      refine forL_inv (fun done τ => ∃ (a d : Option Sl), τ = [none, some (.fz (.int (n)) false), some (.reg (mbOk n.toNat)), a, some (.fz (.int (u)) true), some (.fz (.int (w)) true), d]) ⟨_, _, rfl⟩ ?_ ?_
      · rintro done v rest e _ ⟨a, d, rfl⟩ F hF
        have hv := mem_rg.mp (show v ∈ rg 0 n by rw [e]; simp)
        have fin : ∃ n_1, some (some (Sl.reg (mbOk n.toNat))) = some (some (Sl.reg (mbOk n_1))) ∧ (((∃ i : Int, PyData.int u = .int i ∧ 0 ≤ i ∧ i < (n_1 : Nat)) ∧ (∃ j : Int, PyData.int v = .int j ∧ 0 ≤ j ∧ j < (n_1 : Nat)))) ∧ n_1 = n.toNat := ⟨n.toNat, rfl, ⟨⟨u, rfl, by omega, by omega⟩, ⟨v, rfl, by omega, by omega⟩⟩, rfl⟩
        simp_all only [g__law_ordered_graph_3, w__law_ordered_graph_3]
        refine ⟨n.toNat, rfl, ⟨n.toNat, rfl, ⟨u, rfl, by omega, by omega⟩, ⟨v, rfl, by omega, by omega⟩, fun b1 => ?_⟩⟩
        have store : ((∃ b : Bool, PyData.bool b1 = .bool b) ∧ (∃ i : Int, PyData.int u = .int i ∧ 0 ≤ i ∧ i < (n.toNat : Nat)) ∧ (∃ j : Int, PyData.int v = .int j ∧ 0 ≤ j ∧ j < (n.toNat : Nat)) ∧ F [none, some (.fz (.int (n)) false), some (.reg (mbOk n.toNat)), some (.fz (.int (v)) true), some (.fz (.int (u)) true), some (.fz (.int (w)) true), d]) := ⟨⟨_, rfl⟩, ⟨u, rfl, by omega, by omega⟩, ⟨v, rfl, by omega, by omega⟩, hF _ ⟨_, _, rfl⟩⟩
        simp_all only [true_and]
        split
        · exact ⟨⟨_, rfl⟩, store.2⟩
        · refine ⟨n.toNat, rfl, ⟨u, rfl, by omega, by omega⟩, ⟨w, rfl, by omega, by omega⟩, fun b2 => ?_⟩
          simp_all only [true_and]
          split
          · refine ⟨n.toNat, rfl, ⟨w, rfl, by omega, by omega⟩, ⟨v, rfl, by omega, by omega⟩, fun b3 => ?_⟩
            simp_all only [true_and]
            exact ⟨⟨_, rfl⟩, store.2⟩
          · exact ⟨⟨_, rfl⟩, store.2⟩
      · rintro τ ⟨a, d, rfl⟩
        exact hF _ ⟨_, _, _, rfl⟩
    · rintro τ ⟨a, b, d, rfl⟩
      exact hF _ ⟨_, _, _, _, rfl⟩
  · rintro τ ⟨a, b, c, d, rfl⟩
    simp_all only [true_and]
    refine ⟨n, rfl, h0, by omega, ?_⟩
    simp_all only [true_and]
    refine ⟨sl_le (by rw [List.length_map]; have := fullE_len1 (n := n) (by omega); omega), ?_⟩
    refine lcL_any pD (fun p hp Rn Ry hn hy => ?_) fun ys hy => ?_
    · have hp := full_mem.mp hp
      simp_all only [g__law_ordered_graph_6, c__law_ordered_graph_6, e__law_ordered_graph_6, pD]
      refine ⟨n.toNat, rfl, ⟨p.1, rfl, by omega, by omega⟩, ⟨p.2, rfl, by omega, by omega⟩, fun b => ?_⟩
      simp_all only [true_and]
      split
      · exact hy _ trivial rfl
      · exact hn
    · simp_all only [true_and]
      exact h ys (gr_full hy)
def cD (l : List Int) : D := .list (l.map PyData.int)
theorem im_cD (l : List Int) : im (cD l) = false := rfl
theorem r__law_clique_graph : ∀ (ds : List D) (Qt : D → Prop) (Et : WQ), ds.length = 1 → S__law_clique_graph ds Qt Et → t__law_clique_graph { nx := fun _ => Qt .none, rt := fun d _ => Qt d } (fun nm _ => Et nm) (ent true 8 ds) := by
  rintro ds Qt Et - ⟨n, rfl, h0, h1, h⟩
  simp_all only [t__law_clique_graph]
  refine ⟨by omega, by omega, ?_⟩
  refine forL_inv (fun done τ => ∃ (cl : List (List Int)) (ps : List (Int × Int)) (a b c d : Option Sl), τ = [none, some (.fz (.int (n)) false), some (.own (cl.map cD) true), some (.own (List.map pD (ps)) true), a, b, c, d] ∧ cl.length = done.length + 1 ∧ (∀ l ∈ cl, l.length ≤ done.length ∧ l.Nodup ∧ ∀ u ∈ l, 0 ≤ u ∧ u < (done.length : Nat)) ∧ ps.length ≤ done.length * 60 ∧ ps.Nodup ∧ ∀ p ∈ ps, 0 ≤ p.1 ∧ p.1 < p.2 ∧ p.2 < (done.length : Nat))
    ⟨[[]], [], none, none, none, none, rfl, rfl, fun l hl => by rw [List.mem_singleton.mp hl]; simp, by simp, List.nodup_nil, fun p hp => by simp at hp⟩ ?_ ?_
  · rintro done v rest e _ ⟨cl, ps, a, b, c, d, rfl, hcl, hc, hpl, hpn, hps⟩ F hF
    have hlen := congrArg List.length e
    rw [rg_len, List.length_append, List.length_cons] at hlen
    have ev : v = (done.length : Nat) := by
      have h2 : (rg 0 n)[done.length]? = some v := by rw [e]; simp
      unfold rg at h2
      rw [List.getElem?_map] at h2
      rw [List.getElem?_range (by omega)] at h2
      simpa using h2.symm
    simp_all only [g__law_clique_graph_3, w__law_clique_graph_3, List.length_map]
    refine ⟨_, rfl, by omega, by omega, fun r r0 r1 => ?_⟩
    simp_all only [true_and]
    refine atQ_map r0 r1 fun base hb => ?_
    obtain ⟨b1, b2, b3⟩ := hc base (List.mem_of_getElem? hb)
    simp_all only [cD, List.length_map]
    refine ⟨sl_le (by omega), ?_⟩
    refine lcL_any PyData.int (fun u hu Rn Ry hn hy => ?_) fun kept hk => ?_
    · simp_all only [g__law_clique_graph_1, c__law_clique_graph_1, e__law_clique_graph_1]
      refine ⟨4, rfl, by decide, by decide, fun r r0 r1 => ?_⟩
      simp_all only [true_and]
      split
      · exact hy _ trivial rfl
      · exact hn
    have k1 := hk.length_le
    have k2 : kept.Nodup := List.Pairwise.sublist hk b2
    have k3 : ∀ u ∈ kept, 0 ≤ u ∧ u < (done.length : Nat) := fun u hu => b3 u (hk.mem hu)
    simp_all only [List.length_map]
    refine ⟨sl_le (by omega), ?_⟩
    refine lcL_map (f := fun u : Int => pD (u, v)) (fun u hu Ry hy => ?_) ?_
    · simp_all only [g__law_clique_graph_2, e__law_clique_graph_2]
      exact hy _ trivial rfl
    simp_all only [List.length_map]
    refine ⟨sl_le (by omega), sl_le (by omega), sl_lt (by omega), hF _ ⟨cl ++ [kept ++ [v]], ps ++ kept.map fun u => (u, v), _, _, _, _, (by first | rfl | (simp [gD, cD, Function.comp_def] <;> repeat' (first | rfl | apply And.intro))), by simp [hcl], fun l hl => ?_, ?_, ?_, fun p hp => ?_⟩⟩
    · rcases List.mem_append.mp hl with hl | hl
      · obtain ⟨c1, c2, c3⟩ := hc l hl
        exact ⟨by simp; omega, c2, fun u hu => by have := c3 u hu; simp; omega⟩
      · rw [List.mem_singleton.mp hl]
        refine ⟨by simp; omega, ?_, fun u hu => ?_⟩
        · rw [List.nodup_append]
          refine ⟨k2, by simp, fun x hx y hy => ?_⟩
          rw [List.mem_singleton.mp hy]
          have := k3 x hx
          omega
        · rcases List.mem_append.mp hu with hu | hu
          · have := k3 u hu; simp; omega
          · rw [List.mem_singleton.mp hu]; simp; omega
    · simp only [List.length_append, List.length_map, List.length_singleton]; omega
    · rw [List.nodup_append]
      refine ⟨hpn, ?_, fun x hx y hy e => ?_⟩
      · unfold List.Nodup
        rw [List.pairwise_map]
        exact k2.imp fun h e => h (congrArg Prod.fst e)
      · obtain ⟨u, _, rfl⟩ := List.mem_map.mp hy
        have := hps x hx
        rw [e] at this
        simp at this; omega
    · rcases List.mem_append.mp hp with hp | hp
      · have := hps p hp; simp; omega
      · obtain ⟨u, hu, rfl⟩ := List.mem_map.mp hp
        have := k3 u hu
        simp; omega
  · rintro τ ⟨cl, ps, a, b, c, d, rfl, hcl, hc, hpl, hpn, hps⟩
    simp_all only [im_pairs]
    refine ⟨sok_pairs ps, ?_⟩
    rw [emb_pair.map_sort]
    simp_all only [im_pairs]
    refine h _ ⟨emb_pair.asc hpn, fun p hp => ?_⟩
    have := hps p (emb_pair.mem.mp hp)
    rw [rg_len] at this
    omega
theorem ds_map : ∀ ts : List Tr, Tr.ds ts = ts.map Tr.d
  | [] => rfl
  | t :: ts => by rw [Tr.ds, ds_map ts]; rfl
theorem lvs_append : ∀ ts us : List Tr, Tr.lvs (ts ++ us) = Tr.lvs ts ++ Tr.lvs us
  | [], us => rfl
  | t :: ts, us => by
    show t.lv ++ Tr.lvs (ts ++ us) = (t.lv ++ Tr.lvs ts) ++ Tr.lvs us
    rw [lvs_append ts us, List.append_assoc]
theorem deps_append : ∀ ts us : List Tr, Tr.deps (ts ++ us) = max (Tr.deps ts) (Tr.deps us)
  | [], us => by simp [Tr.deps]
  | t :: ts, us => by
    show max t.dep (Tr.deps (ts ++ us)) = max (max t.dep (Tr.deps ts)) (Tr.deps us)
    rw [deps_append ts us]; omega
theorem lvs_perm {ts us : List Tr} (h : ts.Perm us) : (Tr.lvs ts).Perm (Tr.lvs us) := by
  induction h with
  | nil => exact .refl _
  | cons x _ ih => exact List.Perm.append_left _ ih
  | swap x y l =>
    show (y.lv ++ (x.lv ++ Tr.lvs l)).Perm (x.lv ++ (y.lv ++ Tr.lvs l))
    rw [← List.append_assoc, ← List.append_assoc]
    exact List.Perm.append_right _ List.perm_append_comm
  | trans _ _ h1 h2 => exact h1.trans h2
theorem deps_perm {ts us : List Tr} (h : ts.Perm us) : Tr.deps ts = Tr.deps us := by
  induction h with
  | nil => rfl
  | cons x _ ih => show max _ _ = max _ _; rw [ih]
  | swap x y l => show max _ (max _ _) = max _ (max _ _); omega
  | trans _ _ h1 h2 => exact h1.trans h2
theorem lvs_leaves (is : List Int) : Tr.lvs (is.map Tr.leaf) = is := by
  induction is with
  | nil => rfl
  | cons i is ih => show [i] ++ Tr.lvs (is.map Tr.leaf) = i :: is; rw [ih]; rfl
theorem deps_leaves (is : List Int) : Tr.deps (is.map Tr.leaf) = 0 := by
  induction is with
  | nil => rfl
  | cons i is ih => show max 0 (Tr.deps (is.map Tr.leaf)) = 0; rw [ih]; rfl
theorem lp_pops {x : Option Sl} {F : Slots → List D → Bool → Prop} {a : Sl} {y : Option Sl} {o5 : Option Sl} : ∀ (ks : List Int) (ts got : List Tr) (z : Option Sl), ks.length ≤ ts.length → ts.length ≤ 60 →
    (∀ (got' ts' : List Tr) (z : Option Sl), (got' ++ ts').Perm (got ++ ts) → got'.length = got.length + ks.length → F [none, some a, some (.own (ts'.map Tr.d) true), x, y, o5, z] (got'.map Tr.d) true) →
    lcP g__law_drawn_tree_1 e__law_drawn_tree_1 2 [6] true F (ks.map PyData.int) [none, some a, some (.own (ts.map Tr.d) true), x, y, o5, z] (got.map Tr.d) true := by
  intro ks
  induction ks with
  | nil => intro ts got z _ _ h; exact h got ts z (.refl _) rfl
  | cons k ks ih =>
    intro ts got z hl h60 h
    rw [List.length_cons] at hl
    simp only [List.map_cons, lcP]
    generalize hF : lcP g__law_drawn_tree_1 e__law_drawn_tree_1 2 [6] true F (List.map PyData.int ks) = L at ih ⊢
    simp_all only [g__law_drawn_tree_1, e__law_drawn_tree_1, List.length_map]
    refine ⟨_, rfl, by omega, by omega, fun r r0 r1 => ?_⟩
    simp_all only [List.length_map]
    have hr : r.toNat < ts.length := by omega
    refine ⟨r0, r1, sl_le (by omega), (ts[r.toNat]).d, by rw [List.getElem?_map, List.getElem?_eq_getElem hr]; rfl, ?_⟩
    have q := ih (ts.eraseIdx r.toNat) (got ++ [ts[r.toNat]]) z (by rw [List.length_eraseIdx_of_lt hr]; omega) (by rw [List.length_eraseIdx_of_lt hr]; omega) fun got' ts' z' hp hg => h got' ts' z' (hp.trans ?_) (by rw [hg]; simp; omega)
    · simpa [emap] using q
    · rw [List.append_assoc]
      exact List.Perm.append_left _ (pick_perm hr)
theorem r__law_drawn_tree : ∀ (ds : List D) (Qt : D → Prop) (Et : WQ), ds.length = 1 → S__law_drawn_tree ds Qt Et → t__law_drawn_tree { nx := fun _ => Qt .none, rt := fun d _ => Qt d } (fun nm _ => Et nm) (ent true 7 ds) := by
  rintro ds Qt Et - ⟨is, rfl, hl0, hl, h⟩
  simp_all only [t__law_drawn_tree, iDs, List.length_map, imAll_ints]
  refine ⟨by omega, by omega, ?_⟩
  refine forL_inv (fun done τ => ∃ (ts : List Tr) (a b c d : Option Sl), τ = [none, some (.fz (.list (is.map PyData.int)) false), some (.own (ts.map Tr.d) true), a, b, c, d] ∧ (Tr.lvs ts).Perm is ∧ Tr.deps ts + ts.length ≤ is.length ∧ 1 ≤ ts.length ∧ (ts.length = 1 ∨ ts.length + done.length ≤ is.length) ∧ Tr.wfs ts)
    ⟨is.map Tr.leaf, none, none, none, none, by simp [Function.comp_def, Tr.d], by rw [lvs_leaves], by rw [deps_leaves]; simp, by simpa using hl0, .inr (by simp), wfs_iff.mpr (by simp [Tr.wf])⟩ ?_ ?_
  · rintro done v rest e _ ⟨ts, a, b, c, d, rfl, hp, hd, h1, hc, hw⟩ F hF
    simp_all only [g__law_drawn_tree_2, w__law_drawn_tree_2, List.length_map]
    split
    · rename_i hgt
      have hgt : 1 < ts.length := by omega
      refine ⟨2, rfl, by decide, by decide, fun r r0 r1 => ?_⟩
      simp_all only [List.length_map]
      have hm : ∃ m : Nat, min (ts.length : Int) (2 + r) = (m : Nat) ∧ 2 ≤ m ∧ m ≤ ts.length := ⟨(min (ts.length : Int) (2 + r)).toNat, by omega, by omega, by omega⟩
      obtain ⟨m, em, m1, m2⟩ := hm
      rw [em]
      refine ⟨by omega, by omega, sl_le (by rw [rg_len]; omega), ?_⟩
      refine lp_pops (rg 0 (m : Nat)) ts [] d (by rw [rg_len]; omega) (by omega) fun got ts' z hp2 hg => ?_
      rw [rg_len] at hg
      simp only [List.nil_append, List.length_nil] at hp2 hg
      have hlen : got.length + ts'.length = ts.length := by rw [← List.length_append, hp2.length_eq]
      simp_all only [true_and]
      refine ⟨2, rfl, by decide, by decide, fun q q0 q1 => ?_⟩
      simp_all only [true_and]
      have fin : ∀ w : Str, (w = "union" ∨ w = "join") → ∀ fl, fl = true → F [none, some (.fz (.list (is.map PyData.int)) false), some (.own ((ts' ++ [Tr.node w got]).map Tr.d) fl), some (.fz (.int (v)) true), some (.fz (.int ((m : Nat))) true), some (.own (got.map Tr.d) true), z]   := fun w hw2 fl e => by
        subst e
        refine hF _ ⟨ts' ++ [Tr.node w got], _, _, _, _, rfl, ?_, ?_, by simp, .inr ?_, ?_⟩
        · rw [lvs_append]
          have e1 : Tr.lvs [Tr.node w got] = Tr.lvs got := by simp [Tr.lvs, Tr.lv]
          rw [e1]
          refine (List.perm_append_comm).trans ?_
          rw [← lvs_append]
          exact (lvs_perm hp2).trans hp
        · have e2 := deps_perm hp2
          rw [deps_append] at e2
          rw [deps_append]
          have e3 : Tr.deps [Tr.node w got] = Tr.deps got + 1 := by simp [Tr.deps, Tr.dep]
          rw [e3, List.length_append, List.length_singleton]
          omega
        · rw [List.length_append, List.length_append, List.length_singleton, List.length_singleton]
          omega
        · have hall := wfs_iff.mp hw
          refine wfs_iff.mpr fun t ht => ?_
          rcases List.mem_append.mp ht with h' | h'
          · exact hall t (hp2.mem_iff.mp (by simp [h']))
          · rw [List.mem_singleton] at h'
            subst h'
            exact ⟨hw2, by omega, wfs_iff.mpr fun t ht => hall t (hp2.mem_iff.mp (by simp [ht]))⟩
      have pick : ∀ w : Str, .str w ∈ [PyData.str "union", PyData.str "join"] → True := fun _ _ => trivial
      have hq : q = 0 ∨ q = 1 := by omega
      rcases hq with rfl | rfl
      · simp_all only [List.length_map]
        refine ⟨sl_le (by omega), sl_lt (by omega), ?_⟩
        have z := fin "union" (.inl rfl) _ rfl
        simpa [Tr.d, ds_map] using z
      · simp_all only [List.length_map]
        refine ⟨sl_le (by omega), sl_lt (by omega), ?_⟩
        have z := fin "join" (.inr rfl) _ rfl
        simpa [Tr.d, ds_map] using z
    · rename_i hgt
      exact hF _ ⟨ts, _, _, _, _, rfl, hp, hd, h1, .inl (by omega), hw⟩
  · rintro τ ⟨ts, a, b, c, d, rfl, hp, hd, h1, hc, hw⟩
    rw [rg_len] at hc
    have : ts.length = 1 := by omega
    obtain ⟨t, rfl⟩ := List.length_eq_one_iff.mp this
    simp_all only [true_and]
    simp only [Tr.lvs, Tr.deps, List.append_nil, List.length_singleton] at hp hd
    exact ⟨by cases t <;> simp [retOk, Tr.d], h t (wfs_iff.mp hw t (by simp)) hp (by omega)⟩
theorem r__law_leaves (n : Nat) : ∀ (ds : List D) (Qt : D → Prop) (Et : WQ), ds.length = 1 → S__law_leaves (n + 1) ds Qt Et → t__law_leaves n { nx := fun _ => Qt .none, rt := fun d _ => Qt d } (fun nm _ => Et nm) (ent false 3 ds) := by
  rintro ds Qt Et - ⟨t, rfl, hd, hl, h⟩
  cases t with
  | leaf i =>
    simp_all only [t__law_leaves, Tr.d, tyD]
    exact h
  | node w ts =>
    obtain ⟨m, rfl⟩ : ∃ m, n = m + 1 := by
      cases n with
      | zero => simp [Tr.dep] at hd
      | succ m => exact ⟨m, rfl⟩
    simp_all only [t__law_leaves, Tr.d, tyD, cut1]
    rw [ds_map]
    simp only [Tr.lv] at hl h
    refine forL_inv (fun done τ => ∃ (y : Option Sl), τ = [some (.fz (Tr.d (.node w ts)) false), some (.own (List.map PyData.int (Tr.lvs done)) true), y]) ?_ ?_ ?_
    · exact ⟨none, by simp [Tr.lvs, Tr.d, ds_map]⟩
    · rintro done t rest e _ ⟨y, rfl⟩ F hF
      have hdt : t.dep ≤ m := by
        have := hd
        simp only [Tr.dep, e, deps_append, Tr.deps] at this; omega
      have hlt : (Tr.lvs done).length + t.lv.length ≤ 100 := by
        rw [e, lvs_append] at hl
        simp only [Tr.lvs, List.length_append] at hl; omega
      simp_all only [g__law_leaves_1, w__law_leaves_1]
      refine ⟨t, rfl, hdt, by omega, ?_⟩
      simp_all only [iDs, List.length_map]
      refine ⟨sl_le (by omega), hF _ ⟨_, (by first | rfl | (simp [gD, lvs_append, Tr.lvs] <;> repeat' (first | rfl | apply And.intro)))⟩⟩
    · rintro τ ⟨y, rfl⟩
      simp_all only [true_and]
      exact h
theorem tps_append (w : Str) : ∀ (ts us : List Tr) (before : List Int), Tr.tps w before (ts ++ us) = Tr.tps w before ts ++ Tr.tps w (before ++ Tr.lvs ts) us
  | [], us, before => by simp [Tr.tps, Tr.lvs]
  | t :: ts, us, before => by
    simp only [List.cons_append, Tr.tps, tps_append w ts us, Tr.lvs, List.append_assoc]
theorem tp_len : ∀ (t : Tr), t.tp.length ≤ t.lv.length * t.lv.length
  | .leaf _ => by simp [Tr.tp]
  | .node w ts => by
    have := tps_len w ts []
    simpa [Tr.tp, Tr.lv] using this
where
  tps_len (w : Str) : ∀ (ts : List Tr) (before : List Int), (Tr.tps w before ts).length ≤ (Tr.lvs ts).length * (before.length + (Tr.lvs ts).length)
  | [], before => by simp [Tr.tps]
  | t :: ts, before => by
    have h1 := tp_len t
    have h2 := tps_len w ts (before ++ t.lv)
    simp only [Tr.tps, Tr.lvs, List.length_append] at h2 ⊢
    have h3 : (if w = "join" then before.flatMap fun u => t.lv.map fun v => nrm (u, v) else []).length ≤ before.length * t.lv.length := by
      split
      · rw [List.length_flatMap]; simp only [List.length_map, sum_const]; exact Nat.le_refl _
      · simp
    generalize (if w = "join" then before.flatMap fun u => t.lv.map fun v => nrm (u, v) else []) = X at h3 ⊢
    generalize t.lv.length = a at *
    generalize (Tr.lvs ts).length = b at *
    generalize before.length = c at *
    simp only [Nat.add_mul, Nat.mul_add, Nat.mul_comm c a] at *
    omega
theorem r__law_tree_pairs (n : Nat) : ∀ (ds : List D) (Qt : D → Prop) (Et : WQ), ds.length = 1 → S__law_tree_pairs (n + 1) ds Qt Et → t__law_tree_pairs n { nx := fun _ => Qt .none, rt := fun d _ => Qt d } (fun nm _ => Et nm) (ent false 7 ds) := by
  rintro ds Qt Et - ⟨t, rfl, hd, hn, hl, h⟩
  cases t with
  | leaf i =>
    simp_all only [t__law_tree_pairs, Tr.d, tyD]
    exact h
  | node w ts =>
    obtain ⟨m, rfl⟩ : ∃ m, n = m + 1 := by
      cases n with
      | zero => simp [Tr.dep] at hd
      | succ m => exact ⟨m, rfl⟩
    simp_all only [t__law_tree_pairs, Tr.d, tyD, cut1]
    rw [ds_map]
    simp only [Tr.lv] at hl
    have htp : ∀ us vs, ts = us ++ vs → (Tr.tps w [] us).length ≤ 10000 := fun us vs e => by
      have a := tp_len.tps_len w us []
      have b : (Tr.lvs us).length ≤ 100 := by
        rw [e, lvs_append, List.length_append] at hl; omega
      have c : (Tr.lvs us).length * (([] : List Int).length + (Tr.lvs us).length) ≤ 100 * 100 := Nat.mul_le_mul b (by simpa using b)
      omega
    refine forL_inv (fun done τ => ∃ (a b c d : Option Sl), τ = [some (.fz (Tr.d (.node w ts)) false), some (.own (List.map pD (Tr.tps w [] done)) true), some (.own (List.map PyData.int (Tr.lvs done)) true), a, b, c, d]) ?_ ?_ ?_
    · exact ⟨none, none, none, none, by simp [Tr.lvs, Tr.tps, Tr.d, ds_map]⟩
    · rintro done t rest e _ ⟨a, b, c, d, rfl⟩ F hF
      have hdt : t.dep ≤ m := by
        have := hd
        simp only [Tr.dep, e, deps_append, Tr.deps] at this; omega
      have hlt : (Tr.lvs done).length + t.lv.length ≤ 100 := by
        rw [e, lvs_append] at hl
        simp only [Tr.lvs, List.length_append] at hl; omega
      have hb1 := htp done _ e
      have hb2 := htp (done ++ [t]) rest (by rw [e, List.append_assoc]; rfl)
      rw [tps_append] at hb2
      simp only [Tr.tps, List.nil_append, List.append_nil, List.length_append] at hb2
      simp_all only [g__law_tree_pairs_3, w__law_tree_pairs_3, Tr.d]
      refine ⟨t, rfl, hdt, by omega, by omega, ?_⟩
      simp_all only [List.length_map]
      have h11 : t.dep ≤ 11 := by omega
      refine ⟨sl_le (by omega), t, rfl, h11, by omega, ?_⟩
      simp_all only [iDs]
      by_cases hw : w = "join"
      · rw [if_pos hw]
        simp only [if_pos hw] at hb2
        refine forL_inv (fun us τ => ∃ (c d e : Option Sl), τ = [some (.fz (Tr.d (.node w ts)) false), some (.own (List.map pD (Tr.tps w [] done ++ t.tp ++ us.flatMap fun u => t.lv.map fun v => nrm (u, v))) true), some (.fz (.list ((Tr.lvs done).map PyData.int)) true), e, some (.own (List.map PyData.int (t.lv)) true), c, d]) ⟨_, _, _, (by first | rfl | (simp [gD, Tr.d, ds_map] <;> repeat' (first | rfl | apply And.intro)))⟩ ?_ ?_
        · rintro us u rest' e' _ ⟨c, d, e2, rfl⟩ F' hF'
          simp_all only [g__law_tree_pairs_2, w__law_tree_pairs_2, List.length_map]
          refine ⟨sl_le (by omega), ?_⟩
          refine lcL_map (f := fun v : Int => pD (nrm (u, v))) (fun v hv Ry hy => ?_) ?_
          · simp_all only [g__law_tree_pairs_1, e__law_tree_pairs_1]
            exact hy _ trivial rfl
          simp_all only [List.length_map]
          refine ⟨sl_le ?_, hF' _ ⟨_, _, _, (by first | rfl | (simp [gD, Function.comp_def] <;> repeat' (first | rfl | apply And.intro)))⟩⟩
          rw [e', List.flatMap_append, List.length_append] at hb2
          simp only [List.flatMap_cons, List.length_append, List.length_map] at hb2 ⊢
          omega
        · rintro τ ⟨c, d, e2, rfl⟩
          simp_all only [List.length_map]
          refine ⟨sl_le (by omega), hF _ ⟨_, _, _, _, (by first | rfl | (simp [gD, tps_append, Tr.tps, lvs_append, Tr.lvs, hw] <;> repeat' (first | rfl | apply And.intro)))⟩⟩
      · rw [if_neg hw]
        simp_all only [List.length_map]
        refine ⟨sl_le (by omega), hF _ ⟨_, _, _, _, (by first | rfl | (simp [gD, tps_append, Tr.tps, lvs_append, Tr.lvs, hw, Tr.d, ds_map] <;> repeat' (first | rfl | apply And.intro)))⟩⟩
    · rintro τ ⟨a, b, c, d, rfl⟩
      simp_all only [true_and]
      simp only [Tr.tp] at h
      exact h
theorem gr_nrm {n : Int} {es L : List (Int × Int)} (he : ∀ e ∈ es, 0 ≤ e.1 ∧ e.1 < n ∧ 0 ≤ e.2 ∧ e.2 < n ∧ e.1 ≠ e.2) (hs : Srt L) (hm : ∀ p, p ∈ L ↔ ∃ e ∈ es, nrm e = p) : Gr n L := ⟨hs, fun p hp => by
  obtain ⟨e, h1, rfl⟩ := (hm p).mp hp
  have := he e h1
  unfold nrm; simp only; omega⟩
theorem emod_ne {k m : Int} (h : 2 < m) (h0 : 0 ≤ k) (h1 : k < m) : 0 ≤ (k + 1) % m ∧ (k + 1) % m < m ∧ k ≠ (k + 1) % m := by
  refine ⟨Int.emod_nonneg _ (by omega), Int.emod_lt_of_pos _ (by omega), fun e => ?_⟩
  rcases Int.lt_or_le (k + 1) m with h2 | h2
  · rw [Int.emod_eq_of_lt (by omega) h2] at e; omega
  · have : k + 1 = m := by omega
    rw [this, Int.emod_self] at e; omega
theorem r__law_ringed : ∀ (ds : List D) (Qt : D → Prop) (Et : WQ), ds.length = 1 → S__law_ringed ds Qt Et → t__law_ringed { nx := fun _ => Qt .none, rt := fun d _ => Qt d } (fun nm _ => Et nm) (ent true 7 ds) := by
  rintro ds Qt Et - ⟨n, rfl, h0, h1, h⟩
  simp_all only [t__law_ringed]
  refine ⟨_, rfl, by omega, by omega, fun r r0 r1 => ?_⟩
  simp_all only [true_and]
  obtain ⟨m, em⟩ : ∃ m, m = n - r := ⟨_, rfl⟩
  rw [← em]
  have m1 : 1 ≤ m := by omega
  have m2 : m ≤ n := by omega
  refine ⟨by omega, by omega, sl_le (by rw [List.length_map, rg_len]; omega), ?_⟩
  refine lcL_filt (fun k : Int => 2 < m) (fun k => pD (k, (k + 1) % m)) (fun k hk Rn Ry hn hy => ?_) ?_
  · simp_all only [g__law_ringed_1, c__law_ringed_1, e__law_ringed_1]
    split
    · refine ⟨by omega, hy (by assumption) _ trivial rfl⟩
    · exact hn (by assumption)
  simp_all only [true_and]
  refine ⟨⟨by omega, by omega, by omega, by omega⟩, ?_⟩
  refine forL_inv (fun done τ => ∃ (ps : List (Int × Int)) (a b c : Option Sl), τ = [none, some (.fz (.int (n)) false), some (.fz (.int (m)) true), some (.own (List.map pD (ps)) true), a, b, c] ∧ ps.length ≤ 60 + 60 * done.length ∧ ∀ e ∈ ps, 0 ≤ e.1 ∧ e.1 < n ∧ 0 ≤ e.2 ∧ e.2 < n ∧ e.1 ≠ e.2)
    ⟨((rg 0 m).filter fun _ => decide (2 < m)).map fun k => (k, (k + 1) % m), _, _, _, (by first | rfl | (simp [gD, Function.comp_def] <;> repeat' (first | rfl | apply And.intro))), ?_, ?_⟩ ?_ ?_
  · have := List.length_filter_le (fun _ : Int => decide (2 < m)) (rg 0 m)
    rw [rg_len] at this
    simp only [List.length_map, List.length_nil]; omega
  · intro e he
    obtain ⟨k, hk, rfl⟩ := List.mem_map.mp he
    rw [List.mem_filter, mem_rg, decide_eq_true_eq] at hk
    have := emod_ne hk.2 hk.1.1 hk.1.2
    simp only; omega
  · rintro done v rest e _ ⟨ps, a, b, c, rfl, hl, hps⟩ F hF
    have hv := mem_rg.mp (show v ∈ rg m n by rw [e]; simp)
    have hlen := congrArg List.length e
    rw [rg_len, List.length_append, List.length_cons] at hlen
    simp_all only [g__law_ringed_3, w__law_ringed_3]
    refine ⟨by omega, by omega, sl_le (by rw [List.length_map, rg_len]; omega), ?_⟩
    refine lcL_any (fun u => pD (u, v)) (fun u hu Rn Ry hn hy => ?_) fun us hus => ?_
    · simp_all only [g__law_ringed_2, c__law_ringed_2, e__law_ringed_2]
      refine ⟨3, rfl, by decide, by decide, fun r r0 r1 => ?_⟩
      simp_all only [true_and]
      split
      · exact hy _ trivial rfl
      · exact hn
    have := hus.length_le
    rw [rg_len] at this
    simp_all only [List.length_map]
    refine ⟨sl_le (by omega), hF _ ⟨ps ++ us.map fun u => (u, v), _, _, _, (by first | rfl | (simp [gD, Function.comp_def] <;> repeat' (first | rfl | apply And.intro))), by simp; omega, fun e he => ?_⟩⟩
    rcases List.mem_append.mp he with he | he
    · exact hps e he
    · obtain ⟨u, hu, rfl⟩ := List.mem_map.mp he
      have := mem_rg.mp (hus.mem hu)
      simp only; omega
  · rintro τ ⟨ps, a, b, c, rfl, hl, hps⟩
    rw [rg_len] at hl
    simp_all only [true_and]
    refine ⟨n, ps, rfl, by omega, fun L hL hm => ?_⟩
    simp_all only [true_and]
    exact h L (gr_nrm hps hL hm)
theorem gr_len {n : Int} {L : List (Int × Int)} (h : Gr n L) (hn : n ≤ 100) : L.length ≤ 10000 := by
  have hs : L = (fullE n).filter fun p => decide (p ∈ L) := srt_uniq h.1 (List.Pairwise.sublist List.filter_sublist (full_srt n)) fun p => by
    rw [List.mem_filter, decide_eq_true_eq, full_mem]
    exact ⟨fun hp => ⟨by have := h.2 p hp; omega, hp⟩, fun hp => hp.2⟩
  rw [hs]
  exact Nat.le_trans (List.length_filter_le _ _) (fullE_len1 hn)
theorem last_moved {n : Int} {L : List (Int × Int)} {Q : D → Prop} {E : WQ} (n1 : 1 ≤ n) (n2 : n ≤ 60) (hg : Gr n L) (h : AnyG n Q) {js : List Int} (hp : js.Perm (rg 0 n)) : S__law_moved [gD n L, .list (iDs js)] Q E := by
  have hll := gr_len hg (by omega)
  have hlen := hp.length_eq
  rw [rg_len] at hlen
  refine ⟨n, L, js, .inl rfl, by omega, fun p hp' => ?_, fun L' hL hm => h L' ⟨hL, fun q hq => ?_⟩⟩
  · have := hg.2 p hp'; omega
  · obtain ⟨p, hp', rfl⟩ := (hm q).mp hq
    have hb := hg.2 p hp'
    have hnd : js.Nodup := hp.nodup_iff.mpr (asc_nodup emb_int rg_pair)
    have i1 : p.1.toNat < js.length := by omega
    have i2 : p.2.toNat < js.length := by omega
    have e1 : js.getD p.1.toNat 0 = js[p.1.toNat] := by simp [List.getD_eq_getElem?_getD, i1]
    have e2 : js.getD p.2.toNat 0 = js[p.2.toNat] := by simp [List.getD_eq_getElem?_getD, i2]
    have a1 := mem_rg.mp (hp.mem_iff.mp (List.getElem_mem i1))
    have a2 := mem_rg.mp (hp.mem_iff.mp (List.getElem_mem i2))
    have ne : js[p.1.toNat] ≠ js[p.2.toNat] := fun e => by
      have := nodup_inj hnd i1 i2 e
      omega
    rw [e1, e2]
    unfold nrm
    simp only
    omega
theorem gr_other {n : Int} {L : List (Int × Int)} : Gr n ((fullE n).filter fun p => decide (p ∉ L)) := gr_full List.filter_sublist
theorem tp_mem : ∀ (t : Tr), t.lv.Nodup → ∀ e ∈ t.tp, ∃ u ∈ t.lv, ∃ v ∈ t.lv, u ≠ v ∧ e = nrm (u, v)
  | .leaf _, _, e, he => by simp [Tr.tp] at he
  | .node w ts, hn, e, he => by
    have := tps_mem w ts [] (by simpa [Tr.lv] using hn) e (by simpa [Tr.tp] using he)
    simpa [Tr.lv] using this
where
  tps_mem (w : Str) : ∀ (ts : List Tr) (before : List Int), (before ++ Tr.lvs ts).Nodup → ∀ e ∈ Tr.tps w before ts, ∃ u ∈ before ++ Tr.lvs ts, ∃ v ∈ before ++ Tr.lvs ts, u ≠ v ∧ e = nrm (u, v)
  | [], before, _, e, he => by simp [Tr.tps] at he
  | t :: ts, before, hn, e, he => by
    simp only [Tr.tps, List.mem_append] at he
    simp only [Tr.lvs, List.nodup_append, List.mem_append] at hn
    obtain ⟨h1, ⟨h2, h3, h4⟩, h5⟩ := hn
    rcases he with (he | he) | he
    · obtain ⟨u, hu, v, hv, q⟩ := tp_mem t h2 e he
      exact ⟨u, by simp [Tr.lvs, hu], v, by simp [Tr.lvs, hv], q⟩
    · split at he
      · obtain ⟨u, hu, he⟩ := List.mem_flatMap.mp he
        obtain ⟨v, hv, rfl⟩ := List.mem_map.mp he
        exact ⟨u, by simp [hu], v, by simp [Tr.lvs, hv], h5 u hu v (.inl hv), rfl⟩
      · simp at he
    · obtain ⟨u, hu, v, hv, q⟩ := tps_mem w ts (before ++ t.lv) (by
        rw [List.nodup_append, List.nodup_append]
        refine ⟨⟨h1, h2, fun a ha b hb => h5 a ha b (.inl hb)⟩, h3, fun a ha b hb => ?_⟩
        rcases List.mem_append.mp ha with ha | ha
        · exact h5 a ha b (.inr hb)
        · exact h4 a ha b hb) e he
      exact ⟨u, by simpa [Tr.lvs] using hu, v, by simpa [Tr.lvs] using hv, q⟩
theorem gr_tree {n : Int} {t : Tr} {L : List (Int × Int)} (hp : t.lv.Perm (rg 0 n)) (hs : Srt L) (hm : ∀ p, p ∈ L ↔ ∃ e ∈ t.tp, nrm e = p) : Gr n L := by
  refine gr_nrm (es := t.tp) (fun e he => ?_) hs hm
  obtain ⟨u, hu, v, hv, ne, rfl⟩ := tp_mem t (hp.nodup_iff.mpr (asc_nodup emb_int rg_pair)) e he
  have a := mem_rg.mp (hp.mem_iff.mp hu)
  have b := mem_rg.mp (hp.mem_iff.mp hv)
  unfold nrm; simp only; omega
theorem r__law_graph : ∀ (ds : List D) (Qt : D → Prop) (Et : WQ), ds.length = 1 → S__law_graph ds Qt Et → t__law_graph { nx := fun _ => Qt .none, rt := fun d _ => Qt d } (fun nm _ => Et nm) (ent true 5 ds) := by
  rintro ds Qt Et - ⟨m, rfl, m1, m2, h⟩
  have fin : ∀ (w n : Int) (L : List (Int × Int)) (k : Int), 1 ≤ n → n ≤ m → Gr n L → z__law_graph_2 { nx := fun _ => Qt .none, rt := fun d _ => Qt d } (fun nm _ => Et nm) [none, some (.fz (.int (m)) false), some (.fz (.int (w)) true), some (.fz (.int (k)) true), some (.fz (gD n L) true)] := fun w n L k n1 n2 hg => by
    simp_all only [z__law_graph_2]
    refine ⟨3, rfl, by decide, by decide, fun r r0 r1 => ?_⟩
    simp_all only [true_and]
    split
    · refine ⟨by omega, by omega, rg 0 n, rfl, by rw [rg_len]; omega, fun js hp => ?_⟩
      simp_all only [true_and]
      refine last_moved n1 (by omega) hg (fun L' hL' => ?_) hp
      simp_all only [z__law_graph_1]
      exact h n n1 n2 L' hL'
    · simp_all only [z__law_graph_1]
      exact h n n1 n2 L hg
  have key : ∀ (w n : Int) (L : List (Int × Int)) (k : Int), 1 ≤ n → n ≤ m → Gr n L → z__law_graph_3 { nx := fun _ => Qt .none, rt := fun d _ => Qt d } (fun nm _ => Et nm) [none, some (.fz (.int (m)) false), some (.fz (.int (w)) true), some (.fz (.int (k)) true), some (.fz (gD n L) true)] := fun w n L k n1 n2 hg => by
    have hll := gr_len hg (by omega)
    simp_all only [z__law_graph_3]
    refine ⟨4, rfl, by decide, by decide, fun r r0 r1 => ?_⟩
    simp_all only [true_and]
    split
    · refine ⟨n, L, rfl, by omega, by omega, by omega, ?_⟩
      simp_all only [true_and]
      exact fin _ n _ _ n1 n2 gr_other
    · exact fin _ n L _ n1 n2 hg
  simp_all only [t__law_graph]
  refine ⟨14, rfl, by decide, by decide, fun w w0 w1 => ?_⟩
  simp_all only [true_and]
  refine ⟨m, rfl, by omega, by omega, fun r1 p1 q1 => ?_⟩
  simp_all only [true_and]
  refine ⟨3, rfl, by decide, by decide, fun r2 p2 q2 => ?_⟩
  simp_all only [true_and]
  refine atQ_ints (ns := [m, 1 + r1]) (P := fun n => 1 ≤ n ∧ n ≤ m) rfl (by split <;> decide) (by simp only [List.length_cons, List.length_nil]; split <;> decide) (by simp only [List.mem_cons, List.mem_nil_iff, or_false]; rintro j (rfl | rfl) <;> omega) fun n hn => ?_
  obtain ⟨n1, n2⟩ := hn
  simp_all only [true_and]
  split
  · refine ⟨n, rfl, by omega, by omega, fun rs hr => ?_⟩
    simp_all only [true_and]
    refine ⟨rs, rfl, by omega, fun L hL => ?_⟩
    simp_all only [true_and]
    rw [hr] at hL ⊢
    exact key _ n L _ n1 n2 hL
  split
  · refine ⟨by omega, by omega, by omega, by omega, rg 0 n, rfl, by rw [rg_len]; omega, fun js hp => ?_⟩
    simp_all only [true_and]
    have hlen := hp.length_eq
    rw [rg_len] at hlen
    refine ⟨rg 0 n, js, rfl, by rw [rg_len]; omega, by omega, fun u u0 u1 => ?_, fun L hL => ?_⟩
    · rw [rg_len] at u1
      have : u ∈ rg 0 n := mem_rg.mpr (by omega)
      exact ⟨this, hp.mem_iff.mpr this⟩
    · simp_all only [true_and]
      have e : (((rg 0 n).length : Nat) : Int) = n := by rw [rg_len]; omega
      rw [e] at hL ⊢
      exact key _ n L _ n1 n2 hL
  split
  · refine ⟨n, rfl, by omega, by omega, fun L hL => ?_⟩
    simp_all only [true_and]
    exact key _ n L _ n1 n2 hL
  split
  · refine ⟨n, rfl, by omega, by omega, fun L hL => ?_⟩
    simp_all only [true_and]
    exact key _ n L _ n1 n2 hL
  split
  · refine ⟨by omega, by omega, rg 0 n, rfl, by rw [rg_len]; omega, by rw [rg_len]; omega, fun t _ ht hd => ?_⟩
    simp_all only [true_and]
    have hlen := ht.length_eq
    rw [rg_len] at hlen hd
    have h11 : t.dep ≤ 11 := by omega
    refine ⟨t, rfl, h11, by decide, by omega, ?_⟩
    simp_all only [true_and]
    have htp := tp_len t
    have htp2 : t.lv.length * t.lv.length ≤ 60 * 60 := Nat.mul_le_mul (by omega) (by omega)
    refine ⟨n, t.tp, rfl, by omega, fun L hL hm => ?_⟩
    simp_all only [true_and]
    exact key _ n L _ n1 n2 (gr_tree ht hL hm)
  split
  · refine ⟨n, rfl, by omega, by omega, fun L hL => ?_⟩
    simp_all only [true_and]
    exact key _ n L _ n1 n2 hL
  split
  · refine ⟨n, rfl, by omega, by omega, fun L hL => ?_⟩
    simp_all only [true_and]
    have := gr_len hL (by omega)
    refine ⟨n, L, rfl, by omega, by omega, by omega, ?_⟩
    simp_all only [true_and]
    exact key _ n _ _ n1 n2 gr_other
  · refine ⟨m, rfl, by omega, by omega, fun n' a b L hL => ?_⟩
    simp_all only [true_and]
    exact key _ n' L _ a b hL
end LW

set_option maxHeartbeats 4000000
namespace TL
open PySem PySem.Spec PyProof.Rows L2
/-! ### the number of different ints -/
def nub : List Int → List Int
  | [] => []
  | x :: xs => if x ∈ xs then nub xs else x :: nub xs
theorem mem_nub {x : Int} : ∀ {xs : List Int}, x ∈ nub xs ↔ x ∈ xs
  | [] => Iff.rfl
  | y :: ys => by
    unfold nub
    split
    · rename_i h
      rw [mem_nub, List.mem_cons]
      exact ⟨.inr, fun q => q.elim (fun e => e ▸ h) id⟩
    · rw [List.mem_cons, List.mem_cons, mem_nub]
theorem nub_nodup : ∀ xs : List Int, (nub xs).Nodup
  | [] => List.nodup_nil
  | y :: ys => by
    unfold nub
    split
    · exact nub_nodup ys
    · rename_i h
      exact List.nodup_cons.mpr ⟨fun q => h (mem_nub.mp q), nub_nodup ys⟩
theorem nub_len_le : ∀ xs : List Int, (nub xs).length ≤ xs.length
  | [] => Nat.le_refl _
  | y :: ys => by
    unfold nub
    have := nub_len_le ys
    split
    · simp only [List.length_cons]; omega
    · simp only [List.length_cons]; omega
theorem nub_len_eq : ∀ {xs : List Int}, (nub xs).length = xs.length ↔ xs.Nodup
  | [] => ⟨fun _ => List.nodup_nil, fun _ => rfl⟩
  | y :: ys => by
    unfold nub
    have := nub_len_le ys
    split
    · rename_i h
      refine ⟨fun e => ?_, fun n => absurd h (List.nodup_cons.mp n).1⟩
      simp only [List.length_cons] at e
      omega
    · rename_i h
      rw [List.nodup_cons, List.length_cons, List.length_cons, Nat.add_right_cancel_iff, nub_len_eq]
      exact ⟨fun n => ⟨h, n⟩, fun n => n.2⟩
theorem len_le_of_sub {α : Type} [DecidableEq α] : ∀ {l m : List α}, l.Nodup → (∀ x ∈ l, x ∈ m) → l.length ≤ m.length
  | [], m, _, _ => Nat.zero_le _
  | x :: l, m, n, h => by
    obtain ⟨n1, n2⟩ := List.nodup_cons.mp n
    have hx : x ∈ m := h x List.mem_cons_self
    have := len_le_of_sub (l := l) (m := m.erase x) n2 fun y hy => (List.mem_erase_of_ne (a := y) (b := x) (fun e => n1 (by rw [← e]; exact hy))).mpr (h y (List.mem_cons_of_mem _ hy))
    rw [List.length_erase_of_mem hx] at this
    have hp : 0 < m.length := List.length_pos_of_mem hx
    simp only [List.length_cons]
    omega
theorem len_of_same {l m : List Int} (hl : l.Nodup) (hm : m.Nodup) (h : ∀ x, x ∈ l ↔ x ∈ m) : l.length = m.length :=
  Nat.le_antisymm (len_le_of_sub hl fun x q => (h x).mp q) (len_le_of_sub hm fun x q => (h x).mpr q)
theorem fold_met (ns : List Int) : ∀ i, i ≤ ns.length → PyProof.Rows.firstMet (fun i => ns.getD i 0) i = (ns.take i).foldl (fun l x => if l.any (· == x) then l else l ++ [x]) []
  | 0, _ => rfl
  | i + 1, h => by
    rw [PyProof.Rows.firstMet_succ, fold_met ns i (by omega), List.take_add_one, List.foldl_append]
    have e : ns[i]? = some (ns.getD i 0) := by
      rw [List.getD_eq_getElem?_getD, List.getElem?_eq_getElem (by omega)]; rfl
    rw [e]
    rfl
theorem met_fold : ∀ (ns acc : List Int), acc.Nodup → (ns.foldl (fun l x => if l.any (· == x) then l else l ++ [x]) acc).Nodup ∧ ∀ x, x ∈ ns.foldl (fun l x => if l.any (· == x) then l else l ++ [x]) acc ↔ x ∈ acc ∨ x ∈ ns
  | [], acc, h => ⟨h, fun x => by simp⟩
  | y :: ys, acc, h => by
    rw [List.foldl_cons]
    by_cases hy : y ∈ acc
    · have e : (if acc.any (· == y) then acc else acc ++ [y]) = acc := if_pos (List.any_eq_true.mpr ⟨y, hy, by simp⟩)
      rw [e]
      obtain ⟨a, b⟩ := met_fold ys acc h
      refine ⟨a, fun x => (b x).trans ?_⟩
      rw [List.mem_cons]
      exact ⟨fun q => q.elim .inl fun q => .inr (.inr q), fun q => q.elim .inl fun q => q.elim (fun e => .inl (e ▸ hy)) .inr⟩
    · have e : (if acc.any (· == y) then acc else acc ++ [y]) = acc ++ [y] := if_neg fun q => by
        obtain ⟨z, hz, ez⟩ := List.any_eq_true.mp q
        exact hy (eq_of_beq ez ▸ hz)
      rw [e]
      obtain ⟨a, b⟩ := met_fold ys (acc ++ [y]) (List.nodup_append.mpr ⟨h, by simp, fun p hp q hq e2 => hy (by rw [← List.mem_singleton.mp hq, ← e2]; exact hp)⟩)
      refine ⟨a, fun x => (b x).trans ?_⟩
      simp [List.mem_append, or_assoc]
/-- len(set(xs)), xs a list or a tuple of ints -/
def tLenSetN (K : PySem.W.Frag) (ta : TE) : TE := fun σ H Q => ta σ H fun x H1 => ∃ (l : Addr) (ns : List Int), x = .ref l ∧ (SqL K H1 l (ns.map V.int) ∨ SqT K H1 l (ns.map V.int)) ∧ ns.length ≤ 4000 ∧ Q (.int ((nub ns).length : Nat)) H1
theorem intsAreV : ∀ {ns : List Int} {us : List Value}, Vals (ns.map V.int) us → PyProof.Rows.IntsAre us ns
  | [], [], .nil => .nil
  | n :: ns, u :: us, .cons r t => by
    obtain ⟨k, rfl⟩ := r
    exact .cons n k (intsAreV t)
theorem pe_lenSetN {X : Cx} {a : Expr} {ta : TE} {p p2 q pos : Pos} (hg : Gl X "len") (hm : X.mg "len" = none) (hg2 : Gl X "set") (hm2 : X.mg "set" = none) (ha : PE X a ta) (hc : X.calm = true)
    (na : starEach [a] X.env = (false, eval a X.env) :: starEach [] X.env) : PE X (.Call (.Name "len" p) [.Call (.Name "set" p2) [a] [] q] [] pos) (tLenSetN X.K ta) := by
  constructor
  intro pins s σ H Q I h
  refine Call_ ?_
  refine (ld_blt I hg hm boot_len) ?_
  refine PyProof.Rows.callWith_builtin1 (PyProof.Rows.args_cons ?_ rfl) rfl rfl
  refine Call_ ?_
  refine (ld_blt I hg2 hm2 boot_set) ?_
  refine PyProof.Rows.callWith_type1 (PyProof.Rows.args_cons ?_ na) na rfl
  refine thn (ha.run pins s σ H _ I h) fun v s1 hv => ?_
  obtain ⟨x, H1, I1, r1, l, ns, rfl, hq, hl, q1⟩ := hv
  refine (PyProof.Rows.args_nil) ?_
  cases r1
  rcases hq with hq | hq
  · obtain ⟨its, r, pl, hz⟩ := I1.list hq
    have hlen : its.toArray.size = ns.length := by rw [List.size_toArray, ← r.length, List.length_map]
    refine call_set_list (ns := ns) (I1.ok.hd hc) pl.isList (by simpa using intsAreV r) (by rw [hlen]; unfold scanBound; omega) fun h' tk hS hk => PyProof.Rows.args_nil ?_
    have hn0 : (PyProof.Rows.firstMet (fun i => ns.getD i 0) ns.length).length = (nub ns).length := by
      rw [fold_met ns ns.length (Nat.le_refl _), List.take_length]
      obtain ⟨a, b⟩ := met_fold ns [] List.nodup_nil
      exact len_of_same a (nub_nodup ns) fun x => (b x).trans ⟨fun z => mem_nub.mpr (z.elim (fun e => nomatch e) id), fun z => .inr (mem_nub.mp z)⟩
    rw [hlen, hn0] at hS
    have I2 : Inv X pins σ H1 { s1 with heap := h', toks := tk } := I1.kept fun b o e => hk b o (Heap.lt_size e) e
    have := nub_len_le ns
    obtain ⟨o, es, ep, t, ho, hex, hd, _, _, _, hf, hn⟩ := hS
    exact call_len_set ho hex hd hf (by omega) ⟨.int (nub ns).length, H1, I2.tok _, ⟨_, by rw [hn]⟩, q1⟩
  · obtain ⟨its, r, pl, hz⟩ := I1.tuple hq
    refine call_set_tupI ns (I1.ok.hd hc) pl (by simpa using intsAreV r) (by unfold scanBound; omega) fun h' tk c hS _ hk => PyProof.Rows.args_nil ?_
    have I2 : Inv X pins σ H1 { s1 with heap := h', toks := tk } := I1.kept hk
    have := nub_len_le ns
    obtain ⟨o, es, ep, t, ho, hex, hd, _, nd, hm, _, hf, hn, _⟩ := hS
    have e1 : es.size = (nub ns).length := by
      have := len_of_same nd (nub_nodup ns) fun x => ((hm x).symm.trans decide_eq_true_iff).trans mem_nub.symm
      rw [← this]; simp
    exact call_len_set ho hex hd hf (by omega) ⟨.int (nub ns).length, H1, I2.tok _, ⟨_, by rw [e1]⟩, q1⟩
section
variable {X : Cx} {G : Gh} {W : WX} {pos : Pos}
def fLenSet : D → QD → Prop
  | .list ds, Q => ∃ ns : List Int, ds = ns.map PyData.int ∧ ns.length ≤ 4000 ∧ Q (.int ((nub ns).length : Nat)) (.fz true)
  | .tuple ds, Q => ∃ ns : List Int, ds = ns.map PyData.int ∧ ns.length ≤ 4000 ∧ Q (.int ((nub ns).length : Nat)) (.fz true)
  | _, _ => False
def gLenSet (t : TX) : TX := fun τ Q wq => t τ (fun d _ => fLenSet d Q) wq
theorem ge_lenSet {e : Expr} {p p2 q : Pos} {t : TX} (hc : X.calm = true) (hm : X.mg "len" = none) (hm2 : X.mg "set" = none) (he : GE X G W e t) (hg : Gl X "len" := by rfl) (hg2 : Gl X "set" := by rfl) (na : starEach [e] X.env = (false, eval e X.env) :: starEach [] X.env := by rfl) :
    GE X G W (.Call (.Name "len" p) [.Call (.Name "set" p2) [e] [] q] [] pos) (gLenSet t) := by
  obtain ⟨te, p1, f1⟩ := he.ex
  refine ⟨_, pe_lenSetN hg hm hg2 hm2 p1 hc na, fun σ H τ ow Q wq Kt S h k w => f1 σ H τ ow _ wq _ S h (fun x H1 d kd g r q => ?_) w⟩
  unfold fLenSet at q
  split at q
  · obtain ⟨ns, rfl, hl, q⟩ := q
    obtain ⟨a, xs, rfl, e1, t1⟩ := r.lst
    have := t1.ints
    subst this
    exact ⟨a, ns, rfl, .inl (.of e1), hl, k _ _ _ _ g (RV.sc fun _ => .int _) q⟩
  · obtain ⟨ns, rfl, hl, q⟩ := q
    obtain ⟨a, xs, rfl, e1, t1⟩ := r.tup
    have := t1.ints
    subst this
    exact ⟨a, ns, rfl, .inr (.of e1), hl, k _ _ _ _ g (RV.sc fun _ => .int _) q⟩
  · exact q.elim
end
end TL

set_option maxHeartbeats 4000000
namespace TL
open PySem PySem.Spec PyProof.Rows L2
section
variable {X : Cx} {G : Gh} {W : WX} {pos : Pos}
/-- [z.pop(e) for j in ..], whatever comes of the list -/
theorem lcPop_core {own' : List Nat} {z : Str} {e tg : Expr} {scope : Scope} {own : List (Str × Nat)} {it : TIt} {wi : TI} {g : TGt} {ks : List Nat} {te : TX} {r1 r2 r3 : Pos} (ky : Nat)
    (f1 : ∀ (σ : L2.St) (H : Hp) (τ : Slots) (ow : Ow) (Q : List D → Bool → Bool → Prop) (wq : WQ) (R : It → Hp → Prop), Sim X.K G τ ow σ H → it τ Q wq → (∀ J H1 ds b own, Grow X.K G H H1 → ItOk X.K G ow H1 own J ds b → Q ds b own → R J H1) → Wk X.K G W σ H wq → wi σ H R)
    (hp : G.pool = none ∨ G.ps ∉ own.map (·.2)) (hky : ky ∉ own.map (·.2))
    (hg : ∀ p, GG (blkX X scope p) G tg ks g) (he : ∀ p, GE (blkX X scope p) G WNo e te) (hks : ∀ i ∈ ks, i ∈ own.map (·.2)) (hz : X.N[ky]? = some z)
    (hw : ∀ p, Vis (blkX X scope p).env.scope z) (hd' : (z == ("__debug__" : Str)) = false) (hcd' : (z == ("__classdict__" : Str)) = false)
    (hb' : ∀ p, attributeBase (.Name z r1) "pop" (blkX X scope p).env (eval (.Name z r1) (blkX X scope p).env) = eval (.Name z r1) (blkX X scope p).env)
    (hf' : ∀ p, ((backTo r3 (starEach [e] (blkX X scope p).env)).all (fun x => !x.1) && (backToKw r3 (keywordEach [] (blkX X scope p).env)).all (fun x => x.1.isSome) && decide ([e].length + ([] : List Keyword).length + (if ([] : List Keyword).isEmpty then 0 else 1) < 30)) = true)
    (hl' : (r2.endLine == r3.line) = true) (hs' : ∀ p, starEach [e] (blkX X scope p).env = (false, eval e (blkX X scope p).env) :: starEach [] (blkX X scope p).env) (hp' : ∀ p, (backTo r3 (starEach [] (blkX X scope p).env)).any (·.1) = false)
    {σ : L2.St} {H : Hp} {τ : Slots} {ow : Ow} {Fk : Slots → List D → Bool → Prop} {wq : WQ} {R : VK} (S : Sim X.K G τ ow σ H)
    (h : it τ (fun ds b own => own = false ∧ ds.length ≤ sizeLine ∧ (∃ es c, τ[ky]? = some (some (.own es c))) ∧ lcP g te ky own' b Fk ds τ [] true) wq) (ho : own' = List.map (·.2) own) (w : Wk X.K G W σ H wq)
    (fin : ∀ D H2 τ2 xs acc f, Sim X.K G τ2 (owD ow D) σ H2 → FrS ow H (owD ow D) H2 → G.pool ≠ some D → H2 D = some (.lst xs) → DPs X.K H2 (Fz G (owD ow D) f) xs acc → Fk τ2 acc f → R (.ref D) H2) :
    tLc wi (ggB X scope tg) (gtB X scope []) (geB X scope (.Call (.Attribute (.Name z r1) "pop" r2) [e] [] r3)) (own.map (·.2)) σ H R := by
  subst ho
  refine f1 σ H τ ow _ _ _ S h (fun J H1 ds b ownf gr iok q => ?_) w
  obtain ⟨rfl, hzl, hown, q⟩ := q
  intro D nD
  have S1 := S.grow gr
  have ih := S1.hide nD []
  have nDp : G.pool ≠ some D := S1.npool (S1.freshO nD)
  refine ⟨fun i m H2 => ∃ τ2 xs acc f, Sim X.K G τ2 (owD ow D) σ H2 ∧ FrS ow H1 (owD ow D) H2 ∧ (∃ es c, τ2[ky]? = some (some (.own es c))) ∧ H2 D = some (.lst xs) ∧ DPs X.K H2 (Fz G (owD ow D) f) xs acc ∧ i + m = ds.length ∧ acc.length ≤ i ∧ lcP g te ky (own.map (·.2)) b Fk (ds.drop i) τ2 acc f,
    ⟨ds.length, τ, [], [], true, ih, fun c o e n => ⟨by rw [upd_ne (ne_of_none e nD)]; exact e, by rw [owD_ne (ne_of_none e nD)]; exact n⟩, hown, upd_same, .nil, by simp, Nat.le_refl _, by simpa using q⟩, ?_⟩
  rintro i m H2 ⟨τ2, xs, acc, f, S2, fr, ⟨es, c, ey⟩, eD, tD, em, ea, q2⟩
  obtain ⟨go, stop⟩ := iok τ2 _ σ H2 S2 (fun z => by cases z) fr
  cases m with
  | zero =>
    have ei : i = ds.length := by omega
    subst ei
    rw [List.drop_length] at q2
    exact .inl ⟨stop, fin D H2 τ2 xs acc f S2 (fun c o ec n => by
      obtain ⟨z1, zn⟩ := gr.frs S c o ec n
      obtain ⟨z2, z3⟩ := fr c o z1 zn
      exact ⟨z2, z3⟩) nDp eD tD q2⟩
  | succ m =>
    have hi : i < ds.length := by omega
    obtain ⟨go1, go2⟩ := go i ds[i] (List.getElem?_eq_getElem hi)
    refine .inr ⟨go1, fun H' => ∃ τ2 xs acc f, Sim X.K G τ2 (owD ow D) σ H' ∧ FrS ow H1 (owD ow D) H' ∧ (∃ es c, τ2[ky]? = some (some (.own es c))) ∧ H' D = some (.lst xs) ∧ DPs X.K H' (Fz G (owD ow D) f) xs acc ∧ acc.length ≤ i + 1 ∧ lcP g te ky (own.map (·.2)) b Fk (ds.drop (i + 1)) τ2 acc f,
      fun H' ⟨τ2, xs, acc, f, z1, z2, z3, z4, z5, z6, z7⟩ => ⟨m, Nat.lt_succ_self m, τ2, xs, acc, f, z1, z2, z3, z4, z5, by omega, z6, z7⟩, fun x H3 yy => ?_⟩
    obtain ⟨g3, r3'⟩ := go2 x H3 yy
    have S3 := S2.grow g3
    have oD : owD ow D D = some none := if_pos rfl
    rw [List.drop_eq_getElem_cons hi] at q2
    simp only [lcP] at q2
    obtain ⟨l, ys, el, _⟩ := S2.putL ey
    intro p
    obtain ⟨g0, pg0, fg⟩ := (hg p).ex
    refine ⟨g0, pg0, fg (L2.wipe σ _) H3 (wipeT τ2 _) (owD ow D) x ds[i] b _ _ (S3.wipe hp) r3' q2 fun τ4 σ4 S4 hwp q4 => ⟨(hwp _ hks).trans wipe_wipe, ?_⟩⟩
    have hσ4 : σ4[ky]? = some (some (.ref l)) := by
      have h1 := congrArg (fun s : L2.St => s[ky]?) ((hwp _ hks).trans wipe_wipe)
      simp only [wipe_get, if_neg hky] at h1
      rw [h1]; exact el
    intro p
    obtain ⟨t0, pt0, ft⟩ := (gts_nil (X := blkX X scope p) (G := G) (W := WNo)).ex
    refine ⟨t0, pt0, ft σ4 H3 τ4 (owD ow D) (fun bb => bb = true) (fun _ => False) _ S4 rfl (fun b' H4 g4 q5 => ?_) fun nm H' _ z => z⟩
    subst q5
    have S5 := S3.grow g4
    show geB X scope _ σ4 H4 _
    intro p
    obtain ⟨e0, pe0, fe⟩ := (he p).ex
    refine ⟨_, pe_bm PySem.F.plainAttrs_list PySem.F.slot_list_pop PySem.F.type_list_pop mt_popAt (pe_var hz (hw p) hd' hcd') (pa_cons pe0 pa_nil (hs' p)) (hb' p) (hf' p) hl' (hs' p) (hp' p), ?_⟩
    obtain ⟨l', ys', el', _, e4, _⟩ := S5.putL ey
    rw [el] at el'
    cases el'
    refine ⟨.ref l, hσ4, .inl ⟨rfl, _, .inl (.inl e4)⟩, fe σ4 H4 τ4 (owD ow D) _ _ _ (S4.grow g4) q4 (fun v H5 d kd g5 r5 q6 => ?_) fun nm H' _ z => z⟩
    have S6 := S5.grow g5
    unfold tNil
    have g35 := g3.trans (g4.trans g5)
    have eD5 := g35.keep D _ eD nDp
    have tD5 := DPs.grow S2 g35 S2.fzp tD
    obtain ⟨l2, ys2, el2, o2, e5, t5, _⟩ := S6.putL ey
    rw [el] at el2
    cases el2
    have nlD : D ≠ l := fun z => by
      rw [← z, oD] at o2
      cases o2
    refine pop_sem S6 ey el r5.dpAny q6 fun zz yv τ' H6 S7 f7 ry hu eτ q7 => ?_
    have eD6 : H6 D = some (.lst xs) := by rw [hu D nlD]; exact eD5
    have tD6 := DPs.frs S6 f7 tD5
    have frA : FrS ow H1 (owD ow D) H6 := fr.trans ((g35.frs S2).trans f7)
    refine ⟨xs, eD6, by rw [tD.length]; omega, τ', xs ++ [yv], acc ++ [zz], f && (c || im zz), S7.more nDp eD6 _, fun a o ea na => ?_, ?_, upd_same, ?_, by simp; omega, q7⟩
    · obtain ⟨z1, z2⟩ := frA a o ea na
      exact ⟨by rw [upd_ne (owD_none z2).1]; exact z1, z2⟩
    · have hl : ky < τ2.length := (List.getElem?_eq_some_iff.mp ey).1
      exact ⟨_, _, by rw [eτ, List.getElem?_set_self hl]⟩
    · have all : DPs X.K H6 (Fz G (owD ow D) (f && (c || im zz))) (xs ++ [yv]) (acc ++ [zz]) := (tD6.mono fun _ q => q.andL).append (.cons (ry.mono fun _ q => q.andR) .nil)
      exact all.keep (fun a o p e => by rw [upd_ne (owD_none p.1).1]; exact e) (fun a o e m => by rw [upd_ne fun z => m (by rw [z, eD6]; trivial)]; exact e) fun _ p => p
/-- y = [z.pop(e) for j in ..], y read in a block -/
theorem gs_setLcPopC {y z : Str} {e tg iter : Expr} {scope : Scope} {own : List (Str × Nat)} {it : TIt} {g : TGt} {ks : List Nat} {te : TX} {p2 py r1 r2 r3 : Pos} (k ky : Nat) (hc : X.calm = true) (hN : X.N.Nodup) (hi : GI X G W tg iter it) (ok : BlkOk X.N X.env.scope scope own) (hp : G.pool = none ∨ G.ps ∉ own.map (·.2)) (hpk : G.pool = none ∨ k ≠ G.ps) (hky : ky ∉ own.map (·.2)) (hne : k ≠ ky)
    (hg : ∀ p, GG (blkX X scope p) G tg ks g) (he : ∀ p, GE (blkX X scope p) G WNo e te) (hks : ∀ i ∈ ks, i ∈ own.map (·.2)) (hy : X.N[k]? = some y := by rfl) (hz : X.N[ky]? = some z := by rfl) (hx : Loc X.env.scope y := by first | exact .inl rfl | exact .inr rfl)
    (hw : ∀ p, Vis (blkX X scope p).env.scope z := by intro _; first | exact Or.inl rfl | exact Or.inr (Or.inl rfl) | exact Or.inr (Or.inr rfl)) (hd' : (z == ("__debug__" : Str)) = false := by decide) (hcd' : (z == ("__classdict__" : Str)) = false := by decide)
    (hb' : ∀ p, attributeBase (.Name z r1) "pop" (blkX X scope p).env (eval (.Name z r1) (blkX X scope p).env) = eval (.Name z r1) (blkX X scope p).env := by intro _; rfl)
    (hf' : ∀ p, ((backTo r3 (starEach [e] (blkX X scope p).env)).all (fun x => !x.1) && (backToKw r3 (keywordEach [] (blkX X scope p).env)).all (fun x => x.1.isSome) && decide ([e].length + ([] : List Keyword).length + (if ([] : List Keyword).isEmpty then 0 else 1) < 30)) = true := by intro _; rfl)
    (hl' : (r2.endLine == r3.line) = true := by rfl) (hs' : ∀ p, starEach [e] (blkX X scope p).env = (false, eval e (blkX X scope p).env) :: starEach [] (blkX X scope p).env := by intro _; rfl) (hp' : ∀ p, (backTo r3 (starEach [] (blkX X scope p).env)).any (·.1) = false := by intro _; rfl)
    (hsw : swapsWith (.ListComp (.Call (.Attribute (.Name z r1) "pop" r2) [e] [] r3) [⟨tg, iter, [], 0⟩] scope p2) (some (.Name y py)) pos.line X.env = pure false) (hfn : X.fn y = true ∨ X.env.scope.names.lookup y = some .local := by first | exact .inl rfl | exact .inr rfl | assumption)
    (hs : ∀ x, foldedSetIterable iter X.env x = pure x := by intro _; rfl) : GS X G W (.Assign [.Name y py] (.ListComp (.Call (.Attribute (.Name z r1) "pop" r2) [e] [] r3) [⟨tg, iter, [], 0⟩] scope p2) pos) (sLcPop k ky it g te (own.map (·.2))) := by
  obtain ⟨wi, p1, f1⟩ := hi.ex
  refine ⟨_, ps_set hN hy hx (pe_lc hc hN p1 ok (fun s H C cl fp => pgB (s, H, C, cl, fp)) (fun s H C cl fp => ptB (s, H, C, cl, fp)) (fun s H C cl fp => peB (s, H, C, cl, fp)) hs) hsw hfn, fun σ H τ ow De wq Dh S h E => ?_⟩
  change tLc wi (ggB X scope tg) (gtB X scope []) (geB X scope _) (own.map (·.2)) σ H _
  refine lcPop_core ky f1 hp hky hg he hks hz hw hd' hcd' hb' hf' hl' hs' hp' S h rfl (E.wk S) fun D H2 τ2 xs acc f S2 fr nDp eD tD q2 => ?_
  obtain ⟨ow', S3, h3⟩ := S2.adopt (k := k) hpk nDp eD tD
  exact E.nx _ ow' _ _ S3 (fun c o ec n => by
    obtain ⟨z2, z3⟩ := fr c o ec n
    exact ⟨z2, h3 c z3⟩) q2
/-- an expression that changes an own list (by pops): frozen data come -/
structure GM (X : Cx) (G : Gh) (W : WX) (e : Expr) (t : Slots → (Slots → D → Bool → Prop) → WQ → Prop) : Prop where
  ex : ∃ te, PE X e te ∧ ∀ (σ : L2.St) (H : Hp) (τ : Slots) (ow : Ow) (Q : Slots → D → Bool → Prop) (wq : WQ) (Kt : VK), Sim X.K G τ ow σ H → t τ Q wq →
    (∀ v H' τ' ow' d b, Sim X.K G τ' ow' σ H' → FrS ow H ow' H' → DP X.K H' (Fz G ow' b) v d → Q τ' d b → Kt v H') → Wk X.K G W σ H wq → te σ H Kt
def mTupPop (ky : Nat) (it : TIt) (tg : TGt) (te : TX) (vs : List Nat) : Slots → (Slots → D → Bool → Prop) → WQ → Prop := fun τ Q wq => it τ (fun ds b own => own = false ∧ ds.length ≤ sizeLine ∧ (∃ es c, τ[ky]? = some (some (.own es c))) ∧ lcP tg te ky vs b (fun τ' acc f => Q τ' (.tuple acc) f) ds τ [] true) wq
/-- tuple([z.pop(e) for j in ..]) -/
theorem gm_tupPop {z : Str} {e tg iter : Expr} {scope : Scope} {own : List (Str × Nat)} {it : TIt} {g : TGt} {ks : List Nat} {te : TX} {p2 pt r1 r2 r3 : Pos} (ky : Nat) (hm : X.mg "tuple" = none) (hc : X.calm = true) (hN : X.N.Nodup) (hi : GI X G W tg iter it) (ok : BlkOk X.N X.env.scope scope own) (hp : G.pool = none ∨ G.ps ∉ own.map (·.2)) (hky : ky ∉ own.map (·.2))
    (hg : ∀ p, GG (blkX X scope p) G tg ks g) (he : ∀ p, GE (blkX X scope p) G WNo e te) (hks : ∀ i ∈ ks, i ∈ own.map (·.2)) (hz : X.N[ky]? = some z := by rfl)
    (hw : ∀ p, Vis (blkX X scope p).env.scope z := by intro _; first | exact Or.inl rfl | exact Or.inr (Or.inl rfl) | exact Or.inr (Or.inr rfl)) (hd' : (z == ("__debug__" : Str)) = false := by decide) (hcd' : (z == ("__classdict__" : Str)) = false := by decide)
    (hb' : ∀ p, attributeBase (.Name z r1) "pop" (blkX X scope p).env (eval (.Name z r1) (blkX X scope p).env) = eval (.Name z r1) (blkX X scope p).env := by intro _; rfl)
    (hf' : ∀ p, ((backTo r3 (starEach [e] (blkX X scope p).env)).all (fun x => !x.1) && (backToKw r3 (keywordEach [] (blkX X scope p).env)).all (fun x => x.1.isSome) && decide ([e].length + ([] : List Keyword).length + (if ([] : List Keyword).isEmpty then 0 else 1) < 30)) = true := by intro _; rfl)
    (hl' : (r2.endLine == r3.line) = true := by rfl) (hs' : ∀ p, starEach [e] (blkX X scope p).env = (false, eval e (blkX X scope p).env) :: starEach [] (blkX X scope p).env := by intro _; rfl) (hp' : ∀ p, (backTo r3 (starEach [] (blkX X scope p).env)).any (·.1) = false := by intro _; rfl)
    (hgt : Gl X "tuple" := by rfl) (hst : starEach [.ListComp (.Call (.Attribute (.Name z r1) "pop" r2) [e] [] r3) [⟨tg, iter, [], 0⟩] scope p2] X.env = (false, eval (.ListComp (.Call (.Attribute (.Name z r1) "pop" r2) [e] [] r3) [⟨tg, iter, [], 0⟩] scope p2) X.env) :: starEach [] X.env := by rfl)
    (hpl : (backTo pos (starEach [] X.env)).any (·.1) = false := by rfl) (hs : ∀ x, foldedSetIterable iter X.env x = pure x := by intro _; rfl) :
    GM X G W (.Call (.Name "tuple" pt) [.ListComp (.Call (.Attribute (.Name z r1) "pop" r2) [e] [] r3) [⟨tg, iter, [], 0⟩] scope p2] [] pos) (mTupPop ky it g te (own.map (·.2))) := by
  obtain ⟨wi, p1, f1⟩ := hi.ex
  refine ⟨_, pe_callTy call_tuple_of hgt hm (by decide +kernel) (pa_cons (pe_lc hc hN p1 ok (fun s H C cl fp => pgB (s, H, C, cl, fp)) (fun s H C cl fp => ptB (s, H, C, cl, fp)) (fun s H C cl fp => peB (s, H, C, cl, fp)) hs) pa_nil hst) (by decide) (by decide) hst hpl, fun σ H τ ow Q wq Kt S h k w => ?_⟩
  unfold tCB tCons tNil
  refine lcPop_core ky f1 hp hky hg he hks hz hw hd' hcd' hb' hf' hl' hs' hp' S h rfl w fun D H2 τ2 xs acc f S2 fr nDp eD tD q2 => ?_
  refine ⟨D, xs, rfl, .inl ⟨.of eD, fun l hl => ?_⟩⟩
  have gr : Grow X.K G H2 (upd H2 l (.tup xs)) := Grow.upd hl
  exact k (.ref l) _ τ2 _ (.tuple acc) f (S2.grow gr) (fr.trans (gr.frs S2)) (.tup upd_same (DPs.grow S2 gr S2.fzp tD)) q2
/-- return of it -/
def sRetM (m : Slots → (Slots → D → Bool → Prop) → WQ → Prop) : TSt := fun De wq τ => m τ (fun τ' d b => retOk d (.fz b) ∧ De.rt d τ') (fun nm => wq nm τ)
theorem gs_retM {e : Expr} {m : Slots → (Slots → D → Bool → Prop) → WQ → Prop} (he : GM X G W e m) (hr : G.ret = RR X.K G.H0 := by rfl) : GS X G W (.Return (some e) pos) (sRetM m) := by
  obtain ⟨t1, p1, f1⟩ := he.ex
  exact ⟨_, ps_ret p1, fun σ H τ ow De wq Dh S h E => f1 σ H τ ow _ _ _ S h (fun v H' τ' ow' d b S' fr r q => E.rt v τ' ow' σ H' d S' (by rw [hr]; exact RV.ret (kd := .fz b) (H := H') S' (show DP X.K H' (Fz G ow' b) v d from r) q.1) q.2) (E.wk S)⟩
/-- xs.append of it -/
def sAppM (k : Nat) (m : Slots → (Slots → D → Bool → Prop) → WQ → Prop) : TSt := fun De wq τ => (∃ ds b, τ[k]? = some (some (.own ds b))) ∧ m τ (fun τ' d b => appSl τ'[k]? d (.fz b) fun sl => De.nx (τ'.set k (some sl))) (fun nm => wq nm τ)
theorem gs_appM (k : Nat) {x : Str} {e : Expr} {m : Slots → (Slots → D → Bool → Prop) → WQ → Prop} {p1 p2 p3 : Pos} (he : GM X G W e m) (hi : X.N[k]? = some x := by rfl) (hv : Vis X.env.scope x := by first | exact Or.inl rfl | exact Or.inr (Or.inl rfl) | exact Or.inr (Or.inr rfl)) (hd : (x == ("__debug__" : Str)) = false := by decide)
    (hcd : (x == ("__classdict__" : Str)) = false := by decide) (hb : attributeBase (.Name x p1) "append" X.env (eval (.Name x p1) X.env) = eval (.Name x p1) X.env := by rfl)
    (hf : ((backTo p3 (starEach [e] X.env)).all (fun x => !x.1) && (backToKw p3 (keywordEach [] X.env)).all (fun x => x.1.isSome) && decide ([e].length + ([] : List Keyword).length + (if ([] : List Keyword).isEmpty then 0 else 1) < 30)) = true := by rfl)
    (hl : (p2.endLine == p3.line) = true := by rfl) (hs : starEach [e] X.env = (false, eval e X.env) :: starEach [] X.env := by rfl) (hp : (backTo p3 (starEach [] X.env)).any (·.1) = false := by rfl)
    (hsw : swapsWith (.Call (.Attribute (.Name x p1) "append" p2) [e] [] p3) none pos.line X.env = pure false := by rfl) :
    GS X G W (.Expr (.Call (.Attribute (.Name x p1) "append" p2) [e] [] p3) pos) (sAppM k m) := by
  obtain ⟨te, q1, f1⟩ := he.ex
  refine ⟨_, ps_expr (pe_bm PySem.F.plainAttrs_list PySem.F.slot_list_append PySem.F.type_list_append mt_append (pe_var hi hv hd hcd) (pa_cons q1 pa_nil hs) hb hf hl hs hp) hsw, fun σ H τ ow De wq Dh S h E => ?_⟩
  obtain ⟨⟨ds, b, ek⟩, h⟩ := h
  obtain ⟨a, xs, e1, o, e2, t0, _⟩ := S.putL ek
  refine ⟨.ref a, e1, .inl ⟨rfl, _, .inl (.inl e2)⟩, f1 σ H τ ow _ _ _ S h (fun v H1 τ1 ow1 d b1 S1 fr r q => ?_) (E.wk S)⟩
  cases ek1 : τ1[k]? with
  | none => rw [ek1] at q; exact q.elim
  | some o1 =>
    rw [ek1] at q
    cases o1 with
    | none => exact q.elim
    | some s1 =>
      cases s1 with
      | own ds1 b2 =>
        obtain ⟨a', xs', e1', o', e2', t1, put⟩ := S1.putL ek1
        rw [e1] at e1'
        cases e1'
        obtain ⟨hl1, q⟩ := (show ds1.length < sizeLine ∧ De.nx (τ1.set k (some (.own (ds1 ++ [d]) (b2 && b1)))) from by simpa [appSl] using q)
        have rd : DP X.K H1 (Fz G ow1 (b2 && b1)) v d := r.mono fun c p => p.andR
        obtain ⟨S2, f2⟩ := put (xs' ++ [v]) (ds1 ++ [d]) (b2 && b1) ((t1.mono fun c p => p.andL).append (.cons rd .nil))
        exact ⟨a, xs', v, rfl, rfl, e2', by rw [t1.length]; exact hl1, E.nx _ ow1 _ _ S2 (fr.trans f2) q⟩
      | _ => exact q.elim
end
end TL

set_option maxHeartbeats 4000000
namespace TL
open PySem PySem.Spec PyProof.Rows L2
/-! ### x in T, T a global tuple of texts -/
def strsB : List Value → List Str → Bool
  | [], [] => true
  | .str y _ :: vs, x :: xs => decide (y = x) && strsB vs xs
  | _, _ => false
theorem strsB_ok : ∀ {vs : List Value} {xs : List Str}, strsB vs xs = true → Vals (xs.map V.str) vs
  | [], [], _ => .nil
  | [], _ :: _, h => nomatch h
  | v :: vs, [], h => by cases v <;> cases h
  | v :: vs, x :: xs, h => by
    cases v with
    | str y t =>
      have h : (decide (y = x) && strsB vs xs) = true := h
      rw [Bool.and_eq_true, decide_eq_true_eq] at h
      exact .cons ⟨t, by rw [h.1]⟩ (strsB_ok h.2)
    | _ => cases h
def tupO (o : Obj) (xs : List Str) : Bool := match o.data with
  | .seq its _ => decide (o.cls = .type "tuple") && decide (its.size ≤ sizeLine) && strsB its.toList xs
  | _ => false
/-- the global of this name is a tuple of these texts -/
def tupB (K : PySem.W.Frag) (x : Str) (xs : List Str) : Bool := match K.lookup (He.ga K x) with
  | some o => tupO o xs
  | none => false
theorem tupB_ok {K : PySem.W.Frag} {x : Str} {xs : List Str} (h : tupB K x xs = true) (H : Hp) : SqT K H (He.ga K x) (xs.map V.str) := by
  unfold tupB at h
  cases e : K.lookup (He.ga K x) with
  | none => rw [e] at h; cases h
  | some o =>
    rw [e] at h
    have h : tupO o xs = true := h
    unfold tupO at h
    cases ed : o.data with
    | seq its n =>
      rw [ed] at h
      simp only [Bool.and_eq_true, decide_eq_true_eq] at h
      exact .inr ⟨o, its, n, e, h.1.1, ed, h.1.2, strsB_ok h.2⟩
    | _ => rw [ed] at h; cases h
theorem dpStrs {K : PySem.W.Frag} {H : Hp} : ∀ xs : List Str, DpAll K H (xs.map V.str) (xs.map PyData.str)
  | [] => .nil
  | x :: xs => .cons (.str x) (dpStrs xs)
section
variable {X : Cx} {G : Gh} {W : WX} {pos : Pos}
def gInK (neg : Bool) (te : TX) (xs : List Str) : TX := fun τ Q wq => te τ (fun d _ => SeqAt.shaped d = true ∧ SeqAt.shaped (.tuple (xs.map PyData.str)) = true ∧ Q (.bool (neg ^^ (xs.map PyData.str).any fun z => PyData.eqv z d)) (.fz true)) wq
theorem ge_inK_core {neg : Bool} {op : CmpOp} {e : Expr} {te : TX} {x : Str} {xs : List Str} {p : Pos} (ho : OpR X (compareOp op) (rInTD X.K neg)) (he : GE X G W e te) (hm : X.mg x = some (.ref (He.ga X.K x))) (F : tupB X.K x xs = true) (hg : Gl X x := by rfl) (hd : (x == ("__debug__" : Str)) = false := by decide)
    (hmk : behindInMarks op (.Name x p) = false := by first | exact nomark _ (by decide) (by decide) | rfl) : GE X G W (.Compare e [op] [.Name x p] pos) (gInK neg te xs) := by
  obtain ⟨t1, p1, f1⟩ := he.ex
  refine ⟨_, pe_cmpR ho p1 (pe_glob (v := .ref (He.ga X.K x)) hg hm rfl hd) hmk, fun σ H τ ow Q wq Kt S h k w => ?_⟩
  refine f1 σ H τ ow _ wq _ S h (fun v H1 d kd g1 r1 q1 => ?_) w
  exact ⟨d, _, r1.dp (nd_shaped q1.1), .tup (tupB_ok F H1) (dpStrs xs), q1.1, q1.2.1, k _ _ _ _ g1 (RV.sc fun _ => .bl _) q1.2.2⟩
theorem ge_inK {e : Expr} {te : TX} {x : Str} {xs : List Str} {p : Pos} (hu : X.A.units + 65 < cLine) (he : GE X G W e te) (hm : X.mg x = some (.ref (He.ga X.K x))) (F : tupB X.K x xs = true) (hg : Gl X x := by rfl) (hd : (x == ("__debug__" : Str)) = false := by decide)
    (hmk : behindInMarks .In (.Name x p) = false := by first | exact nomark _ (by decide) (by decide) | rfl) : GE X G W (.Compare e [.In] [.Name x p] pos) (gInK false te xs) := ge_inK_core (op_inTD hu) he hm F hg hd hmk
theorem ge_notInK {e : Expr} {te : TX} {x : Str} {xs : List Str} {p : Pos} (hu : X.A.units + 65 < cLine) (he : GE X G W e te) (hm : X.mg x = some (.ref (He.ga X.K x))) (F : tupB X.K x xs = true) (hg : Gl X x := by rfl) (hd : (x == ("__debug__" : Str)) = false := by decide)
    (hmk : behindInMarks .NotIn (.Name x p) = false := by first | exact nomark _ (by decide) (by decide) | rfl) : GE X G W (.Compare e [.NotIn] [.Name x p] pos) (gInK true te xs) := ge_inK_core (op_notInTD hu) he hm F hg hd hmk
theorem gb_inK_core {neg : Bool} {op : CmpOp} {e : Expr} {te : TX} {x : Str} {xs : List Str} {p : Pos} (ho : OpR X (compareOp op) (rInTD X.K neg)) (he : GE X G W e te) (hm : X.mg x = some (.ref (He.ga X.K x))) (F : tupB X.K x xs = true) (hg : Gl X x := by rfl) (hd : (x == ("__debug__" : Str)) = false := by decide)
    (hmk : behindInMarks op (.Name x p) = false := by first | exact nomark _ (by decide) (by decide) | rfl) : GB X G W (.Compare e [op] [.Name x p] pos) (gTru (gInK neg te xs)) := by
  obtain ⟨t1, p1, f1⟩ := he.ex
  refine ⟨_, pt_cmpR ho p1 (pe_glob (v := .ref (He.ga X.K x)) hg hm rfl hd) hmk, fun σ H τ ow Q wq Kt S h k w => ?_⟩
  refine f1 σ H τ ow _ wq _ S h (fun v H1 d kd g1 r1 q1 => ?_) w
  exact ⟨d, _, (r1.dp (nd_shaped q1.1)), .tup (tupB_ok F H1) (dpStrs xs), q1.1, q1.2.1, _, rfl, k _ _ g1 q1.2.2⟩
theorem gb_inK {e : Expr} {te : TX} {x : Str} {xs : List Str} {p : Pos} (hu : X.A.units + 65 < cLine) (he : GE X G W e te) (hm : X.mg x = some (.ref (He.ga X.K x))) (F : tupB X.K x xs = true) (hg : Gl X x := by rfl) (hd : (x == ("__debug__" : Str)) = false := by decide)
    (hmk : behindInMarks .In (.Name x p) = false := by first | exact nomark _ (by decide) (by decide) | rfl) : GB X G W (.Compare e [.In] [.Name x p] pos) (gTru (gInK false te xs)) := gb_inK_core (op_inTD hu) he hm F hg hd hmk
theorem gb_notInK {e : Expr} {te : TX} {x : Str} {xs : List Str} {p : Pos} (hu : X.A.units + 65 < cLine) (he : GE X G W e te) (hm : X.mg x = some (.ref (He.ga X.K x))) (F : tupB X.K x xs = true) (hg : Gl X x := by rfl) (hd : (x == ("__debug__" : Str)) = false := by decide)
    (hmk : behindInMarks .NotIn (.Name x p) = false := by first | exact nomark _ (by decide) (by decide) | rfl) : GB X G W (.Compare e [.NotIn] [.Name x p] pos) (gTru (gInK true te xs)) := gb_inK_core (op_notInTD hu) he hm F hg hd hmk
end
end TL

set_option maxHeartbeats 4000000
/-! values of any kind: {}, == () and == 1 of anything, a tuple turned around, str of an int -/
namespace HT
open PySem PySem.Spec PyProof.Rows L2
section
variable {prog : Program} {w : World} {A : Around} {E : Value → Shared → Prop} {s : Shared}
theorem pick_rev (xs : Array Value) : ((List.range xs.size).filterMap fun (m : Nat) => xs[(((xs.size : Int) - 1) + (m : Int) * (-1)).toNat]?).toArray = xs.toList.reverse.toArray := by
  congr 1
  have e : (List.range xs.size).filterMap (fun (m : Nat) => xs[(((xs.size : Int) - 1) + (m : Int) * (-1)).toNat]?) = ((List.range xs.size).map fun k => xs.size - 1 - k).filterMap (xs[·]?) := by
    rw [List.filterMap_map]
    have cg : ∀ (l : List Nat) (f g : Nat → Option Value), (∀ m ∈ l, f m = g m) → l.filterMap f = l.filterMap g := by
      intro l f g h
      induction l with
      | nil => rfl
      | cons x l ih => rw [List.filterMap_cons, List.filterMap_cons, h x List.mem_cons_self, ih fun m hm => h m (List.mem_cons_of_mem _ hm)]
    refine cg _ _ _ fun m hm => ?_
    have := List.mem_range.mp hm
    show xs[(((xs.size : Int) - 1) + (m : Int) * (-1)).toNat]? = xs[xs.size - 1 - m]?
    have e : (((xs.size : Int) - 1) + (m : Int) * (-1)).toNat = xs.size - 1 - m := by omega
    rw [e]
  rw [e, PySem.W.krv_range, List.filterMap_reverse, PySem.W.krv_all]
theorem sliceApplied_rev {sl : Addr} {vs : Value} {n : Nat} {Q : Int × Int × Nat → Shared → Prop} (hs : s.heap.IsSliceOf sl .none .none vs) (ps : IsPart vs (some (-1)))
    (h : Q ((n : Int) - 1, -1, n) s) : wpAny (model prog w) A (Builtin.Slice.sliceApplied (.ref sl) (pure (n : Int))) Q E s := by
  obtain ⟨os, hos, hcs, hds⟩ := id hs
  unfold Builtin.Slice.sliceApplied Builtin.Slice.sliceFields
  refine wpAny_bind (wpAny_bind (wpAny_field hos hds (x := .none) rfl (wpAny_bind (wpAny_field hos hds (x := .none) rfl (wpAny_bind (wpAny_field hos hds (x := vs) rfl (wpAny_pure ?_)))))))
  refine wpAny_bind (slicePart_ ps ?_)
  show wpAny _ _ (if ((-1 : Int) == 0) = true then _ else _) _ _ s
  rw [if_neg (by decide)]
  refine wpAny_bind (slicePart_none (wpAny_bind (slicePart_none (wpAny_bind (wpAny_pure ?_)))))
  have e : Builtin.Slice.sliceAdjust none none (-1) (n : Int) = ((n : Int) - 1, -1) := by
    unfold Builtin.Slice.sliceAdjust
    simp
  show wpAny _ _ (match Builtin.Slice.sliceAdjust none none (-1) (n : Int) with | (lo, hi) => pure (lo, (-1 : Int), Builtin.Slice.slicePlaces lo hi (-1))) _ _ s
  rw [e]
  have e2 : Builtin.Slice.slicePlaces ((n : Int) - 1) (-1) (-1) = n := by
    unfold Builtin.Slice.slicePlaces
    have h1 : ¬ ((-1 : Int) > 0) := by decide
    rw [if_neg h1, show (- -1 : Int) = 1 by decide, Int.ediv_one]
    split <;> omega
  show wpAny _ _ (pure ((n : Int) - 1, (-1 : Int), Builtin.Slice.slicePlaces ((n : Int) - 1) (-1) (-1))) _ _ s
  rw [e2]
  exact wpAny_pure h
theorem getItem_tuple_rev {t sl : Addr} {items : Array Value} {vs : Value} {Q : Value → Shared → Prop} (ht : IsTup s.heap t items) (hs : s.heap.IsSliceOf sl .none .none vs) (ps : IsPart vs (some (-1)))
    (h : Q (.ref s.heap.objs.size) { s with heap := s.heap.push { cls := .type "tuple", data := .seq items.toList.reverse.toArray } }) (hsz : items.size ≤ sizeLine) : wpAny (model prog w) A (getItem (.ref t) (.ref sl)) Q E s := by
  have htake : sizeOk (.seq items.toList.reverse.toArray) := by
    show items.toList.reverse.toArray.size ≤ sizeLine
    rw [List.size_toArray, List.length_reverse, Array.length_toList]
    exact hsz
  obtain ⟨os, hos, hcs, hds⟩ := id hs
  have hTs : s.TypeIs (.ref sl) "slice" := ⟨os, hos, hcs⟩
  unfold getItem
  try with_reducible refine wpAny_holding ?_
  first | refine wpAny_bind (wpAny_pure ?_) | skip
  refine wpAny_bind (wpAny_sequenceKey ht.typeIs (by decide) ?_)
  refine wpAny_bind (wpAny_callSpecial?_slot (name := Str.ofString "__getitem__") ht.typeIs PyProof.Rows.slot_tuple_getitem
    (wpAny_call_entry PyProof.Rows.slot_tuple_getitem ht.typeIs entry_tuple_getitem ?_ (args_tuple_getitem _ _)))
  show wpAny _ _ (Builtin.Tuple.tupleItemsOf (.ref t) >>= _) _ _ s
  refine wpAny_bind (tupleItemsOf_ ht ?_)
  refine wpAny_bind (wpAny_typeOf hTs ?_)
  rw [if_pos (by decide)]
  refine wpAny_bind (sliceApplied_rev hs ps ?_)
  have hno : ¬ ((((items.size : Int) - 1) == 0 && (-1 : Int) == 1 && items.size == items.size) = true) := by simp
  show wpAny _ _ (if (((items.size : Int) - 1) == 0 && (-1 : Int) == 1 && items.size == items.size) = true then _ else _) _ _ s
  rw [if_neg hno, pick_rev]
  first
    | exact wpAny_bind (m := Builtin.Tuple.tupleExact _) (wpAny_newObj_type (wpAny_pure ⟨_, rfl, wpAny_pure h⟩) htake)
    | exact wpAny_bind (m := Builtin.Tuple.tupleExact _) (wpAny_newObj_type (wpAny_bind (wpAny_pure (wpAny_pure ⟨_, rfl, wpAny_pure h⟩))) htake)
    | exact wpAny_bind (wpAny_bind (m := Builtin.Tuple.tupleExact _) (wpAny_newObj_type (wpAny_pure (wpAny_pure ⟨_, rfl, wpAny_pure h⟩)) htake))
    | exact wpAny_bind (wpAny_bind (m := Builtin.Tuple.tupleExact _) (wpAny_newObj_type (wpAny_pure ⟨_, rfl, wpAny_pure h⟩) htake))
end
end HT
namespace PySem.SeqAt
open AutoSeq1 (wpAny_loadPart')
open MeetsSeq
theorem dict_eq_declines_int (l : Addr) (es : Array DictEntry) (ep : Nat) (dd : Option Addr) (sl : Array (Option Value)) (b : Int) (u : Tok) :
    Meets (Builtin.«dict.__eq__» ⟨[.ref l, .int b u], []⟩) (fun _ R s => s.heap.get? l = some { cls := .type "dict", dict := dd, data := .dict es ep, slots := sl } ∧ R (.ok (.ret .notImplemented)) s) :=
  .of_wp fun prog w A R s h => by obtain ⟨hp, g, d, tk, os⟩ := s; obtain ⟨hl, h⟩ := h; have f1 := F.sub_int_dict; wp_walk using wpAny_loadPart' hl, wpAny_load hl; exact ⟨_, rfl, h⟩
theorem int_eq_declines_dict_int (b : Int) (u : Tok) (l : Addr) (c : Value) (es : Array DictEntry) (ep : Nat) (dd : Option Addr) (sl : Array (Option Value)) :
    Meets (Builtin.«int.__eq__» ⟨[.int b u, .ref l], []⟩) (fun _ R s => s.heap.get? l = some { cls := c, dict := dd, data := .dict es ep, slots := sl } ∧ R (.ok (.ret .notImplemented)) s) :=
  .of_wp fun prog w A R s h => by obtain ⟨hp, g, d, tk, os⟩ := s; obtain ⟨hl, h⟩ := h; wp_walk using wpAny_loadPart' hl, wpAny_load hl; exact ⟨_, rfl, h⟩
theorem RcAt.dict_int {A : Around} {s : Shared} {l : Addr} {o : Obj} {es : Array DictEntry} {ep : Nat} (b : Int) (u : Tok) (ho : s.heap.get? l = some o) (hc : o.cls = .type "dict") (hd : o.data = .dict es ep) (hu : A.units < cLine) : RcAt A s (.ref l) (.int b u) false := fun prog w E Q h => by
  obtain ⟨cls, dd, data, sl⟩ := o
  simp only at hc hd
  subst hc hd
  exact rc_eq_decline_or (k := false) ⟨_, ho, rfl⟩ (typeIs_int s b u) (by decide) F.sub_int_dict F.slot_dict_eq F.slot_int_eq_refl
    (fun _ hq => call_meets F.slot_dict_eq ⟨_, ho, rfl⟩ F.entry_dict_eq (F.args_dict_eq_2 _ _) (dict_eq_declines_int l es ep dd sl b u) ⟨ho, hq⟩)
    (fun _ hq => call_meets F.slot_int_eq_refl (typeIs_int s b u) F.entry_int_eq (F.args_int_eq_2 _ _) (int_eq_declines_dict_int b u l (.type "dict") es ep dd sl) ⟨ho, hq⟩)
    (fun _ hq => wpAny_of_eq (rfl : isSame (.ref l) (.int b u) = pure false) hq) (.inr hu) h
end PySem.SeqAt
namespace TL
open PySem PySem.Spec PyProof.Rows L2
section
variable {X : Cx} {G : Gh} {W : WX} {pos : Pos}
theorem RV.dct {K : PySem.W.Frag} {ow : Ow} {H H' : Hp} {v : V} {kvs : List (D × D)} {kd : Kd} (r : RV K G ow H H' v (.dict kvs) kd) : ∃ a, v = .ref a ∧ ((∃ xs, Rd H' a (.dK xs)) ∨ ∃ xs, H' a = some (.dT xs)) := by
  cases kd with
  | fz b =>
    have r' : DP K H' (Fz G ow b) v (.dict kvs) := r
    generalize e : PyData.dict kvs = z at r'
    cases r' with
    | dK p h _ _ => exact ⟨_, rfl, .inl ⟨_, .inl h⟩⟩
    | dL h _ _ => exact ⟨_, rfl, .inl ⟨_, .inr ⟨_, h⟩⟩⟩
    | dT p h _ _ => exact ⟨_, rfl, .inr ⟨_, h⟩⟩
    | _ => cases e
  | ow b => obtain ⟨a, xs, ds', rfl, e, _⟩ := r; cases e
  | nw b => obtain ⟨a, xs, ds', rfl, e, _⟩ := r; cases e
/-! ### a op b op' c op'' d as a test -/
theorem pt_chain3 {a b c d : Expr} {ta tb tc td : TE} {op op' op'' : CmpOp} {r r' r'' : R2} (ho : OpR X (compareOp op) r) (ho' : OpR X (compareOp op') r') (ho'' : OpR X (compareOp op'') r'') (ha : PE X a ta) (hb : PE X b tb) (hc : PE X c tc) (hd : PE X d td)
    (hm : lastMarks [op, op', op''] [b, c, d] = false := by with_unfolding_all rfl) : PT X (.Compare a [op, op', op''] [b, c, d] pos) (tTest (tChain3 r r' r'' ta tb tc td)) := by
  refine ⟨fun pins s σ H Q I h => ?_⟩
  refine isTrue_chain (thn (ha.run pins s σ H _ I h) fun v s1 ⟨x, H1, I1, r1, q1⟩ => test_link (thn (hb.run pins s1 σ H1 _ I1 q1) fun u s2 ⟨y, H2, I2, r2, q2⟩ =>
    thn (ho pins s2 σ H2 x y v u _ I2 r1 r2 q2) fun d s3 ⟨z, H3, I3, r3, k, e, q3⟩ => ?_)) hm
  subst e
  cases r3
  refine wpAny_truthy_bool ?_
  cases k with
  | false =>
    obtain ⟨k', e', q'⟩ := q3
    cases e'
    exact ite_ff ⟨H3, I3, q'⟩
  | true =>
    refine ite_tt (test_link (thn (hc.run pins s3 σ H3 _ I3 q3) fun w s4 ⟨y4, H4, I4, r4, q4⟩ => thn (ho' pins s4 σ H4 y y4 u w _ I4 r2 r4 q4) fun z5 s5 ⟨zv5, H5, I5, r5, k5, e5, q5⟩ => ?_))
    subst e5
    cases r5
    refine wpAny_truthy_bool ?_
    cases k5 with
    | false =>
      obtain ⟨k', e', q'⟩ := q5
      cases e'
      exact ite_ff ⟨H5, I5, q'⟩
    | true =>
      refine ite_tt (test_last (thn (hd.run pins s5 σ H5 _ I5 q5) fun w6 s6 ⟨y6, H6, I6, r6, q6⟩ => thn (ho'' pins s6 σ H6 y4 y6 w w6 _ I6 r4 r6 q6) fun d' s7 ⟨z7, H7, I7, r7, k7, e7, q7⟩ => ?_))
      subst e7
      cases r7
      exact wpAny_truthy_bool ⟨H7, I7, q7⟩
theorem gb_ch3 {a b c d : Expr} {ta tb tc td : TX} {op op' op'' : CmpOp} {r r' r'' : R2} {f f' f'' : D → Bool → D → Bool → QD → Prop} (ho : OpR X (compareOp op) r) (hf : OpG X G r f) (ho' : OpR X (compareOp op') r') (hf' : OpG X G r' f') (ho'' : OpR X (compareOp op'') r'') (hf'' : OpG X G r'' f'')
    (ha : GE X G W a ta) (hb : GE X G W b tb) (hc : GE X G W c tc) (hd : GE X G W d td) (hm : lastMarks [op, op', op''] [b, c, d] = false := by with_unfolding_all rfl) : GB X G W (.Compare a [op, op', op''] [b, c, d] pos) (gT (gCh3 f f' f'' ta tb tc td)) := by
  obtain ⟨te, p1, f1⟩ := ha.ex
  obtain ⟨t2, p2, f2⟩ := hb.ex
  obtain ⟨t3, p3, f3⟩ := hc.ex
  obtain ⟨t4, p4, f4⟩ := hd.ex
  refine ⟨_, pt_chain3 ho ho' ho'' p1 p2 p3 p4 hm, fun σ H τ ow Q wq Kt S h k w => ?_⟩
  refine f1 σ H τ ow _ wq _ S h (fun x H1 dx kx g1 r1 q1 => ?_) w
  refine f2 σ H1 τ ow _ wq _ (S.grow g1) q1 (fun y H2 dy ky g2 r2 q2 => ?_) (w.grow g1)
  refine hf S (g1.trans g2) (r1.grow S g1 g2) (r2.start S g1) q2 fun v H3 d kd g3 r3 q3 => ?_
  obtain ⟨b, e, q'⟩ := r3.asB q3
  refine ⟨b, e, ?_⟩
  have g13 := (g1.trans g2).trans g3
  cases b with
  | false => exact ⟨false, rfl, k _ _ g13 q'⟩
  | true =>
    refine f3 σ H3 τ ow _ wq _ (S.grow g13) q' (fun z H4 dz kz g4 r4 q4 => ?_) (w.grow g13)
    refine hf' S (g13.trans g4) ((r2.start S g1).grow S (g1.trans g2) (g3.trans g4)) (r4.start S g13) q4 fun v H5 d kd g5 r5 q5 => ?_
    obtain ⟨b, e, q''⟩ := r5.asB q5
    refine ⟨b, e, ?_⟩
    have g15 := (g13.trans g4).trans g5
    cases b with
    | false => exact ⟨false, rfl, k _ _ g15 q''⟩
    | true =>
      refine f4 σ H5 τ ow _ wq _ (S.grow g15) q'' (fun v H6 dv kv g6 r6 q6 => ?_) (w.grow g15)
      refine hf'' S (g15.trans g6) ((r4.start S g13).grow S (g13.trans g4) (g5.trans g6)) (r6.start S g15) q6 fun v H7 d kd g7 r7 q7 => ?_
      obtain ⟨b, e, q8⟩ := r7.asB q7
      exact ⟨b, e, k b H7 ((g15.trans g6).trans g7) q8⟩
/-! ### t[::-1] -/
def tRevT (te : TE) : TE := fun σ H Q => te σ H fun x H1 => ∃ a xs, x = .ref a ∧ H1 a = some (.tup xs) ∧ ∀ p, H1 p = none → Q (.ref p) (upd H1 p (.tup xs.reverse))
theorem pe_revT {e : Expr} {te : TE} {k : Nat} {p1 p2 p3 pos : Pos} (he : PE X e te) : PE X (.Subscript e (.Slice none none (some (.UnaryOp .USub (.Constant (.int 1) k p1) p2)) p3) pos) (tRevT te) := by
  refine ⟨fun pins s σ H Q I h => ?_⟩
  refine Subscript_ (thn (he.run pins s σ H _ I h) fun v s1 ⟨x, H1, I1, r1, q1⟩ => ?_)
  obtain ⟨a, xs, ex, hx, q⟩ := q1
  subst ex
  cases r1
  have hst : PO X (some (.UnaryOp .USub (.Constant (.int 1) k p1) p2)) (tPart (tUn (rU fun i => .int (-i)) (tC (.int 1)))) := po_some (pe_un un_neg pe_int)
  refine wpAny_Slice (thn (po_none.run pins s1 σ H1 (fun o H2 => o = none ∧ H2 = H1) I1 ⟨rfl, rfl⟩) fun vl s2 ⟨l, H2, I2, pl, el, e2⟩ => ?_)
  subst el e2
  refine thn (po_none.run pins s2 σ H2 (fun o H3 => o = none ∧ H3 = H2) I2 ⟨rfl, rfl⟩) fun vu s3 ⟨u, H3, I3, pu, eu, e3⟩ => ?_
  subst eu e3
  refine thn (hst.run pins s3 σ H3 (fun o H4 => o = some (-1) ∧ H4 = H3) I3 ⟨1, rfl, -1, rfl, rfl, rfl⟩) fun vs s4 ⟨o, H4, I4, ps, eo, e4⟩ => ?_
  subst eo e4
  cases pl
  cases pu
  have I5 : Inv X pins σ H4 { s4 with heap := s4.heap.push { cls := .type "slice", data := .fields #[.none, .none, vs] } } := I4.kept (t' := s4.toks) fun b ob q => Heap.get?_push_of_some _ q
  obtain ⟨its, r, ht, hz⟩ := I5.tuple (.of hx)
  have hlen := r.length
  show wpAny (model X.prog X.w) X.A (subscriptTail e (.Slice none none (some (.UnaryOp .USub (.Constant (.int 1) k p1) p2)) p3) (.ref a) (.ref s4.heap.objs.size)) (EP X pins σ Q) X.xe { s4 with heap := s4.heap.push { cls := .type "slice", data := .fields #[.none, .none, vs] } }
  refine tail_any (ops := [.ref a, .ref s4.heap.objs.size]) ht.typeIs (PyProof.Rows.slot_tuple_getitem.lookup) ?_ (by with_unfolding_all rfl)
  refine HT.getItem_tuple_rev ht (Heap.IsSliceOf.new _ .none .none vs) ps ?_ (by rw [List.size_toArray]; omega)
  refine ⟨.ref _, _, I5.laid (t' := s4.toks) (o := .tup xs.reverse) (fun b ob q => Heap.get?_push_of_some _ q) (Nat.le_refl _) ?_, rfl, q _ (I5.hok.fresh (Nat.le_refl _))⟩
  exact ⟨by rw [List.length_reverse]; exact hz, _, r.reverse, IsTup.new _ _⟩
def gRevT (t : TX) : TX := fun τ Q wq => t τ (fun d kd => ∃ ds, d = .tuple ds ∧ Q (.tuple ds.reverse) (.fz kd.b)) wq
theorem ge_revT {e : Expr} {t : TX} {k : Nat} {p1 p2 p3 : Pos} (he : GE X G W e t) : GE X G W (.Subscript e (.Slice none none (some (.UnaryOp .USub (.Constant (.int 1) k p1) p2)) p3) pos) (gRevT t) := by
  obtain ⟨te, q1, f1⟩ := he.ex
  refine ⟨_, pe_revT q1, fun σ H τ ow Q wq Kt S h k w => f1 σ H τ ow _ wq _ S h (fun v H1 d kd g1 r1 q => ?_) w⟩
  obtain ⟨ds, rfl, q⟩ := q
  obtain ⟨a, xs, rfl, e1, t1⟩ := r1.tup
  exact ⟨a, xs, rfl, e1, fun p hp => k _ _ _ _ (g1.trans (Grow.upd hp)) (RV.newT S g1 hp t1.reverse) q⟩
/-! ### str(i) -/
def fStr : List (D × Kd) → QD → Prop
  | [(.int i, _)], Q => i.natAbs.log2 < 1920 ∧ Q (.str (toString i)) (.fz true)
  | _, _ => False
theorem cg_str : CalG X G (fun xs H Q => ∃ i, xs = [.int i] ∧ i.natAbs.log2 < 1920 ∧ Q (.str (toString i)) H) fStr := by
  intro σ H1 H τ ow vs ds Q Kt S gr r hf k
  unfold fStr at hf
  split at hf
  · cases r with
    | cons r1 t => cases t; exact ⟨_, by rw [r1.int], hf.1, k _ _ _ _ Grow.refl (RV.sc fun _ => .str _) hf.2⟩
  · exact hf.elim
theorem ge_toStr {e : Expr} {p : Pos} {t : TXs} (hm : X.mg "str" = none) (ha : GA X G W [e] t) (hg : Gl X "str" := by rfl) (he : starEach [e] X.env = (false, eval e X.env) :: starEach [] X.env := by rfl) : GE X G W (.Call (.Name "str" p) [e] [] pos) (gCall fStr t) :=
  ge_callTy call_str_int cg_str ha hm (by decide +kernel) hg (by decide) (by decide) he
/-! ### {} as a value -/
def gDic0 : TX := fun _ Q _ => Q (dcK []) (.fz true)
theorem ge_dic0 : GE X G W (.Dict [] [] pos) gDic0 :=
  ⟨_, pe_dnewK, fun σ H τ ow Q wq Kt S h k w => fun p np => k _ _ (dcK []) (.fz true) (Grow.upd np) (show DP X.K (upd H p (.dK [])) (Fz G ow true) (.ref p) (dcK []) from .dK (xs := []) (kvs := []) ⟨S.freshO np, .of (S.fresh0 np)⟩ upd_same rfl .nil) h⟩
/-! ### x == (), x == i, x anything -/
inductive EqS (H : Hp) : V → V → Bool → Prop
  | tt {a b : Addr} {xs : List V} : H a = some (.tup xs) → H b = some (.tup []) → EqS H (.ref a) (.ref b) (decide (xs = []))
  | ni (j : Int) : EqS H .non (.int j) false
  | bi (i : Bool) (j : Int) : EqS H (.bl i) (.int j) ((if i then 1 else 0) == j)
  | ii (i j : Int) : EqS H (.int i) (.int j) (i == j)
  | si (i : Str) (j : Int) : EqS H (.str i) (.int j) false
  | li {a : Addr} {xs : List V} (j : Int) : H a = some (.lst xs) → EqS H (.ref a) (.int j) false
  | ti {a : Addr} {xs : List V} (j : Int) : H a = some (.tup xs) → EqS H (.ref a) (.int j) false
  | di {a : Addr} {xs : List (Key × V)} (j : Int) : Rd H a (.dK xs) → EqS H (.ref a) (.int j) false
  | dt {a : Addr} {xs : List (List Key × V)} (j : Int) : H a = some (.dT xs) → EqS H (.ref a) (.int j) false
def rEqS : R2 := fun x y H Q => ∃ b, EqS H x y b ∧ Q (.bl b) H
theorem op_eqS (hu : X.A.units + 64 < cLine) : OpR X (compareOp .Eq) rEqS := by
  intro pins s σ H x y v u Q I rx ry h
  have hu' : X.A.units < cLine := by omega
  obtain ⟨b, e, q⟩ := h
  suffices hs : SeqAt.RcAt X.A s v u b from hs X.prog X.w _ _ ⟨.bl b, H, I, rfl, q⟩
  cases e with
  | tt ha hb =>
    cases rx
    cases ry
    obtain ⟨its, r1, p1, _⟩ := I.tuple (.of ha)
    obtain ⟨its2, r2, p2, _⟩ := I.tuple (.of hb)
    cases r2
    have := SeqAt.RcAt.tuples (e := fun _ => true) p1 p2 hu' (fun j h1 h2 => absurd h2 (by simp))
    cases r1 with
    | nil => simpa using this
    | cons _ _ => simpa using this
  | ni j =>
    cases (show v = Value.none from rx)
    obtain ⟨t, rfl⟩ := ry
    exact SeqAt.RcAt.none_int j t
  | bi i j =>
    cases (show v = Value.bool i from rx)
    obtain ⟨t, rfl⟩ := ry
    exact SeqAt.RcAt.bool_int i j t
  | ii i j =>
    obtain ⟨t1, rfl⟩ := rx
    obtain ⟨t, rfl⟩ := ry
    exact SeqAt.RcAt.int_int i t1 j t
  | si i j =>
    obtain ⟨t1, rfl⟩ := rx
    obtain ⟨t, rfl⟩ := ry
    exact SeqAt.RcAt.str_int i t1 j t
  | li j ha =>
    cases rx
    obtain ⟨t, rfl⟩ := ry
    obtain ⟨us, r1, p1, _⟩ := I.list (.of ha)
    exact SeqAt.RcAt.list_int j t p1.isList hu'
  | ti j ha =>
    cases rx
    obtain ⟨t, rfl⟩ := ry
    obtain ⟨its, r1, p1, _⟩ := I.tuple (.of ha)
    exact SeqAt.RcAt.tuple_int j t p1 hu'
  | @di a xs j ha =>
    cases (show v = Value.ref a from rx)
    obtain ⟨t, rfl⟩ := ry
    obtain ⟨_, _, vs, _, o, es, ep, h1, h2, h3, _⟩ := (show ObjOk X.prog X.w H s.heap a (.dK xs) from ha.ok I.hok)
    exact SeqAt.RcAt.dict_int j t h1 h2.1 h3 hu'
  | @dt a xs j ha =>
    cases (show v = Value.ref a from rx)
    obtain ⟨t, rfl⟩ := ry
    obtain ⟨_, _, vs, _, o, es, ep, h1, h2, h3, _⟩ := (show ObjOk X.prog X.w H s.heap a (.dT xs) from I.hok a _ ha)
    exact SeqAt.RcAt.dict_int j t h1 h2.1 h3 hu'
def fEqS : D → Bool → D → Bool → QD → Prop
  | .tuple ds, _, .tuple [], _, Q => Q (.bool (decide (ds = []))) (.fz true)
  | .none, _, .int _, _, Q => Q (.bool false) (.fz true)
  | .bool i, _, .int j, _, Q => Q (.bool ((if i then 1 else 0) == j)) (.fz true)
  | .int i, _, .int j, _, Q => Q (.bool (decide (i = j))) (.fz true)
  | .str _, _, .int _, _, Q => Q (.bool false) (.fz true)
  | .list _, _, .int _, _, Q => Q (.bool false) (.fz true)
  | .tuple _, _, .int _, _, Q => Q (.bool false) (.fz true)
  | .dict _, _, .int _, _, Q => Q (.bool false) (.fz true)
  | _, _, _, _, _ => False
section
variable {a b : Bool} {Q : QD} {j : Int}
theorem fEqS_tt {ds : List D} : fEqS (.tuple ds) a (.tuple []) b Q = Q (.bool (decide (ds = []))) (.fz true) := rfl
theorem fEqS_n : fEqS .none a (.int j) b Q = Q (.bool false) (.fz true) := rfl
theorem fEqS_b {i : Bool} : fEqS (.bool i) a (.int j) b Q = Q (.bool ((if i then 1 else 0) == j)) (.fz true) := rfl
theorem fEqS_i {i : Int} : fEqS (.int i) a (.int j) b Q = Q (.bool (decide (i = j))) (.fz true) := rfl
theorem fEqS_s {i : Str} : fEqS (.str i) a (.int j) b Q = Q (.bool false) (.fz true) := rfl
theorem fEqS_l {ds : List D} : fEqS (.list ds) a (.int j) b Q = Q (.bool false) (.fz true) := rfl
theorem fEqS_ti {ds : List D} : fEqS (.tuple ds) a (.int j) b Q = Q (.bool false) (.fz true) := rfl
theorem fEqS_d {ds : List (D × D)} : fEqS (.dict ds) a (.int j) b Q = Q (.bool false) (.fz true) := rfl
end
theorem DPs.nilD {K : PySem.W.Frag} {H : Hp} {P : Addr → Prop} {vs : List V} {ds : List D} (h : DPs K H P vs ds) : decide (vs = []) = decide (ds = []) := by
  cases h <;> simp
theorem og_eqS : OpG X G rEqS fEqS := by
  intro σ H1 H τ ow x y dx dy kx ky Q Kt S gr rx ry hf k
  unfold fEqS at hf
  split at hf
  · obtain ⟨a, xs, rfl, e1, t1⟩ := rx.tup
    obtain ⟨b, ys, rfl, e2, t2⟩ := ry.tup
    cases t2
    refine ⟨_, .tt e1 e2, ?_⟩
    rw [t1.nilD]
    exact k _ _ _ _ Grow.refl (RV.sc fun _ => .bl _) hf
  · rw [rx.non, ry.int]; exact ⟨_, .ni _, k _ _ _ _ Grow.refl (RV.sc fun _ => .bl _) hf⟩
  · rw [rx.bool, ry.int]; exact ⟨_, .bi _ _, k _ _ _ _ Grow.refl (RV.sc fun _ => .bl _) hf⟩
  · rw [rx.int, ry.int]; exact ⟨_, .ii _ _, k _ _ _ _ Grow.refl (RV.sc fun _ => .bl _) hf⟩
  · rw [rx.str, ry.int]; exact ⟨_, .si _ _, k _ _ _ _ Grow.refl (RV.sc fun _ => .bl _) hf⟩
  · obtain ⟨a, xs, rfl, e1, t1⟩ := rx.lst
    rw [ry.int]; exact ⟨_, .li _ e1, k _ _ _ _ Grow.refl (RV.sc fun _ => .bl _) hf⟩
  · obtain ⟨a, xs, rfl, e1, t1⟩ := rx.tup
    rw [ry.int]; exact ⟨_, .ti _ e1, k _ _ _ _ Grow.refl (RV.sc fun _ => .bl _) hf⟩
  · rw [ry.int]
    rename_i kvs _ _ _
    obtain ⟨a, rfl, h⟩ := rx.dct
    rcases h with ⟨xs, h⟩ | ⟨xs, h⟩
    · exact ⟨_, .di _ h, k _ _ _ _ Grow.refl (RV.sc fun _ => .bl _) hf⟩
    · exact ⟨_, .dt _ h, k _ _ _ _ Grow.refl (RV.sc fun _ => .bl _) hf⟩
  · exact hf.elim
end
end TL

set_option maxHeartbeats 2000000
namespace LS
open PySem PySem.Spec PyProof.Rows L2 TL LW
local macro_rules | `(tactic| simp_all only [$xs:simpLemma,*]) => `(tactic| (try simp only [$xs,*, sSeq, sNext, sIf, sRet, sRetN, sSet, sApp, sSetL, sFor, sDrop, sRaise, sTry, sPut, sNewK, sNewT, sBreak, sCont, sUnp, gT, gTru, fTru, gNot, gAndB, gOrB, gAndV, gOrV, gNotV, gIf, gCh, TL.gTup, TL.gLst, gSl, gNoP, gP, gCall, gIsi, fIsi, tyD, gFn, gDIn, gDGet, gSortT, TL.gCons, TL.gNil, gBin, gUn, fNeg, gC, gV, rdSl, asB, asI, fAdd, fMul, fI0, fI2, fLt, fMin2, fMax2, fLen, fTuple, fList, fInt, fSorted, fIx_l, fIx_t, isOw_fz, isOw_nw, isOw_res, ex_own, ex_dK, ex_dT, String.reduceBEq, Bool.or_false, Bool.or_self, Bool.and_false, Bool.false_and, Bool.true_or, Bool.or_true, Bool.false_or, fIsN, iSeq, itD, iRg, fRg1, fRg2, tN, tTupG, tsCons, tsNil, gYes, setSl, appSl, setAt, putSl, getSl, retOk_res, retOk_int, retOk_bool, retOk_str, retOk_non, retOk_nw, retOk_ow, retOk_tupT, retOk_tup, kb_fz, kb_nw, kb_ow, kb_res, no_fz, no_nw, no_res, res_int, res_bool, res_str, res_non, res_tup, res_lst, frOk, TL.allB, ent, frzA, List.map_cons, List.map_nil, List.getElem?_cons_zero, List.getElem?_cons_succ, List.set_cons_zero, List.set_cons_succ, decide_eq_true_eq, Bool.and_true, Bool.true_and, Bool.and_self, true_and, and_true, List.cons_append, List.nil_append, List.append_nil, List.length_cons, List.length_nil, Bool.false_eq_true, Bool.not_true, Bool.not_false, reduceIte, true_or, or_true, false_or, or_false, false_and, and_false, List.replicate_succ, List.replicate_zero, reduceCtorEq, ne_eq, not_false_eq_true, implies_true, Bool.not_eq_true', decide_eq_false_iff_not, decide_true, decide_false, Nat.reduceAdd, Nat.reduceSub, Nat.reduceLT, Nat.reduceLeDiff, gLc, gLc2, wipeT, im, fMM, fLR, gIndex, sAppPop, sSetPop, sSetPop0, sMB, gMB, sSetMB, sLcPop, Bool.false_bne, Bool.false_xor, Bool.true_xor, fEq_ii, fEq_bb, fEq_ss, fEq_ll, fEq_tt, fNe_ii, fNe_bb, fNe_ss, fNe_ll, fNe_tt, fIn_l, fIn_t, fSl_l, fSl_t, cut1, fSrt, fMinD, gNotT, frOk_fz, allB_fzt, fst_fz, len_fz, sFrz, frzT, sExt, extSl, sRem, remSl, sAugI, sAug, gStar, starD, gTupS, gLstS, iEn, iEn2, itE, sDc, dcL, gDead, sTryAs, gIsE, sIns, insSl, sRev, sPopX, iRg3, fRg3, iZp, zipD, sNew1, gSortK, gCh3, toKey, getSl, iDs, im_pD, im_tI, im.imAll, im_pairs, imAll_ints, atQ0, atQ1, atQ2, atQ3, gD, popSl, sAppPop, sRetO, gFnO]))
/-! ### strange values -/
def At1 : D → Prop
  | .none => True
  | .bool _ => True
  | .int _ => True
  | .str s => PyData.strOk s = true
  | .dict kvs => PyData.dict kvs = dcK []
  | _ => False
/-- a value of nesting at most d, with at most m items in each tuple and list -/
def Sv (m : Nat) : Nat → D → Prop
  | 0 => At1
  | d + 1 => fun v => At1 v ∨ ∃ xs : List D, (v = .tuple xs ∨ v = .list xs) ∧ xs.length ≤ m ∧ ∀ x ∈ xs, Sv m d x
theorem sv_at {m : Nat} {v : D} (h : At1 v) : ∀ {d : Nat}, Sv m d v
  | 0 => h
  | _ + 1 => .inl h
theorem sv_mono {m m' : Nat} (hm : m ≤ m') : ∀ {d : Nat} {v : D}, Sv m d v → Sv m' d v
  | 0, _, h => h
  | d + 1, v, h => by
    rcases h with h | ⟨xs, e, hl, hx⟩
    · exact .inl h
    · exact .inr ⟨xs, e, by omega, fun x hx' => sv_mono hm (hx x hx')⟩
theorem sv_succ {m : Nat} : ∀ {d : Nat} {v : D}, Sv m d v → Sv m (d + 1) v
  | 0, _, h => .inl h
  | d + 1, v, h => by
    rcases h with h | ⟨xs, e, hl, hx⟩
    · exact .inl h
    · exact .inr ⟨xs, e, hl, fun x hx' => sv_succ (hx x hx')⟩
theorem sv_items {m d : Nat} {v : D} (h : Sv m d v) {xs : List D} (e : v = .tuple xs ∨ v = .list xs) : xs.length ≤ m ∧ ∃ c, d = c + 1 ∧ ∀ x ∈ xs, Sv m c x := by
  cases d with
  | zero =>
    rcases e with rfl | rfl
    · exact (show False from h).elim
    · exact (show False from h).elim
  | succ d =>
    rcases h with h | ⟨ys, e2, hl, hy⟩
    · rcases e with rfl | rfl
      · exact (show False from h).elim
      · exact (show False from h).elim
    · have : ys = xs := by
        rcases e with rfl | rfl
        · rcases e2 with e2 | e2
          · injection e2 with e2; exact e2.symm
          · cases e2
        · rcases e2 with e2 | e2
          · cases e2
          · injection e2 with e2; exact e2.symm
      subst this
      exact ⟨hl, d, rfl, hy⟩
theorem sv_dict {m d : Nat} {kvs : List (D × D)} (h : Sv m d (.dict kvs)) : PyData.dict kvs = dcK [] := by
  cases d with
  | zero => exact h
  | succ d =>
    rcases h with h | ⟨xs, e | e, _⟩
    · exact h
    · cases e
    · cases e
theorem sv_t {m d : Nat} {xs : List D} (hl : xs.length ≤ m) (h : ∀ x ∈ xs, Sv m d x) : Sv m (d + 1) (.tuple xs) := .inr ⟨xs, .inl rfl, hl, h⟩
theorem sv_l {m d : Nat} {xs : List D} (hl : xs.length ≤ m) (h : ∀ x ∈ xs, Sv m d x) : Sv m (d + 1) (.list xs) := .inr ⟨xs, .inr rfl, hl, h⟩
theorem sv_t0 {m d : Nat} : Sv m (d + 1) (.tuple []) := sv_t (by simp) (by simp)
theorem at_dic : At1 (dcK []) := show PyData.dict _ = dcK [] from rfl
theorem atQ_mem {ds : List D} {i : Int} {Q : D → Prop} (h0 : 0 ≤ i) (h1 : i < (ds.length : Nat)) (q : ∀ d ∈ ds, Q d) : atQ (atI ds i) Q := by
  have hl : i.toNat < ds.length := by omega
  exact atQ_of h0 (List.getElem?_eq_getElem hl) (q _ (List.getElem_mem hl))
theorem cut_up {ds : List D} {i : Int} (h : 0 ≤ i) : TL.cutD ds none (some i) = ds.take i.toNat := by
  unfold TL.cutD HT.sIx
  simp only
  rw [if_neg (by omega)]
  simp only [List.drop_zero, Nat.sub_zero]
  rcases Nat.le_total i.toNat ds.length with q | q
  · rw [Nat.min_eq_left q]
  · rw [Nat.min_eq_right q, List.take_of_length_le q, List.take_of_length_le (Nat.le_refl _)]
theorem cut_mem {ds : List D} {lo hi : Option Int} {x : D} (h : x ∈ TL.cutD ds lo hi) : x ∈ ds := by
  unfold TL.cutD at h
  exact List.mem_of_mem_drop (List.mem_of_mem_take h)
theorem cut_le (ds : List D) (lo hi : Option Int) : (TL.cutD ds lo hi).length ≤ ds.length := by
  unfold TL.cutD
  rw [List.length_take, List.length_drop]
  omega
theorem cut_one {xs : List D} {i j : Int} (h : 0 ≤ i) (e : j = i + 1) : (TL.cutD xs (some i) (some j)).length ≤ 1 := by
  subst e
  unfold TL.cutD HT.sIx
  simp only
  rw [if_neg (by omega), if_neg (by omega), List.length_take, List.length_drop]
  omega
theorem strs_ok : ∀ k : Fin 64, PyData.strOk (Str.ofString (toString ((k.val : Nat) : Int))) = true := by decide +kernel
theorem str_ok {n : Int} (h0 : 0 ≤ n) (h1 : n ≤ 60) : PyData.strOk (Str.ofString (toString n)) = true := by
  have := strs_ok ⟨n.toNat, by omega⟩
  rwa [show (((⟨n.toNat, by omega⟩ : Fin 64).val : Nat) : Int) = n by simp; omega] at this
def isI : D → Bool
  | .int _ => true
  | _ => false
def S__law_is_int : FSp := fun ds Q _ => ∃ v : D, ds = [v] ∧ Q (.bool (isI v))
def S_is_integer : FSp := S__law_is_int
def S__law_strange : FSp := fun ds Q _ => ∃ (v : D) (m M d : Nat) (n : Int), ds = [v, .int n] ∧ Sv m d v ∧ 2 * m ≤ M ∧ 2 ≤ M ∧ m ≤ 100000 ∧ 0 ≤ n ∧ n ≤ 60 ∧ ∀ v', Sv M (d + 2) v' → Q v'
def S__law_spoilt : Nat → FSp
  | 0 => fun _ _ _ => False
  | k + 1 => fun ds Q _ => ∃ (v : D) (m M d : Nat) (n : Int), ds = [v, .int n] ∧ Sv m d v ∧ 2 * m ≤ M ∧ 2 ≤ M ∧ d ≤ k ∧ m ≤ 100000 ∧ 1 ≤ n ∧ n ≤ 60 ∧ ∀ v', Sv M (d + 2) v' → Q v'
/- _law_is_int: 0 _law_x -/
def t__law_is_int : TSt := sRet (gAndV (gIsi "int" (gV 0)) (gNotV (gIsi "bool" (gV 0))))
/- is_integer: 0 value -/
def t_is_integer : TSt := sRet (gAndV (gIsi "int" (gV 0)) (gNotV (gIsi "bool" (gV 0))))
/- _law_strange: 0 _law_pool_here, 1 _law_value, 2 _law_n, 3 _law_rows -/
def z__law_strange_1 : TSt := sRetO (gBin fIx (gV 3) (gFn S__law_draw (gCons (gCall fLen (gCons (gV 3) (gNil))) (gNil))))
def z__law_strange_2 : TSt := sSeq (sSet 3 (gLst (gCons (gC .none) (gCons (gC (.bool true)) (gCons (gC (.bool false)) (gCons (gC (.str "yes")) (gCons (gTup (gNil)) (gCons (gLst (gNil)) (gCons (gDic0) (gCons (gC (.int 0)) (gCons (gV 2) (gCons (gTup (gCons (gC (.int 0)) (gNil))) (gCons (gC (.str "union")) (gCons (gTup (gCons (gTup (gNil)) (gNil))) (gCons (gUn fNeg (gC (.int 1))) (gNil)))))))))))))))) (sSeq (sIf (gTru (gIsi "tuple" (gV 1))) (sSet 3 (gBin fAdd (gV 3) (gLst (gCons (gCall fList (gCons (gV 1) (gNil))) (gCons (gBin fAdd (gV 1) (gV 1)) (gCons (gTup (gCons (gV 1) (gNil))) (gCons (gRevT (gV 1)) (gNil)))))))) (sSet 3 (gBin fAdd (gV 3) (gLst (gCons (gTup (gCons (gV 1) (gNil))) (gCons (gLst (gCons (gV 1) (gNil))) (gCons (gBin fEqS (gV 1) (gC (.int 1))) (gCons (gCall fStr (gCons (gV 2) (gNil))) (gNil))))))))) (z__law_strange_1))
def t__law_strange : TSt := sSeq (sIf (gAndB (gTru (gFn S__law_is_int (gCons (gV 1) (gNil)))) (gT (gBin fGt (gFn S__law_draw (gCons (gC (.int 3)) (gNil))) (gC (.int 0))))) (sRetO (gBin fIx (gLst (gCons (gBin fAdd (gV 1) (gC (.int 1))) (gCons (gBin fSub (gV 1) (gC (.int 1))) (gCons (gFn S__law_draw (gCons (gBin fAdd (gV 2) (gC (.int 1))) (gNil))) (gCons (gUn fNeg (gC (.int 1))) (gCons (gV 2) (gNil))))))) (gFn S__law_draw (gCons (gC (.int 5)) (gNil))))) (sNext)) (z__law_strange_2)
/- _law_spoilt: 0 _law_pool_here, 1 _law_value, 2 _law_n, 3 _law_at, 4 _law_way -/
def z__law_spoilt_1 (n : Nat) : TSt := sSeq (sSet 3 (gFn S__law_draw (gCons (gCall fLen (gCons (gV 1) (gNil))) (gNil)))) (sSeq (sSet 4 (gFn S__law_draw (gCons (gC (.int 8)) (gNil)))) (sSeq (sIf (gT (gBin fEqS (gV 4) (gC (.int 0)))) (sRetO (gBin fAdd (gSl (gV 1) gNoP (gP (gV 3))) (gSl (gV 1) (gP (gBin fAdd (gV 3) (gC (.int 1)))) gNoP))) (sNext)) (sSeq (sIf (gT (gBin fEqS (gV 4) (gC (.int 1)))) (sRetO (gBin fAdd (gBin fAdd (gSl (gV 1) gNoP (gP (gV 3))) (gTup (gCons (gBin fIx (gV 1) (gV 3)) (gNil)))) (gSl (gV 1) (gP (gV 3)) gNoP))) (sNext)) (sSeq (sIf (gT (gBin fEqS (gV 4) (gC (.int 2)))) (sRetO (gBin fAdd (gBin fAdd (gBin fAdd (gSl (gV 1) gNoP (gP (gV 3))) (gSl (gV 1) (gP (gBin fAdd (gV 3) (gC (.int 1)))) (gP (gBin fAdd (gV 3) (gC (.int 2)))))) (gSl (gV 1) (gP (gV 3)) (gP (gBin fAdd (gV 3) (gC (.int 1)))))) (gSl (gV 1) (gP (gBin fAdd (gV 3) (gC (.int 2)))) gNoP))) (sNext)) (sSeq (sIf (gT (gBin fEqS (gV 4) (gC (.int 3)))) (sRetO (gBin fAdd (gV 1) (gTup (gCons (gFn S__law_draw (gCons (gV 2) (gNil))) (gNil))))) (sNext)) (sRetO (gBin fAdd (gBin fAdd (gSl (gV 1) gNoP (gP (gV 3))) (gTup (gCons (gFnO (S__law_spoilt n) (gCons (gBin fIx (gV 1) (gV 3)) (gCons (gV 2) (gNil)))) (gNil)))) (gSl (gV 1) (gP (gBin fAdd (gV 3) (gC (.int 1)))) gNoP))))))))
def t__law_spoilt (n : Nat) : TSt := sSeq (sIf (gOrB (gNot (gTru (gIsi "tuple" (gV 1)))) (gOrB (gT (gBin fEqS (gV 1) (gTup (gNil)))) (gT (gBin fEqS (gFn S__law_draw (gCons (gC (.int 6)) (gNil))) (gC (.int 0)))))) (sRetO (gFnO S__law_strange (gCons (gV 1) (gCons (gV 2) (gNil))))) (sNext)) ((z__law_spoilt_1 n))
theorem r__law_is_int : ∀ (ds : List D) (Qt : D → Prop) (Et : WQ), ds.length = 1 → S__law_is_int ds Qt Et → t__law_is_int { nx := fun _ => Qt .none, rt := fun d _ => Qt d } (fun nm _ => Et nm) (ent false 1 ds) := by
  rintro ds Qt Et - ⟨v, rfl, h⟩
  cases v with
  | dict _ =>
    simp_all only [t__law_is_int, tyD]
    exact h
  | _ =>
    simp_all only [t__law_is_int, tyD]
    exact h
theorem r_is_integer : ∀ (ds : List D) (Qt : D → Prop) (Et : WQ), ds.length = 1 → S_is_integer ds Qt Et → t_is_integer { nx := fun _ => Qt .none, rt := fun d _ => Qt d } (fun nm _ => Et nm) (ent false 1 ds) := by
  rintro ds Qt Et - ⟨v, rfl, h⟩
  cases v with
  | dict _ =>
    simp_all only [t_is_integer, tyD]
    exact h
  | _ =>
    simp_all only [t_is_integer, tyD]
    exact h
theorem base13 {M d : Nat} {n : Int} (hM : 2 ≤ M) : ∀ x ∈ [PyData.none, .bool true, .bool false, .str "yes", .tuple [], .list [], dcK [], .int 0, .int n, .tuple [.int 0], .str "union", .tuple [.tuple []], .int (-1)], Sv M (d + 2) x := by
  intro x hx
  simp only [List.mem_cons, List.not_mem_nil, or_false] at hx
  rcases hx with rfl | rfl | rfl | rfl | rfl | rfl | rfl | rfl | rfl | rfl | rfl | rfl | rfl
  · exact sv_at (show At1 .none from trivial)
  · exact sv_at (show At1 (.bool _) from trivial)
  · exact sv_at (show At1 (.bool _) from trivial)
  · exact sv_at (by show PyData.strOk _ = true; decide +kernel)
  · exact sv_t0
  · exact sv_l (by simp) (by simp)
  · exact sv_at at_dic
  · exact sv_at (show At1 (.int _) from trivial)
  · exact sv_at (show At1 (.int _) from trivial)
  · exact sv_t (by simp; omega) fun x hx => by rw [List.mem_singleton.mp hx]; exact sv_at (show At1 (.int _) from trivial)
  · exact sv_at (by show PyData.strOk _ = true; decide +kernel)
  · exact sv_t (by simp; omega) fun x hx => by rw [List.mem_singleton.mp hx]; exact sv_t0
  · exact sv_at (show At1 (.int _) from trivial)
theorem all17 {M d : Nat} {n : Int} {a b c e : D} (hM : 2 ≤ M) (ha : Sv M (d + 2) a) (hb : Sv M (d + 2) b) (hc : Sv M (d + 2) c) (he : Sv M (d + 2) e) :
    ∀ x ∈ [PyData.none, .bool true, .bool false, .str "yes", .tuple [], .list [], dcK [], .int 0, .int n, .tuple [.int 0], .str "union", .tuple [.tuple []], .int (-1), a, b, c, e], Sv M (d + 2) x := by
  intro x hx
  have hx : x ∈ [PyData.none, .bool true, .bool false, .str "yes", .tuple [], .list [], dcK [], .int 0, .int n, .tuple [.int 0], .str "union", .tuple [.tuple []], .int (-1)] ++ [a, b, c, e] := hx
  rcases List.mem_append.mp hx with hx | hx
  · exact base13 hM x hx
  · simp only [List.mem_cons, List.not_mem_nil, or_false] at hx
    rcases hx with rfl | rfl | rfl | rfl <;> assumption
theorem r__law_strange : ∀ (ds : List D) (Qt : D → Prop) (Et : WQ), ds.length = 2 → S__law_strange ds Qt Et → t__law_strange { nx := fun _ => Qt .none, rt := fun d _ => Qt d } (fun nm _ => Et nm) (ent true 4 ds) := by
  rintro ds Qt Et - ⟨v, m, M, d, n, rfl, hv, hmM, hM, hm, n0, n1, hQ⟩
  have up : Sv M (d + 1) v := sv_succ (sv_mono (by omega) hv)
  have h1 : Sv M (d + 2) (.tuple [v]) := sv_t (by simp; omega) fun x hx => by rw [List.mem_singleton.mp hx]; exact up
  have h2 : Sv M (d + 2) (.list [v]) := sv_l (by simp; omega) fun x hx => by rw [List.mem_singleton.mp hx]; exact up
  have h4 : Sv M (d + 2) (.str (Str.ofString (toString n))) := sv_at (by show PyData.strOk _ = true; exact str_ok n0 n1)
  have hb : ∀ b : Bool, Sv M (d + 2) (.bool b) := fun b => sv_at (show At1 (.bool b) from trivial)
  have hi : ∀ i : Int, Qt (.int i) := fun i => hQ _ (sv_at (show At1 (.int i) from trivial))
  have big : n.natAbs.log2 < 1920 := Nat.lt_of_le_of_lt (Nat.log2_le_self _) (by omega)
  have fin : ∀ (a b c e : D), Sv M (d + 2) a → Sv M (d + 2) b → Sv M (d + 2) c → Sv M (d + 2) e → ∀ r : Int, 0 ≤ r → r < 17 →
      atQ (atI [PyData.none, .bool true, .bool false, .str "yes", .tuple [], .list [], dcK [], .int 0, .int n, .tuple [.int 0], .str "union", .tuple [.tuple []], .int (-1), a, b, c, e] r) Qt :=
    fun a b c e ha hb hc he r r0 r1 => atQ_mem (Q := Qt) r0 (by simpa using r1) fun x hx => hQ x (all17 hM ha hb hc he x hx)
  have tail : z__law_strange_2 { nx := fun _ => Qt .none, rt := fun d _ => Qt d } (fun nm _ => Et nm) [none, some (.fz (v) false), some (.fz (.int (n)) false), none] := by
    cases v with
    | tuple xs =>
      obtain ⟨xl, c, rfl, hx⟩ := sv_items hv (.inl rfl)
      have hx3 : ∀ x ∈ xs, Sv M (c + 2) x := fun x h => sv_succ (sv_succ (sv_mono (show m ≤ M by omega) (hx x h)))
      simp_all only [z__law_strange_2, z__law_strange_1, tyD, gDic0, gRevT]
      refine ⟨sl_le (by omega), xs, rfl, sl_le (by decide), ?_⟩
      refine ⟨17, rfl, by decide, by decide, fun r r0 r1 => ?_⟩
      simp_all only [true_and]
      refine fin _ _ _ _ (sv_l (m := M) (by omega) hx3) (sv_t (m := M) (xs := xs ++ xs) (by rw [List.length_append]; omega) fun x h => ?_) h1 (sv_t (m := M) (xs := xs.reverse) (by rw [List.length_reverse]; omega) fun x h => hx3 x (List.mem_reverse.mp h)) r r0 r1
      rcases List.mem_append.mp h with h | h <;> exact hx3 x h
    | int i =>
      simp_all only [z__law_strange_2, z__law_strange_1, tyD, fEqS_tt, fEqS_n, fEqS_b, fEqS_i, fEqS_s, fEqS_l, fEqS_ti, fEqS_d, fStr, gDic0]
      refine ⟨big, sl_le (by decide), ?_⟩
      refine ⟨17, rfl, by decide, by decide, fun r r0 r1 => ?_⟩
      simp_all only [true_and]
      exact fin _ _ _ _ h1 h2 (hb _) h4 r r0 r1
    | dict kvs =>
      simp_all only [z__law_strange_2, z__law_strange_1, tyD, fEqS_tt, fEqS_n, fEqS_b, fEqS_i, fEqS_s, fEqS_l, fEqS_ti, fEqS_d, fStr, gDic0]
      refine ⟨big, sl_le (by decide), ?_⟩
      refine ⟨17, rfl, by decide, by decide, fun r r0 r1 => ?_⟩
      simp_all only [true_and]
      exact fin _ _ _ _ h1 h2 (hb _) h4 r r0 r1
    | _ =>
      simp_all only [z__law_strange_2, z__law_strange_1, tyD, fEqS_tt, fEqS_n, fEqS_b, fEqS_i, fEqS_s, fEqS_l, fEqS_ti, fEqS_d, fStr, gDic0]
      refine ⟨big, sl_le (by decide), ?_⟩
      refine ⟨17, rfl, by decide, by decide, fun r r0 r1 => ?_⟩
      simp_all only [true_and]
      exact fin _ _ _ _ h1 h2 (hb _) h4 r r0 r1
  cases v with
  | int i =>
    simp_all only [t__law_strange]
    refine ⟨_, rfl, ?_⟩
    simp_all only [isI]
    refine ⟨3, rfl, by decide, by decide, fun t t0 t1 => ?_⟩
    simp_all only [true_and]
    split
    · refine ⟨_, rfl, by omega, by omega, fun r r0 r1 => ?_⟩
      simp_all only [true_and]
      refine ⟨5, rfl, by decide, by decide, fun w w0 w1 => ?_⟩
      simp_all only [true_and]
      refine atQ_mem (ds := [.int (i + 1), .int (i - 1), .int r, .int (-1), .int n]) (Q := Qt) w0 (by simp; omega) fun x hx => ?_
      simp only [List.mem_cons, List.not_mem_nil, or_false] at hx
      rcases hx with rfl | rfl | rfl | rfl | rfl <;> exact hi _
    · exact tail
  | _ =>
    simp_all only [t__law_strange]
    refine ⟨_, rfl, ?_⟩
    simp_all only [isI]
    exact tail
theorem r__law_spoilt (n : Nat) : ∀ (ds : List D) (Qt : D → Prop) (Et : WQ), ds.length = 2 → S__law_spoilt (n + 1) ds Qt Et → t__law_spoilt n { nx := fun _ => Qt .none, rt := fun d _ => Qt d } (fun nm _ => Et nm) (ent true 5 ds) := by
  rintro ds Qt Et - ⟨v, m, M, d, j, rfl, hv, hmM, hM, hd, hm, n0, n1, hQ⟩
  have strange : S__law_strange [v, .int j] Qt Et := ⟨v, m, M, d, j, rfl, hv, hmM, hM, hm, by omega, n1, hQ⟩
  cases v with
  | tuple xs =>
    obtain ⟨xl, c, rfl, hx⟩ := sv_items hv (.inl rfl)
    have okT : ∀ ys : List D, ys.length ≤ M → (∀ y ∈ ys, Sv M (c + 2) y) → Qt (.tuple ys) := fun ys h1 h2 => hQ _ (sv_t h1 h2)
    have up : ∀ y ∈ xs, Sv M (c + 2) y := fun y hy => sv_succ (sv_succ (sv_mono (by omega) (hx y hy)))
    simp_all only [t__law_spoilt, tyD, fEqS_tt, fEqS_n, fEqS_b, fEqS_i, fEqS_s, fEqS_l, fEqS_ti, fEqS_d]
    split
    · exact strange
    · rename_i hne
      have hpos : 0 < xs.length := List.length_pos_iff.mpr hne
      refine ⟨6, rfl, by decide, by decide, fun t t0 t1 => ?_⟩
      simp_all only [fEqS_i]
      split
      · exact strange
      · simp_all only [z__law_spoilt_1]
        refine ⟨_, rfl, by omega, by omega, fun a a0 a1 => ?_⟩
        simp_all only [true_and]
        refine ⟨8, rfl, by decide, by decide, fun w w0 w1 => ?_⟩
        simp_all only [fEqS_i]
        have ha : a.toNat < xs.length := by omega
        have mem : ∀ {lo hi : Option Int} {y : D}, y ∈ TL.cutD xs lo hi → Sv M (c + 2) y := fun h => up _ (cut_mem h)
        have c1 : (TL.cutD xs none (some a)).length ≤ a.toNat := by rw [cut_up a0, List.length_take]; omega
        have c2 : (TL.cutD xs (some (a + 1)) none).length ≤ xs.length - (a.toNat + 1) := by rw [cut_from (by omega), List.length_drop]; omega
        have c3 : (TL.cutD xs (some a) none).length ≤ xs.length - a.toNat := by rw [cut_from (by omega), List.length_drop]; omega
        have c4 := cut_le xs (some (a + 2)) none
        split
        · refine ⟨sl_le (by omega), okT _ (by rw [List.length_append]; omega) fun y hy => ?_⟩
          rcases List.mem_append.mp hy with hy | hy <;> exact mem hy
        · split
          · refine atQ_mem a0 a1 fun z hz => ?_
            simp_all only [true_and]
            refine ⟨sl_le (by omega), sl_le (by rw [List.length_append]; simp; omega), okT _ (by rw [List.length_append, List.length_append]; simp; omega) fun y hy => ?_⟩
            rcases List.mem_append.mp hy with hy | hy
            · rcases List.mem_append.mp hy with hy | hy
              · exact mem hy
              · rw [List.mem_singleton.mp hy]; exact up _ hz
            · exact mem hy
          · split
            · have c5 := cut_one (xs := xs) (i := a + 1) (j := a + 2) (by omega) (by omega)
              have c6 := cut_one (xs := xs) (i := a) (j := a + 1) (by omega) (by omega)
              have c7 : (TL.cutD xs none (some a)).length ≤ a.toNat := by rw [cut_up a0, List.length_take]; omega
              have c8 : (TL.cutD xs (some (a + 2)) none).length ≤ xs.length - (a.toNat + 2) := by rw [cut_from (by omega), List.length_drop]; omega
              refine ⟨sl_le (by omega), sl_le (by rw [List.length_append]; omega), sl_le (by rw [List.length_append, List.length_append]; omega), okT _ (by rw [List.length_append, List.length_append, List.length_append]; omega) fun y hy => ?_⟩
              rcases List.mem_append.mp hy with hy | hy
              · rcases List.mem_append.mp hy with hy | hy
                · rcases List.mem_append.mp hy with hy | hy <;> exact mem hy
                · exact mem hy
              · exact mem hy
            · split
              · refine ⟨_, rfl, by omega, by omega, fun r r0 r1 => ?_⟩
                simp_all only [true_and]
                refine ⟨sl_le (by omega), okT _ (by rw [List.length_append]; simp; omega) fun y hy => ?_⟩
                rcases List.mem_append.mp hy with hy | hy
                · exact up y hy
                · rw [List.mem_singleton.mp hy]; exact sv_at (show At1 (.int _) from trivial)
              · refine atQ_mem a0 a1 fun z hz => ?_
                simp_all only [true_and]
                obtain ⟨k', rfl⟩ : ∃ k', n = k' + 1 := ⟨n - 1, by omega⟩
                refine ⟨z, m, M, c, j, rfl, hx z hz, hmM, hM, by omega, hm, n0, n1, fun z' hz' => ?_⟩
                simp_all only [true_and]
                refine ⟨sl_le (by omega), sl_le (by rw [List.length_append]; simp; omega), okT _ (by rw [List.length_append, List.length_append]; simp; omega) fun y hy => ?_⟩
                rcases List.mem_append.mp hy with hy | hy
                · rcases List.mem_append.mp hy with hy | hy
                  · exact mem hy
                  · rw [List.mem_singleton.mp hy]; exact hz'
                · exact mem hy
  | _ =>
    simp_all only [t__law_spoilt, tyD, fEqS_tt, fEqS_n, fEqS_b, fEqS_i, fEqS_s, fEqS_l, fEqS_ti, fEqS_d]
    first | exact strange | skip
end LS

set_option maxHeartbeats 2000000
namespace LS
open PySem PySem.Spec PyProof.Rows L2 TL LW
local macro_rules | `(tactic| simp_all only [$xs:simpLemma,*]) => `(tactic| (try simp only [$xs,*, sSeq, sNext, sIf, sRet, sRetN, sSet, sApp, sSetL, sFor, sDrop, sRaise, sTry, sPut, sNewK, sNewT, sBreak, sCont, sUnp, gT, gTru, fTru, gNot, gAndB, gOrB, gAndV, gOrV, gNotV, gIf, gCh, TL.gTup, TL.gLst, gSl, gNoP, gP, gCall, gIsi, fIsi, tyD, gFn, gDIn, gDGet, gSortT, TL.gCons, TL.gNil, gBin, gUn, fNeg, gC, gV, rdSl, asB, asI, fAdd, fMul, fI0, fI2, fLt, fMin2, fMax2, fLen, fTuple, fList, fInt, fSorted, fIx_l, fIx_t, isOw_fz, isOw_nw, isOw_res, ex_own, ex_dK, ex_dT, String.reduceBEq, Bool.or_false, Bool.or_self, Bool.and_false, Bool.false_and, Bool.true_or, Bool.or_true, Bool.false_or, fIsN, iSeq, itD, iRg, fRg1, fRg2, tN, tTupG, tsCons, tsNil, gYes, setSl, appSl, setAt, putSl, getSl, retOk_res, retOk_int, retOk_bool, retOk_str, retOk_non, retOk_nw, retOk_ow, retOk_tupT, retOk_tup, kb_fz, kb_nw, kb_ow, kb_res, no_fz, no_nw, no_res, res_int, res_bool, res_str, res_non, res_tup, res_lst, frOk, TL.allB, ent, frzA, List.map_cons, List.map_nil, List.getElem?_cons_zero, List.getElem?_cons_succ, List.set_cons_zero, List.set_cons_succ, decide_eq_true_eq, Bool.and_true, Bool.true_and, Bool.and_self, true_and, and_true, List.cons_append, List.nil_append, List.append_nil, List.length_cons, List.length_nil, Bool.false_eq_true, Bool.not_true, Bool.not_false, reduceIte, true_or, or_true, false_or, or_false, false_and, and_false, List.replicate_succ, List.replicate_zero, reduceCtorEq, ne_eq, not_false_eq_true, implies_true, Bool.not_eq_true', decide_eq_false_iff_not, decide_true, decide_false, Nat.reduceAdd, Nat.reduceSub, Nat.reduceLT, Nat.reduceLeDiff, gLc, gLc2, wipeT, im, fMM, fLR, gIndex, sAppPop, sSetPop, sSetPop0, sMB, gMB, sSetMB, sLcPop, Bool.false_bne, Bool.false_xor, Bool.true_xor, fEq_ii, fEq_bb, fEq_ss, fEq_ll, fEq_tt, fNe_ii, fNe_bb, fNe_ss, fNe_ll, fNe_tt, fIn_l, fIn_t, fSl_l, fSl_t, cut1, fSrt, fMinD, gNotT, frOk_fz, allB_fzt, fst_fz, len_fz, sFrz, frzT, sExt, extSl, sRem, remSl, sAugI, sAug, gStar, starD, gTupS, gLstS, iEn, iEn2, itE, sDc, dcL, gDead, sTryAs, gIsE, sIns, insSl, sRev, sPopX, iRg3, fRg3, iZp, zipD, sNew1, gSortK, gCh3, toKey, getSl, iDs, im_pD, im_tI, im.imAll, im_pairs, imAll_ints, atQ0, atQ1, atQ2, atQ3, gD, popSl, sAppPop, sRetO, gFnO]))
/-! ### is it a graph -/
def IsInts (v : D) : Prop := ∃ l : List Int, v = tI l
def GrV (v : D) : Prop := ∃ n L, v = gD n L ∧ Gr n L ∧ 1 ≤ n ∧ n ≤ 60
def S_is_integer_tuple : FSp := fun ds Q _ => ∃ v : D, ds = [v] ∧ (∀ xs, v = .tuple xs → xs.length ≤ 100000) ∧ ∀ b : Bool, (b = true ↔ IsInts v) → Q (.bool b)
/-- ascending by the language's < -/
structure LtE {α : Type} (inj : α → D) (lt : α → α → Prop) : Prop where
  trn : ∀ a b c, lt a b → lt b c → lt a c
  ask : ∀ a b (x y : Bool) (Q : QD), (∀ c : Bool, (c = true ↔ lt a b) → Q (.bool c) (.fz true)) → fLt (inj a) x (inj b) y Q
theorem lte_int : LtE PyData.int (fun a b : Int => a < b) := ⟨fun _ _ _ => Int.lt_trans, fun a b x y Q h => h _ (decide_eq_true_iff)⟩
def S_is_ascending : FSp := fun ds Q _ => ∃ (α : Type) (inj : α → D) (lt : α → α → Prop) (_ : LtE inj lt) (L : List α), ds = [.tuple (L.map inj)] ∧ L.length ≤ 100000 ∧ ∀ b : Bool, (b = true ↔ L.Pairwise lt) → Q (.bool b)
def S_is_graph : FSp := fun ds Q _ => ∃ (v : D) (m d : Nat), ds = [v] ∧ Sv m d v ∧ m ≤ 100000 ∧ ∀ b : Bool, (b = true ↔ GrV v) → Q (.bool b)
def S__law_due : FSp := S_is_graph
/- is_integer_tuple: 0 value, 1 item -/
def g_is_integer_tuple_1 : TGt := tN 1
def e_is_integer_tuple_1 : TX := gFn S_is_integer (gCons (gV 1) (gNil))
def t_is_integer_tuple : TSt := sRet (gAndV (gIsi "tuple" (gV 0)) (gCall fAll (gCons (gLc (iSeq (gV 0)) g_is_integer_tuple_1 gYes e_is_integer_tuple_1 [1]) (gNil))))
/- is_ascending: 0 items, 1 first, 2 second -/
def g_is_ascending_1 : TGt := tTupG 2 (tsCons (tN 1) (tsCons (tN 2) (tsNil)))
def e_is_ascending_1 : TX := gBin fLt (gV 1) (gV 2)
def t_is_ascending : TSt := sRet (gCall fAll (gCons (gLc (iZp (gV 0) (gSl (gV 0) (gP (gC (.int 1))) gNoP)) g_is_ascending_1 gYes e_is_ascending_1 [1, 2]) (gNil)))
/- is_graph: 0 value, 1 n, 2 edges, 3 edge -/
def g_is_graph_1 : TGt := tN 3
def w_is_graph_1 : TSt := sIf (gOrB (gNot (gTru (gFn S_is_integer_tuple (gCons (gV 3) (gNil))))) (gOrB (gT (gBin fNe (gCall fLen (gCons (gV 3) (gNil))) (gC (.int 2)))) (gNot (gT (gCh3 fLe fLt fLt (gC (.int 0)) (gBin fIx (gV 3) (gC (.int 0))) (gBin fIx (gV 3) (gC (.int 1))) (gV 1)))))) (sRet (gC (.bool false))) (sNext)
def t_is_graph : TSt := sSeq (sIf (gOrB (gNot (gTru (gIsi "tuple" (gV 0)))) (gT (gBin fNe (gCall fLen (gCons (gV 0) (gNil))) (gC (.int 2))))) (sRet (gC (.bool false))) (sNext)) (sSeq (sUnp (gV 0) (tTupG 2 (tsCons (tN 1) (tsCons (tN 2) (tsNil))))) (sSeq (sIf (gOrB (gNot (gTru (gFn S_is_integer (gCons (gV 1) (gNil))))) (gOrB (gT (gBin fLt (gV 1) (gC (.int 1)))) (gOrB (gT (gBin fGt (gV 1) (gC (.int 60)))) (gNot (gTru (gIsi "tuple" (gV 2))))))) (sRet (gC (.bool false))) (sNext)) (sSeq (sFrz 2 (sFor (iSeq (gV 2)) g_is_graph_1 w_is_graph_1)) (sRet (gFn S_is_ascending (gCons (gV 2) (gNil)))))))
/- _law_due: 0 _law_value, 1 _law_pair, 2 _law_k -/
def g__law_due_1 : TGt := tN 1
def w__law_due_1 : TSt := sSeq (sIf (gOrB (gNot (gTru (gIsi "tuple" (gV 1)))) (gOrB (gT (gBin fNe (gCall fLen (gCons (gV 1) (gNil))) (gC (.int 2)))) (gOrB (gNot (gTru (gFn S__law_is_int (gCons (gBin fIx (gV 1) (gC (.int 0))) (gNil))))) (gNot (gTru (gFn S__law_is_int (gCons (gBin fIx (gV 1) (gC (.int 1))) (gNil)))))))) (sRet (gC (.bool false))) (sNext)) (sIf (gNot (gT (gCh3 fLe fLt fLt (gC (.int 0)) (gBin fIx (gV 1) (gC (.int 0))) (gBin fIx (gV 1) (gC (.int 1))) (gBin fIx (gV 0) (gC (.int 0)))))) (sRet (gC (.bool false))) (sNext))
def g__law_due_2 : TGt := tN 2
def e__law_due_2 : TX := gV 2
def c__law_due_2 : TXb := gNot (gT (gBin fLt (gBin fIx (gBin fIx (gV 0) (gC (.int 1))) (gBin fSub (gV 2) (gC (.int 1)))) (gBin fIx (gBin fIx (gV 0) (gC (.int 1))) (gV 2))))
def t__law_due : TSt := sSeq (sIf (gOrB (gNot (gTru (gIsi "tuple" (gV 0)))) (gOrB (gT (gBin fNe (gCall fLen (gCons (gV 0) (gNil))) (gC (.int 2)))) (gOrB (gNot (gTru (gFn S__law_is_int (gCons (gBin fIx (gV 0) (gC (.int 0))) (gNil))))) (gNot (gTru (gIsi "tuple" (gBin fIx (gV 0) (gC (.int 1))))))))) (sRet (gC (.bool false))) (sNext)) (sSeq (sIf (gNot (gT (gCh fLe fLe (gC (.int 1)) (gBin fIx (gV 0) (gC (.int 0))) (gC (.int 60))))) (sRet (gC (.bool false))) (sNext)) (sSeq (sFor (iSeq (gBin fIx (gV 0) (gC (.int 1)))) g__law_due_1 w__law_due_1) (sRet (gBin fEq (gCall fLen (gCons (gLc (iRg (gCons (gC (.int 1)) (gCons (gCall fLen (gCons (gBin fIx (gV 0) (gC (.int 1))) (gNil))) (gNil)))) g__law_due_2 c__law_due_2 e__law_due_2 [2]) (gNil))) (gC (.int 0))))))
theorem ints_of : ∀ {ds : List D}, (∀ d ∈ ds, isI d = true) → ∃ l : List Int, ds = l.map PyData.int
  | [], _ => ⟨[], rfl⟩
  | d :: ds, h => by
    obtain ⟨l, e⟩ := ints_of fun x hx => h x (List.mem_cons_of_mem _ hx)
    have hd := h d List.mem_cons_self
    cases d with
    | int i => exact ⟨i :: l, by rw [e]; rfl⟩
    | _ => simp [isI] at hd
theorem all_iff {l : List Bool} : (l.all id) = true ↔ ∀ b ∈ l, b = true := by simp
theorem forL_D {tg : TGt} {body : TSt} {De : EndsT} {wq : WS} {b : Bool} (I : List D → Slots → Prop) {xs : List D} {τ : Slots} (h0 : I [] τ)
    (step : ∀ (done : List D) (x : D) (rest : List D), xs = done ++ x :: rest → ∀ τ, I done τ → ∀ F : Slots → Prop, (∀ τ', I (done ++ [x]) τ' → F τ') → tg x b τ fun τ1 => body { De with nx := F, ct := F, bk := De.nx } wq τ1)
    (fin : ∀ τ, I xs τ → De.nx τ) : forL tg body De wq b xs τ := by
  have := forL_inv (inj := id) (tg := tg) (body := body) (De := De) (wq := wq) (b := b) I h0 step fin
  rwa [List.map_id] at this
theorem lcL_D {tg : TGt} {te : TX} {τ : Slots} {Q : QD} {b : Bool} {f : D → D} {xs : List D} (h : ∀ x ∈ xs, ∀ (Ry : D → Kd → Prop), (∀ ky, notOw ky → ky.b = true → Ry (f x) ky) → tg x b τ fun τ1 => te τ1 Ry (fun _ => False))
    (hQ : Q (.list (xs.map f)) (.nw true)) : lcL tg gYes te τ Q b xs [] true := by
  have := lcL_map (inj := id) (f := f) (tg := tg) (te := te) (τ := τ) (Q := Q) (b := b) (xs := xs) (acc := []) (fl := true) h (by simpa using hQ)
  rwa [List.map_id] at this
instance (a b : Int × Int) : Decidable (lt2 a b) := by unfold lt2; infer_instance
theorem zp_gen {α : Type} (inj : α → D) (l m : List α) : zpD (l.map inj) (m.map inj) = (l.zip m).map fun p => .tuple [inj p.1, inj p.2] := by
  unfold zpD
  rw [List.zipWith_map, ← List.map_uncurry_zip_eq_zipWith]
  rfl
theorem zip_way {α : Type} {R : α → α → Prop} {l : List α} : (∀ p ∈ l.zip (l.drop 1), R p.1 p.2) ↔ ∀ (i : Nat) (a b : α), l[i]? = some a → l[i + 1]? = some b → R a b := by
  constructor
  · intro h i a b ha hb
    refine h (a, b) (List.mem_iff_getElem?.mpr ⟨i, ?_⟩)
    rw [List.getElem?_zip_eq_some]
    exact ⟨ha, by rw [List.getElem?_drop, Nat.add_comm]; exact hb⟩
  · rintro h ⟨a, b⟩ hp
    obtain ⟨i, hi⟩ := List.mem_iff_getElem?.mp hp
    rw [List.getElem?_zip_eq_some] at hi
    refine h i a b hi.1 ?_
    have := hi.2
    rw [List.getElem?_drop, Nat.add_comm] at this
    exact this
theorem lex_iff : ∀ (l m : List Int), HT.lexLt l m = true ↔ l < m
  | [], [] => by simp [HT.lexLt]
  | [], _ :: _ => by simp [HT.lexLt]
  | _ :: _, [] => by simp [HT.lexLt]
  | x :: xs, y :: ys => by
    unfold HT.lexLt
    by_cases e : x = y
    · subst e
      rw [if_pos rfl, lex_iff xs ys, List.cons_lt_cons_iff]
      constructor
      · intro h; exact .inr ⟨rfl, h⟩
      · rintro (h | h)
        · omega
        · exact h.2
    · rw [if_neg e, decide_eq_true_eq, List.cons_lt_cons_iff]
      exact ⟨.inl, fun h => h.elim id fun h => (e h.1).elim⟩
theorem pair_lt {a b : Int × Int} : [a.1, a.2] < [b.1, b.2] ↔ lt2 a b := by
  rw [List.cons_lt_cons_iff, List.cons_lt_cons_iff]
  unfold lt2
  simp
theorem ask_pair (a b : Int × Int) (x y : Bool) (Q : QD) (h : ∀ c : Bool, (c = true ↔ lt2 a b) → Q (.bool c) (.fz true)) : fLt (pD a) x (pD b) y Q := ⟨[a.1, a.2], [b.1, b.2], rfl, rfl, h _ ((lex_iff _ _).trans pair_lt)⟩
theorem steps_asc {α : Type} {lt : α → α → Prop} (trn : ∀ a b c, lt a b → lt b c → lt a c) : ∀ {xs : List α}, (∀ (i : Nat) (a b : α), xs[i]? = some a → xs[i + 1]? = some b → lt a b) ↔ xs.Pairwise lt
  | [] => by simp
  | [x] => by simp
  | x :: y :: xs => by
    rw [List.pairwise_cons, ← steps_asc trn (xs := y :: xs)]
    constructor
    · intro h
      have h2 : ∀ (i : Nat) (a b : α), (y :: xs)[i]? = some a → (y :: xs)[i + 1]? = some b → lt a b := fun i a b ha hb => h (i + 1) a b ha hb
      refine ⟨fun z hz => ?_, h2⟩
      have hxy := h 0 x y rfl rfl
      rcases List.mem_cons.mp hz with rfl | hz
      · exact hxy
      · exact trn _ _ _ hxy (List.rel_of_pairwise_cons ((steps_asc trn).mp h2) hz)
    · rintro ⟨h1, h2⟩ i a b ha hb
      cases i with
      | zero =>
        cases ha; cases hb
        exact h1 _ List.mem_cons_self
      | succ i => exact h2 i a b ha hb
theorem r_is_integer_tuple : ∀ (ds : List D) (Qt : D → Prop) (Et : WQ), ds.length = 1 → S_is_integer_tuple ds Qt Et → t_is_integer_tuple { nx := fun _ => Qt .none, rt := fun d _ => Qt d } (fun nm _ => Et nm) (ent false 2 ds) := by
  rintro ds Qt Et - ⟨v, rfl, hl, h⟩
  have no : (∀ l, v ≠ tI l) → Qt (.bool false) := fun hne => h false ⟨fun z => (nomatch z), fun ⟨l, e⟩ => (hne l e).elim⟩
  cases v with
  | tuple xs =>
    have hl := hl xs rfl
    simp_all only [t_is_integer_tuple, tyD]
    refine ⟨sl_le (by omega), ?_⟩
    refine lcL_D (f := fun d : D => PyData.bool (isI d)) (fun d hd' Ry hy => ?_) ?_
    · simp_all only [g_is_integer_tuple_1, e_is_integer_tuple_1]
      refine ⟨d, rfl, ?_⟩
      simp_all only [true_and]
      exact hy _ trivial rfl
    simp_all only [true_and]
    refine ⟨xs.map isI, by simp [Function.comp_def], ?_⟩
    simp_all only [true_and]
    refine h _ ?_
    rw [all_iff]
    constructor
    · intro z
      obtain ⟨l, rfl⟩ := ints_of (ds := xs) fun d hd => z _ (List.mem_map.mpr ⟨d, hd, rfl⟩)
      exact ⟨l, by simp [tI]⟩
    · rintro ⟨l, e⟩ b hb
      unfold tI at e
      injection e with e
      obtain ⟨d, hd, rfl⟩ := List.mem_map.mp hb
      rw [e] at hd
      obtain ⟨x, _, rfl⟩ := List.mem_map.mp hd
      rfl
  | _ =>
    simp_all only [t_is_integer_tuple, tyD]
    exact no fun l e => by simp [tI] at e
theorem lte_pair : LtE pD lt2 := ⟨emb_pair.trn, ask_pair⟩
open Classical in
theorem r_is_ascending : ∀ (ds : List D) (Qt : D → Prop) (Et : WQ), ds.length = 1 → S_is_ascending ds Qt Et → t_is_ascending { nx := fun _ => Qt .none, rt := fun d _ => Qt d } (fun nm _ => Et nm) (ent false 3 ds) := by
  rintro ds Qt Et - ⟨α, inj, lt, hlt, L, rfl, hl, h⟩
  simp_all only [t_is_ascending]
  rw [cut_from (by decide)]
  have e1 : (List.map inj L).drop (1 : Int).toNat = (L.drop 1).map inj := List.map_drop.symm
  rw [e1, zp_gen]
  have hz : (L.zip (L.drop 1)).length ≤ L.length := by rw [List.length_zip]; omega
  refine ⟨sl_le (by rw [List.length_map]; omega), ?_⟩
  refine lcL_map (f := fun p : α × α => PyData.bool (decide (lt p.1 p.2))) (fun p hp Ry hy => ?_) ?_
  · simp_all only [g_is_ascending_1, e_is_ascending_1]
    refine hlt.ask p.1 p.2 _ _ _ fun c hc => ?_
    have : c = decide (lt p.1 p.2) := by rw [Bool.eq_iff_iff, hc, decide_eq_true_eq]
    subst this
    exact hy _ trivial rfl
  simp_all only [true_and]
  refine ⟨(L.zip (L.drop 1)).map fun p => decide (lt p.1 p.2), by simp [Function.comp_def], ?_⟩
  simp_all only [true_and]
  refine h _ ?_
  rw [all_iff]
  have e2 := zip_way (R := lt) (l := L)
  have e3 : (∀ b ∈ (L.zip (L.drop 1)).map fun p => decide (lt p.1 p.2), b = true) ↔ ∀ p ∈ L.zip (L.drop 1), lt p.1 p.2 := by
    simp only [List.mem_map, forall_exists_index, and_imp, forall_apply_eq_imp_iff₂, decide_eq_true_eq]
  rw [e3, e2]
  exact steps_asc (lt := lt) hlt.trn
theorem pairs_of {n : Int} : ∀ {es : List D}, (∀ d ∈ es, ∃ p : Int × Int, d = pD p ∧ 0 ≤ p.1 ∧ p.1 < p.2 ∧ p.2 < n) → ∃ L : List (Int × Int), es = L.map pD ∧ ∀ p ∈ L, 0 ≤ p.1 ∧ p.1 < p.2 ∧ p.2 < n
  | [], _ => ⟨[], rfl, by simp⟩
  | d :: es, h => by
    obtain ⟨L, rfl, hL⟩ := pairs_of fun x hx => h x (List.mem_cons_of_mem _ hx)
    obtain ⟨p, rfl, hp⟩ := h d List.mem_cons_self
    exact ⟨p :: L, rfl, fun q hq => by
      rcases List.mem_cons.mp hq with rfl | hq
      · exact hp
      · exact hL q hq⟩
theorem pD_inj {p q : Int × Int} (h : pD p = pD q) : p = q := by
  simp only [pD, PyData.tuple.injEq, List.cons.injEq, PyData.int.injEq, and_true] at h
  exact Prod.ext h.1 h.2
theorem pDs_inj : ∀ {L M : List (Int × Int)}, L.map pD = M.map pD → L = M
  | [], [], _ => rfl
  | [], _ :: _, h => by simp at h
  | _ :: _, [], h => by simp at h
  | p :: L, q :: M, h => by
    simp only [List.map_cons, List.cons.injEq] at h
    rw [pD_inj h.1, pDs_inj h.2]
theorem gD_inj {n n' : Int} {es : List D} {L : List (Int × Int)} (h : PyData.tuple [.int n, .tuple es] = gD n' L) : n = n' ∧ es = L.map pD := by
  simp only [gD, PyData.tuple.injEq, List.cons.injEq, PyData.int.injEq, and_true] at h
  exact h
theorem r_is_graph : ∀ (ds : List D) (Qt : D → Prop) (Et : WQ), ds.length = 1 → S_is_graph ds Qt Et → t_is_graph { nx := fun _ => Qt .none, rt := fun d _ => Qt d } (fun nm _ => Et nm) (ent false 4 ds) := by
  rintro ds Qt Et - ⟨v, m, d, rfl, hv, hm, h⟩
  have no : (∀ n L, v = gD n L → Gr n L → 1 ≤ n → n ≤ 60 → False) → Qt (.bool false) := fun z => h false ⟨fun y => (nomatch y), fun ⟨n, L, e, g, a, b⟩ => (z n L e g a b).elim⟩
  cases v with
  | tuple xs =>
    obtain ⟨xl, c, rfl, hx⟩ := sv_items hv (.inl rfl)
    by_cases l2 : xs.length = 2
    · obtain ⟨a, e, rfl⟩ : ∃ a e, xs = [a, e] := by
        match xs, l2 with
        | [a, e], _ => exact ⟨a, e, rfl⟩
      have be := hx e (by simp)
      cases a with
      | int n =>
        cases e with
        | tuple es =>
          obtain ⟨el, c', rfl, hes⟩ := sv_items be (.inl rfl)
          simp_all only [t_is_graph, tyD]
          rw [if_neg (by decide)]
          refine ⟨_, rfl, ?_⟩
          simp_all only [isI]
          split
          · exact no fun n' L e _ a _ => by have := (gD_inj e).1; omega
          · split
            · exact no fun n' L e _ _ a => by have := (gD_inj e).1; omega
            · refine forL_D (fun done τ => ∃ x3, τ = [some (.fz (.tuple [.int n, .tuple es]) false), some (.fz (.int n) (im.imAll es)), some (.fz (.tuple es) (im.imAll es)), x3] ∧ ∀ d ∈ done, ∃ p : Int × Int, d = pD p ∧ 0 ≤ p.1 ∧ p.1 < p.2 ∧ p.2 < n) ⟨_, rfl, by simp⟩ ?_ ?_
              · rintro done x rest ee _ ⟨x3, rfl, hdn⟩ F hF
                have hx := hes x (by rw [ee]; simp)
                have bad : (∀ p : Int × Int, x = pD p → 0 ≤ p.1 → p.1 < p.2 → p.2 < n → False) → Qt (.bool false) := fun z => no fun n' L e g _ _ => by
                  obtain ⟨rfl, e2⟩ := gD_inj e
                  have : x ∈ L.map pD := by rw [← e2, ee]; simp
                  obtain ⟨p, hp, rfl⟩ := List.mem_map.mp this
                  have := g.2 p hp
                  exact z p rfl this.1 this.2.1 this.2.2
                simp_all only [g_is_graph_1, w_is_graph_1]
                refine ⟨x, rfl, fun xs e => by subst e; have := (sv_items hx (.inl rfl)).1; omega, fun b hb => ?_⟩
                cases b with
                | false =>
                  simp_all only [true_and]
                  exact bad fun p e _ _ _ => (nomatch hb.mpr ⟨[p.1, p.2], e⟩)
                | true =>
                  obtain ⟨l, rfl⟩ := hb.mp rfl
                  by_cases l2 : l.length = 2
                  · obtain ⟨i, j, rfl⟩ : ∃ i j, l = [i, j] := by
                      match l, l2 with
                      | [i, j], _ => exact ⟨i, j, rfl⟩
                    simp_all only [tI, List.map_cons, List.map_nil]
                    rw [if_neg (by decide)]
                    have good : 0 ≤ i → i < j → j < n → ∀ d ∈ done ++ [PyData.tuple [.int i, .int j]], ∃ p : Int × Int, d = pD p ∧ 0 ≤ p.1 ∧ p.1 < p.2 ∧ p.2 < n := fun h1 h2 h3 d hd => by
                      rcases List.mem_append.mp hd with hd | hd
                      · exact hdn d hd
                      · exact ⟨(i, j), List.mem_singleton.mp hd, h1, h2, h3⟩
                    have ij : ∀ p : Int × Int, tI [i, j] = pD p → i = p.1 ∧ j = p.2 := fun p e => by simpa [tI, pD] using e
                    split
                    · split
                      · split
                        · exact bad fun p e a b c => by have := ij p e; omega
                        · exact hF _ ⟨_, rfl, good (by assumption) (by assumption) (by omega)⟩
                      · exact bad fun p e a b c => by have := ij p e; omega
                    · exact bad fun p e a b c => by have := ij p e; omega
                  · simp_all only [tI, List.length_map]
                    rw [if_pos (by omega)]
                    exact bad fun p e _ _ _ => l2 (by
                      have := congrArg (fun d => match d with | PyData.tuple xs => xs.length | _ => 0) e
                      simpa [tI, pD] using this)
              · rintro τ ⟨x3, rfl, hall⟩
                obtain ⟨L, rfl, hL⟩ := pairs_of hall
                simp_all only [true_and]
                rw [List.length_map] at el
                refine ⟨_, pD, lt2, lte_pair, L, rfl, by omega, fun b hb => ?_⟩
                simp_all only [true_and]
                refine h b ?_
                rw [hb]
                exact ⟨fun z => ⟨n, L, rfl, ⟨z, hL⟩, by omega, by omega⟩, fun ⟨n', L', e, g, _, _⟩ => by
                  obtain ⟨rfl, e2⟩ := gD_inj e
                  rw [pDs_inj e2]; exact g.1⟩
        | _ =>
          have bad : Qt (.bool false) := no fun n L e => by simp [gD] at e
          simp_all only [t_is_graph, tyD]
          rw [if_neg (by decide)]
          refine ⟨_, rfl, ?_⟩
          simp_all only [isI]
          repeat' split
          all_goals exact bad
      | _ =>
        simp_all only [t_is_graph, tyD]
        rw [if_neg (by decide)]
        refine ⟨_, rfl, ?_⟩
        simp_all only [isI]
        exact no fun n L e => by simp [gD] at e
    · simp_all only [t_is_graph, tyD]
      rw [if_pos (by omega)]
      exact no fun n L e _ _ _ => by unfold gD at e; injection e with e; rw [e] at l2; exact l2 rfl
  | _ =>
    simp_all only [t_is_graph, tyD]
    exact no fun n L e => by simp [gD] at e
theorem asc_len {L : List (Int × Int)} : ((rg 1 (L.length : Nat)).filter fun k : Int => decide (¬ lt2 (L.getD (k - 1).toNat (0, 0)) (L.getD k.toNat (0, 0)))).length = 0 ↔ Srt L := by
  rw [List.length_eq_zero_iff, List.filter_eq_nil_iff]
  have e : Srt L ↔ _ := (steps_asc (lt := lt2) emb_pair.trn (xs := L)).symm
  rw [e]
  constructor
  · intro z i a b ha hb
    have hi := (List.getElem?_eq_some_iff.mp hb).1
    have := z ((i + 1 : Nat) : Int) (mem_rg.mpr ⟨by omega, by omega⟩)
    simp only [decide_eq_true_eq, Decidable.not_not] at this
    rwa [show (((i + 1 : Nat) : Int) - 1).toNat = i by omega, Int.toNat_natCast, List.getD_eq_getElem?_getD, List.getD_eq_getElem?_getD, ha, hb] at this
  · intro z k hk
    have hk := mem_rg.mp hk
    have h1 : (k - 1).toNat < L.length := by omega
    have h2 : k.toNat < L.length := by omega
    have := z (k - 1).toNat L[(k - 1).toNat] L[k.toNat] (List.getElem?_eq_getElem h1) (by rw [show (k - 1).toNat + 1 = k.toNat by omega]; exact List.getElem?_eq_getElem h2)
    simp only [decide_eq_true_eq, Decidable.not_not]
    rwa [List.getD_eq_getElem?_getD, List.getD_eq_getElem?_getD, List.getElem?_eq_getElem h1, List.getElem?_eq_getElem h2]
theorem r__law_due : ∀ (ds : List D) (Qt : D → Prop) (Et : WQ), ds.length = 1 → S__law_due ds Qt Et → t__law_due { nx := fun _ => Qt .none, rt := fun d _ => Qt d } (fun nm _ => Et nm) (ent false 3 ds) := by
  rintro ds Qt Et - ⟨v, m, d, rfl, hv, hm, h⟩
  have no : (∀ n L, v = gD n L → Gr n L → 1 ≤ n → n ≤ 60 → False) → Qt (.bool false) := fun z => h false ⟨fun y => (nomatch y), fun ⟨n, L, e, g, a, b⟩ => (z n L e g a b).elim⟩
  cases v with
  | tuple xs =>
    obtain ⟨xl, c, rfl, hx⟩ := sv_items hv (.inl rfl)
    by_cases l2 : xs.length = 2
    · obtain ⟨a, e, rfl⟩ : ∃ a e, xs = [a, e] := by
        match xs, l2 with
        | [a, e], _ => exact ⟨a, e, rfl⟩
      have be := hx e (by simp)
      cases a with
      | int n =>
        cases e with
        | tuple es =>
          obtain ⟨el, c', rfl, hes⟩ := sv_items be (.inl rfl)
          simp_all only [t__law_due, tyD]
          rw [if_neg (by decide)]
          refine ⟨_, rfl, ?_⟩
          simp_all only [isI]
          split
          · split
            · exact no fun n' L e _ _ a => by have := (gD_inj e).1; omega
            · refine forL_D (fun done τ => ∃ x1, τ = [some (.fz (.tuple [.int n, .tuple es]) false), x1, none] ∧ ∀ d ∈ done, ∃ p : Int × Int, d = pD p ∧ 0 ≤ p.1 ∧ p.1 < p.2 ∧ p.2 < n) ⟨_, rfl, by simp⟩ ?_ ?_
              · rintro done x rest ee _ ⟨x1, rfl, hdn⟩ F hF
                have hx := hes x (by rw [ee]; simp)
                have bad : (∀ p : Int × Int, x = pD p → 0 ≤ p.1 → p.1 < p.2 → p.2 < n → False) → Qt (.bool false) := fun z => no fun n' L e g _ _ => by
                  obtain ⟨rfl, e2⟩ := gD_inj e
                  have : x ∈ L.map pD := by rw [← e2, ee]; simp
                  obtain ⟨p, hp, rfl⟩ := List.mem_map.mp this
                  have := g.2 p hp
                  exact z p rfl this.1 this.2.1 this.2.2
                cases x with
                | tuple ys =>
                  have yl := (sv_items hx (.inl rfl)).1
                  by_cases l2 : ys.length = 2
                  · obtain ⟨a, b, rfl⟩ : ∃ a b, ys = [a, b] := by
                      match ys, l2 with
                      | [a, b], _ => exact ⟨a, b, rfl⟩
                    simp_all only [g__law_due_1, w__law_due_1, tyD]
                    rw [if_neg (by decide)]
                    refine ⟨a, rfl, ?_⟩
                    cases a with
                    | int i =>
                      simp_all only [isI]
                      refine ⟨b, rfl, ?_⟩
                      cases b with
                      | int j =>
                        simp_all only [isI]
                        have good : 0 ≤ i → i < j → j < n → ∀ d ∈ done ++ [PyData.tuple [.int i, .int j]], ∃ p : Int × Int, d = pD p ∧ 0 ≤ p.1 ∧ p.1 < p.2 ∧ p.2 < n := fun h1 h2 h3 d hd => by
                          rcases List.mem_append.mp hd with hd | hd
                          · exact hdn d hd
                          · exact ⟨(i, j), List.mem_singleton.mp hd, h1, h2, h3⟩
                        have ij : ∀ p : Int × Int, PyData.tuple [.int i, .int j] = pD p → i = p.1 ∧ j = p.2 := fun p e => by simpa [pD] using e
                        split
                        · split
                          · split
                            · exact bad fun p e a b c => by have := ij p e; omega
                            · exact hF _ ⟨_, rfl, good (by assumption) (by assumption) (by omega)⟩
                          · exact bad fun p e a b c => by have := ij p e; omega
                        · exact bad fun p e a b c => by have := ij p e; omega
                      | _ =>
                        simp_all only [isI]
                        exact bad fun p e _ _ _ => by simp [pD] at e
                    | _ =>
                      simp_all only [isI]
                      exact bad fun p e _ _ _ => by simp [pD] at e
                  · simp_all only [g__law_due_1, w__law_due_1, tyD]
                    rw [if_pos (by omega)]
                    exact bad fun p e _ _ _ => by
                      unfold pD at e; injection e with e; rw [e] at l2; exact l2 rfl
                | _ =>
                  simp_all only [g__law_due_1, w__law_due_1, tyD]
                  exact bad fun p e _ _ _ => by simp [pD] at e
              · rintro τ ⟨x1, rfl, hall⟩
                obtain ⟨L, rfl, hL⟩ := pairs_of hall
                rw [List.length_map] at el
                simp_all only [List.length_map]
                refine ⟨by omega, sl_le (by first | (rw [List.length_map, rg_len]; omega) | (rw [rg_len]; omega)), ?_⟩
                refine lcL_filt (fun k : Int => ¬ lt2 (L.getD (k - 1).toNat (0, 0)) (L.getD k.toNat (0, 0))) PyData.int (fun k hk Rn Ry hn hy => ?_) ?_
                · have hk := mem_rg.mp hk
                  have g1 : L[(k - 1).toNat]? = some (L.getD (k - 1).toNat (0, 0)) := by
                    rw [List.getD_eq_getElem?_getD, List.getElem?_eq_getElem (show (k - 1).toNat < L.length by omega)]; rfl
                  have g2 : L[k.toNat]? = some (L.getD k.toNat (0, 0)) := by
                    rw [List.getD_eq_getElem?_getD, List.getElem?_eq_getElem (show k.toNat < L.length by omega)]; rfl
                  simp_all only [g__law_due_2, c__law_due_2, e__law_due_2]
                  refine atQ_of (show 0 ≤ k - 1 by omega) (d := pD (L.getD (k - 1).toNat (0, 0))) (by rw [List.getElem?_map, g1]; rfl) ?_
                  simp_all only [true_and]
                  refine atQ_of (show 0 ≤ k by omega) (d := pD (L.getD k.toNat (0, 0))) (by rw [List.getElem?_map, g2]; rfl) ?_
                  refine ask_pair _ _ true true _ fun c hc => ?_
                  cases c with
                  | true =>
                    simp_all only [true_and]
                    exact hn fun z => z (hc.mp rfl)
                  | false =>
                    simp_all only [true_and]
                    exact hy (fun z => nomatch hc.mpr z) _ trivial rfl
                simp_all only [List.length_map]
                refine h _ ?_
                rw [decide_eq_true_eq]
                have e1 := asc_len (L := L)
                refine Iff.trans (b := Srt L) ⟨fun q => e1.mp (by omega), fun q => by have := e1.mpr q; omega⟩ ?_
                · exact ⟨fun z => ⟨n, L, rfl, ⟨z, hL⟩, by omega, by omega⟩, fun ⟨n', L', e, g, _, _⟩ => by
                    obtain ⟨rfl, e2⟩ := gD_inj e
                    rw [pDs_inj e2]; exact g.1⟩
          · exact no fun n' L e _ a _ => by have := (gD_inj e).1; omega
        | _ =>
          have bad : Qt (.bool false) := no fun n L e => by simp [gD] at e
          simp_all only [t__law_due, tyD]
          rw [if_neg (by decide)]
          refine ⟨_, rfl, ?_⟩
          simp_all only [isI]
          repeat' split
          all_goals exact bad
      | _ =>
        simp_all only [t__law_due, tyD]
        rw [if_neg (by decide)]
        refine ⟨_, rfl, ?_⟩
        simp_all only [isI]
        exact no fun n L e => by simp [gD] at e
    · simp_all only [t__law_due, tyD]
      rw [if_pos (by omega)]
      exact no fun n L e _ _ _ => by unfold gD at e; injection e with e; rw [e] at l2; exact l2 rfl
  | _ =>
    simp_all only [t__law_due, tyD]
    exact no fun n L e => by simp [gD] at e
end LS

set_option maxHeartbeats 4000000
/-! dicts as data: a slot's dict is frozen; d[x], x in d, sorted(d), len(d) of a dict that came as data -/
namespace TL
open PySem PySem.Spec PyProof.Rows L2
section
variable {κ : Type} {K : PySem.W.Frag} {H : Hp} {P : Addr → Prop}
theorem DKs.split : ∀ {xs : List (κ × V)} {kvs : List (κ × D)}, DKs K H P xs kvs → xs.map (·.1) = kvs.map (·.1) ∧ DPs K H P (xs.map (·.2)) (kvs.map (·.2))
  | _, _, .nil => ⟨rfl, .nil⟩
  | _, _, .cons h t => ⟨by simp [h.1, (DKs.split t).1], .cons h.2 (DKs.split t).2⟩
theorem DKs.join : ∀ {xs : List (κ × V)} {kvs : List (κ × D)}, xs.map (·.1) = kvs.map (·.1) → DPs K H P (xs.map (·.2)) (kvs.map (·.2)) → DKs K H P xs kvs
  | [], [], _, _ => .nil
  | [], _ :: _, e, _ => by simp at e
  | _ :: _, [], e, _ => by simp at e
  | (a, v) :: xs, (b, d) :: kvs, e, .cons r t => by
    simp only [List.map_cons, List.cons.injEq] at e
    exact .cons ⟨e.1, r⟩ (DKs.join e.2 t)
end
theorem keyD_inj : ∀ {a b : Key}, keyD a = keyD b → a = b
  | .inl _, .inl _, h => by simp only [keyD, PyData.int.injEq] at h; rw [h]
  | .inr _, .inr _, h => by simp only [keyD, PyData.str.injEq] at h; rw [h]
  | .inl _, .inr _, h => by simp [keyD] at h
  | .inr _, .inl _, h => by simp [keyD] at h
theorem dcK_inj {l m : List (Key × D)} (h : dcK l = dcK m) : l = m := by
  unfold dcK at h
  injection h with h
  injection h with _ h
  refine (List.map_inj_right fun p q e => ?_).mp h
  injection e with e1 e2
  cases p; cases q
  exact Prod.ext (keyD_inj e1) e2
theorem dcK_ne {l : List (Key × D)} {m : List (List Key × D)} : dcK l ≠ dcT m := by simp [dcK, dcT]
section
variable {X : Cx} {G : Gh} {W : WX} {pos : Pos}
theorem RV.dKs {K : PySem.W.Frag} {ow : Ow} {H H' : Hp} {v : V} {kvs : List (Key × D)} {kd : Kd} (r : RV K G ow H H' v (dcK kvs) kd) : ∃ a xs, v = .ref a ∧ H' a = some (.dK xs) ∧ DKs K H' (Fz G ow kd.b) xs kvs := by
  cases kd with
  | fz b =>
    have r' : DP K H' (Fz G ow b) v (dcK kvs) := r
    generalize e : dcK kvs = z at r'
    cases r' with
    | dK p h e1 t =>
      have := dcK_inj e
      subst this
      exact ⟨_, _, rfl, h, DKs.join e1 t⟩
    | dT p h _ _ => exact (dcK_ne e).elim
    | dL _ _ _ => simp [dcK, lkD] at e
    | _ => simp [dcK] at e
  | ow b => obtain ⟨a, xs, ds', rfl, e, _⟩ := r; simp [dcK] at e
  | nw b => obtain ⟨a, xs, ds', rfl, e, _⟩ := r; simp [dcK] at e
/-! ### a slot's own dict is frozen from here on -/
def frzDT (τ : Slots) (k : Nat) : Slots := match τ[k]? with
  | some (some (.dK kvs)) => τ.set k (some (.fz (dcK kvs) true))
  | _ => τ
def sFrzD (k : Nat) (t : TSt) : TSt := fun De wq τ => t De wq (frzDT τ k)
theorem Sim.frzD {K : PySem.W.Frag} {τ : Slots} {ow : Ow} {σ : L2.St} {H : Hp} (S : Sim K G τ ow σ H) {k : Nat} {kvs : List (Key × D)} (e : τ[k]? = some (some (.dK kvs))) :
    ∃ ow', Sim K G (τ.set k (some (.fz (dcK kvs) true))) ow' σ H ∧ FrS ow H ow' H := by
  obtain ⟨v0, e1, a, xs, rfl, o, e3, t⟩ := S.sl k _ e
  have none_ : ∀ {c : Addr}, ow c = none → (if c = a then none else ow c) = none := fun {c} h => by
    by_cases z : c = a
    · rw [if_pos z]
    · rw [if_neg z]; exact h
  have fz : ∀ {b : Bool} (c : Addr), Fz G ow b c → Fz G (fun c => if c = a then none else ow c) b c := fun c p => ⟨none_ p.1, p.2⟩
  have dp : ∀ {b : Bool} {v : V} {d : D}, DP K H (Fz G ow b) v d → DP K H (Fz G (fun c => if c = a then none else ow c) b) v d := fun h => h.mono fz
  have kp : ∀ {c : Addr} {j : Nat}, j ≠ k → ow c = some (some j) → (if c = a then none else ow c) = some (some j) := fun {c j} hj h => by
    have : c ≠ a := fun z => by
      rw [z, o] at h
      injection h with h
      injection h with h
      exact hj h.symm
    rw [if_neg this]; exact h
  refine ⟨fun c => if c = a then none else ow c, ⟨by simp [S.len], fun j s ej => ?_, fun c j h => ?_, fun c ob h n => ⟨(S.ent c ob h n).1, none_ (S.ent c ob h n).2⟩, fun p ep => ⟨(S.pool p ep).1, ?_, none_ (S.pool p ep).2.2⟩, S.pl⟩, fun c ob h n => ⟨h, none_ n⟩⟩
  · rcases set_get ej with ⟨rfl, rfl, hl⟩ | ⟨hne, e'⟩
    · obtain ⟨t1, t2⟩ := DKs.split t
      exact ⟨_, e1, DP.dK ⟨if_pos rfl, .of (S.slot0 o)⟩ e3 t1 (t2.mono fz)⟩
    · obtain ⟨v, e4, q⟩ := S.sl j s e'
      refine ⟨v, e4, ?_⟩
      have hj : j ≠ k := by first | exact hne | exact fun z => hne z.symm
      cases s with
      | fz d b => exact dp q
      | own ds b =>
        obtain ⟨c, ys, e5, oc, e6, t6⟩ := q
        exact ⟨c, ys, e5, kp hj oc, e6, t6.mono fz⟩
      | dK kvs =>
        obtain ⟨c, ys, e5, oc, e6, t6⟩ := q
        exact ⟨c, ys, e5, kp hj oc, e6, DKs.keep t6 (fun _ _ _ e => e) (fun _ _ e _ => e) fz⟩
      | dT kvs =>
        obtain ⟨c, ys, e5, oc, e6, t6⟩ := q
        exact ⟨c, ys, e5, kp hj oc, e6, DKs.keep t6 (fun _ _ _ e => e) (fun _ _ e _ => e) fz⟩
      | reg φ => exact RegOk.keep q fun c ob oc e => ⟨e, kp hj oc⟩
  · have h : (if c = a then none else ow c) = some j := h
    by_cases z : c = a
    · rw [if_pos z] at h; cases h
    · rw [if_neg z] at h; exact S.own c j h
  · have : p ≠ a := fun z => by
      have := (S.pool p ep).2.1
      rw [z, o] at this
      cases this
    show (if p = a then none else ow p) = some none
    rw [if_neg this]; exact (S.pool p ep).2.1
theorem gs_frzD (k : Nat) {st : Stmt} {t : TSt} (h : GS X G W st t) : GS X G W st (sFrzD k t) := by
  obtain ⟨te, p, f⟩ := h.ex
  refine ⟨te, p, fun σ H τ ow De wq Dh S h E => ?_⟩
  unfold sFrzD frzDT at h
  split at h
  · rename_i kvs e
    obtain ⟨ow', S', g⟩ := S.frzD e
    exact f σ H _ ow' De wq Dh S' h (E.frs g)
  · exact f σ H τ ow De wq Dh S h E
/-! ### d[x] -/
def fDAt : D → Bool → D → Bool → QD → Prop := fun d b y _ Q => ∃ kvs k e, d = dcK kvs ∧ toKey y = some k ∧ valD kvs k = some e ∧ Q e (.fz (b || im e))
def rDAt : R2 := fun x y H Q => ∃ a v, x = .ref a ∧ DGet H a y (some v) ∧ Q v H
theorem og_dAt : OpG X G rDAt fDAt := by
  intro σ H1 H τ ow x y dx dy kx ky Q Kt S gr rx ry hf k
  obtain ⟨kvs, key, e, rfl, ek, hv, q⟩ := hf
  obtain ⟨a, xs, rfl, ha, t⟩ := rx.dKs
  have g : DGet H a y (valV xs key) := by rw [toKey_dp ry.dpAny ek]; exact .k ha
  rcases t.val key with ⟨h1, h2⟩ | ⟨v, d, h1, h2, h3⟩
  · rw [hv] at h2; cases h2
  · rw [hv] at h2; cases h2
    rw [h1] at g
    exact ⟨a, v, rfl, g, k _ _ _ _ Grow.refl (RV.ofFz h3.up) q⟩
theorem ge_dAt {o i : Expr} {to ti : TX} (hu : X.A.units + 1 < cLine) (ho : GE X G W o to) (hi : GE X G W i ti) (hs : NoSl i := by exact fun _ _ => rfl) : GE X G W (.Subscript o i pos) (gBin fDAt to ti) :=
  ge_op2 og_dAt ho hi fun p q => pe_dget hu p q hs
/-! ### x in d, x not in d -/
def fDInD (neg : Bool) : D → Bool → D → Bool → QD → Prop := fun y _ d _ Q => ∃ kvs k, d = dcK kvs ∧ toKey y = some k ∧ Q (.bool (neg ^^ (valD kvs k).isSome)) (.fz true)
def rDIn (neg : Bool) : R2 := fun y x H Q => ∃ a o, x = .ref a ∧ DGet H a y o ∧ Q (.bl (neg ^^ o.isSome)) H
theorem og_dIn {neg : Bool} : OpG X G (rDIn neg) (fDInD neg) := by
  intro σ H1 H τ ow x y dx dy kx ky Q Kt S gr rx ry hf k
  obtain ⟨kvs, key, rfl, ek, q⟩ := hf
  obtain ⟨a, xs, rfl, ha, t⟩ := ry.dKs
  have g : DGet H a x (valV xs key) := by rw [toKey_dp rx.dpAny ek]; exact .k ha
  refine ⟨a, _, rfl, g, ?_⟩
  have e : (valV xs key).isSome = (valD kvs key).isSome := by
    rcases t.val key with ⟨h1, h2⟩ | ⟨v, d, h1, h2, h3⟩ <;> rw [h1, h2] <;> rfl
  rw [e]
  exact k _ _ _ _ Grow.refl (RV.sc fun _ => .bl _) q
theorem tDIn_eq {ty td : TE} : tDIn ty td = tOp (rDIn false) ty td := by
  funext σ H Q
  simp only [tDIn, tOp, rDIn, Bool.false_xor]
theorem tDNotIn_eq {ty td : TE} : tDNotIn ty td = tOp (rDIn true) ty td := by
  funext σ H Q
  simp only [tDNotIn, tOp, rDIn, Bool.true_xor]
theorem ge_dInD {o i : Expr} {to ti : TX} (hu : X.A.units + 1 < cLine) (hi : GE X G W i ti) (ho : GE X G W o to) (hb : behindInMarks .In o = false := by rfl) : GE X G W (.Compare i [.In] [o] pos) (gBin (fDInD false) ti to) :=
  ge_op2 og_dIn hi ho fun p q => by rw [← tDIn_eq]; exact pe_ofPC (pc_din hu p q) hb
theorem ge_dNotInD {o i : Expr} {to ti : TX} (hu : X.A.units + 1 < cLine) (hi : GE X G W i ti) (ho : GE X G W o to) (hb : behindInMarks .NotIn o = false := by rfl) : GE X G W (.Compare i [.NotIn] [o] pos) (gBin (fDInD true) ti to) :=
  ge_op2 og_dIn hi ho fun p q => by rw [← tDNotIn_eq]; exact pe_ofPC (pc_dnotin hu p q) hb
theorem gb_op2 {a b e : Expr} {ta tb : TX} {r : R2} {f : D → Bool → D → Bool → QD → Prop} (hf : OpG X G r f) (ha : GE X G W a ta) (hb : GE X G W b tb) (mk : ∀ {t u : TE}, PE X a t → PE X b u → PT X e (tB (tOp r t u))) : GB X G W e (gT (gBin f ta tb)) := by
  obtain ⟨te, p1, f1⟩ := ha.ex
  obtain ⟨t2, p2, f2⟩ := hb.ex
  refine ⟨_, mk p1 p2, fun σ H τ ow Q wq Kt S h k w => ?_⟩
  refine f1 σ H τ ow _ wq _ S h (fun x H1 dx kx g1 r1 q1 => ?_) w
  refine f2 σ H1 τ ow _ wq _ (S.grow g1) q1 (fun y H2 dy ky g2 r2 q2 => ?_) (w.grow g1)
  refine hf S (g1.trans g2) (r1.grow S g1 g2) (r2.start S g1) q2 fun v H' d kd g r q => ?_
  obtain ⟨b, e, q⟩ := r.asB q
  exact ⟨b, e, k b H' ((g1.trans g2).trans g) q⟩
theorem gb_dInD {o i : Expr} {to ti : TX} (hu : X.A.units + 1 < cLine) (hi : GE X G W i ti) (ho : GE X G W o to) (hb : behindInMarks .In o = false := by rfl) : GB X G W (.Compare i [.In] [o] pos) (gT (gBin (fDInD false) ti to)) :=
  gb_op2 og_dIn hi ho fun p q => by rw [← tDIn_eq]; exact pt_cmp (pc_din hu p q) hb
theorem gb_dNotInD {o i : Expr} {to ti : TX} (hu : X.A.units + 1 < cLine) (hi : GE X G W i ti) (ho : GE X G W o to) (hb : behindInMarks .NotIn o = false := by rfl) : GB X G W (.Compare i [.NotIn] [o] pos) (gT (gBin (fDInD true) ti to)) :=
  gb_op2 og_dIn hi ho fun p q => by rw [← tDNotIn_eq]; exact pt_cmp (pc_dnotin hu p q) hb
/-! ### sorted(d), len(d) -/
def fSortDK : List (D × Kd) → QD → Prop
  | [(d, _)], Q => ∃ (kvs : List (Key × D)) (ks : List Int), d = dcK kvs ∧ kvs.map (·.1) = ks.map Sum.inl ∧ ks.length < 64 ∧ ∀ ys : List Int, ys.Perm ks → ys.Pairwise (· ≤ ·) → Q (.list (ys.map PyData.int)) (.nw true)
  | _, _ => False
theorem ge_sortDK {e : Expr} {p : Pos} {t : TXs} (hc : X.calm = true) (hm : X.mg "sorted" = none) (ha : GA X G W [e] t) (hg : Gl X "sorted" := by rfl) (he : starEach [e] X.env = (false, eval e X.env) :: starEach [] X.env := by rfl) : GE X G W (.Call (.Name "sorted" p) [e] [] pos) (gCall fSortDK t) := by
  refine ge_callB (call_sortedDI hc) ?_ ha hm (by decide +kernel) hg (by decide) (by decide) he
  intro σ H1 H τ ow vs ds Q Kt S gr r hf k
  unfold fSortDK at hf
  split at hf
  · obtain ⟨kvs, ks, rfl, ek, hl, q⟩ := hf
    cases r with
    | cons r1 t =>
      cases t
      obtain ⟨a, xs, rfl, ha, t⟩ := r1.dKs
      refine ⟨a, xs, ks, rfl, .inl ha, by rw [(DKs.split t).1]; exact ek, hl, fun ys p hy hs hn => ?_⟩
      exact k _ _ _ _ (Grow.upd hn) (RV.new S gr hn (DPs.ofInts ys)) (q ys hy hs)
  · exact hf.elim
theorem call_len_dK : CallR X (.builtin "len") (fun xs H Q => ∃ a kvs, xs = [.ref a] ∧ Rd H a (.dK kvs) ∧ Q (.int (kvs.length : Nat)) H) := by
  intro pins s σ H xs us Q I r h
  obtain ⟨a, kvs, rfl, e, q⟩ := h
  obtain ⟨u, rfl, rx⟩ := vals1 r
  cases rx
  exact d_len I e fun t s' I' => ⟨.int (kvs.length : Nat), H, I', ⟨t, rfl⟩, q⟩
def fLenDK : List (D × Kd) → QD → Prop
  | [(d, _)], Q => ∃ kvs : List (Key × D), d = dcK kvs ∧ Q (.int (kvs.length : Nat)) (.fz true)
  | _, _ => False
theorem ge_lenDK {e : Expr} {p : Pos} {t : TXs} (hm : X.mg "len" = none) (ha : GA X G W [e] t) (hg : Gl X "len" := by rfl) (he : starEach [e] X.env = (false, eval e X.env) :: starEach [] X.env := by rfl) : GE X G W (.Call (.Name "len" p) [e] [] pos) (gCall fLenDK t) := by
  refine ge_callB call_len_dK ?_ ha hm PySem.boot_len hg (by decide) (by decide) he
  intro σ H1 H τ ow vs ds Q Kt S gr r hf k
  unfold fLenDK at hf
  split at hf
  · obtain ⟨kvs, rfl, q⟩ := hf
    cases r with
    | cons r1 t =>
      cases t
      obtain ⟨a, xs, rfl, ha, t⟩ := r1.dKs
      have e : xs.length = kvs.length := by have := congrArg List.length (DKs.split t).1; simpa using this
      refine ⟨a, xs, rfl, .inl ha, ?_⟩
      rw [e]
      exact k _ _ _ _ Grow.refl (RV.sc fun _ => .int _) q
  · exact hf.elim
end
end TL

set_option maxHeartbeats 4000000
namespace TL
open PySem PySem.Spec PyProof.Rows L2
section
variable {X : Cx} {G : Gh} {W : WX} {pos : Pos}
/-- x is True, of a bool -/
def fIsB : D → Bool → D → Bool → QD → Prop
  | .bool a, _, .bool b, _, Q => Q (.bool (decide (a = b))) (.fz true)
  | _, _, _, _, _ => False
theorem og_isB : OpG X G (fun x y H Q => ∃ a b, x = .bl a ∧ y = .bl b ∧ Q (.bl (decide (a = b))) H) fIsB := by
  intro σ H1 H τ ow x y dx dy kx ky Q Kt S gr rx ry hf k
  unfold fIsB at hf
  split at hf
  · exact ⟨_, _, rx.bool, ry.bool, k _ _ _ _ Grow.refl (RV.sc fun _ => .bl _) hf⟩
  · exact hf.elim
end
end TL

set_option maxHeartbeats 4000000
/-! list(reversed(x)), tuple(reversed(x)), x a list -/
namespace HT
open PySem PySem.Spec PyProof.Rows RT
section
variable {prog : Program} {w : World} {A : Around} {E : Value → Shared → Prop} {s : Shared}
theorem extend_rev {R : Result → Shared → Prop} {it l : Addr} {items : Array Value} (hh : A.handled = none) (hit : s.heap.IsRevIter it l ((items.size : Int) - 1)) (hl : s.heap.IsList l items) (hne : l ≠ it) (hn : items.size ≤ sizeLine)
    (S : Addr) (res : Value) (hSi : S ≠ it) (hSl : S ≠ l) (c₀ : Nat) (hS : s.heap.get? S = some { cls := .type "list", data := .seq #[] c₀ })
    (hR : ∀ h' tk acc' c', (∀ b o, b ≠ S → b ≠ it → s.heap.get? b = some o → h'.get? b = some o) → h'.get? S = some { cls := .type "list", dict := none, data := .seq acc' c', slots := #[] } →
      ItemsOf (fun i v => items[items.size - 1 - i]? = some v) acc' items.size → R (.ok (.ret res)) { s with heap := h', toks := tk }) :
    wpAny (model prog w) A.in1 (Builtin.List.listExtendWith (.ref S) (.ref it) res)
      (fun fin s' => match fin with | .done f => R (.ok f) s' | .again c' => c'.quiet = true ∧ codeAny (model prog w) A c' R s') (fun e s' => R (.error e) s') s := by
  have W := (Walks.listRev (prog := prog) (w := w) (A := A.in1) hh it l hne items).toS
  have hSf : S ∉ [it, l] := by simp only [List.mem_cons, List.not_mem_nil, or_false, not_or]; exact ⟨hSi, hSl⟩
  have hT : s.TypeIs (.ref it) "list_reverseiterator" := hit.typeIs
  have h1 : Builtin.List.listSameRef (.ref S) (.ref it) = false := by simp [Builtin.List.listSameRef, hSi]
  unfold Builtin.List.listExtendWith
  refine wpAny_bind (wpAny_typeOf hT ?_)
  rw [if_neg (by rw [h1]; decide)]
  refine wpAny_bind (wpAny_pyIter_revIter hit ?_)
  refine wpAny_bind (wpAny_holding ?_)
  unfold Builtin.List.listLengthHint
  refine wpAny_bind (wpAny_specialOf hT nolen_lri ?_)
  show wpAny _ A.in1 (specialOf (Value.ref it) (Str.ofString "__length_hint__") >>= _) _ _ _
  refine wpAny_bind (wpAny_specialOf hT hint_lri ?_)
  generalize hid : ("list_reverseiterator.__length_hint__" : String) = id0
  wp_delta
  rw [show splitId id0 = some ("list_reverseiterator", "__length_hint__") from by subst hid; decide +kernel]
  subst hid
  refine wpAny_bind (wpAny_isInstance (b := true) hT (by rw [isSubtype_type]; kernel_rfl) ?_)
  refine wpAny_pure ?_
  rw [if_neg (by decide)]
  have e0 : ((items.size : Nat) : Int) - 1 - ((0 : Nat) : Int) = (items.size : Int) - 1 := by omega
  refine wpAny_pure ⟨plainId_quiet F.plain_extend_loop _, codeAny_extend_loopS W hn S hSf res items.size 0 _ #[] c₀ rfl (Nat.zero_le _) ⟨Nat.zero_le _, by rw [e0]; exact hit, hl⟩ hS (ItemsOf.nil _) fun s' acc' c' hm hS' hacc => ?_⟩
  rw [Moved.eq_with hm]
  refine hR s'.heap s'.toks acc' c' (fun b o hb hb2 e => hm.heap b o (fun hmem => ?_) e) hS' hacc
  rcases List.mem_cons.mp hmem with e' | hmem
  · exact hb e'
  · exact hb2 (List.mem_singleton.mp hmem)
theorem list_init_rev {R : Result → Shared → Prop} {it l : Addr} {items : Array Value} (hh : A.handled = none) (hit : s.heap.IsRevIter it l ((items.size : Int) - 1)) (hl : s.heap.IsList l items) (hne : l ≠ it) (hn : items.size ≤ sizeLine)
    (S : Addr) (hSi : S ≠ it) (hSl : S ≠ l) (hS : s.heap.get? S = some { cls := .type "list", data := .seq #[] })
    (hR : ∀ h' tk acc' c', (∀ b o, b ≠ S → b ≠ it → s.heap.get? b = some o → h'.get? b = some o) → h'.get? S = some { cls := .type "list", dict := none, data := .seq acc' c', slots := #[] } →
      ItemsOf (fun i v => items[items.size - 1 - i]? = some v) acc' items.size → R (.ok (.ret .none)) { s with heap := h', toks := tk }) :
    wpAny (model prog w) A.in1 (Builtin.«list.__init__» ⟨[.ref S, .ref it], []⟩)
      (fun fin s' => match fin with | .done f => R (.ok f) s' | .again c' => c'.quiet = true ∧ codeAny (model prog w) A c' R s') (fun e s' => R (.error e) s') s := by
  show wpAny _ _ (do let old ← Builtin.List.listItems (.ref S); Builtin.List.listUpdate (.ref S) (fun _ => #[]); letGo old.toList.reverse; Builtin.List.listExtendWith (.ref S) (.ref it) .none) _ _ s
  refine wpAny_bind ?_
  unfold Builtin.List.listItems
  refine wpAny_bind (wpAny_seqItems hS rfl (wpAny_pure ?_))
  show wpAny _ _ (updateSeq S (fun _ => #[]) >>= fun _ => letGo (#[] : Array Value).toList.reverse >>= fun _ => Builtin.List.listExtendWith (.ref S) (.ref it) .none) _ _ s
  refine wpAny_bind (wpAny_updateSeq hS rfl ?_)
  have hS₂ := Heap.get?_update_self (Obj.mapSeq (fun _ => (#[] : Array Value))) hS rfl
  have oth : ∀ b o, b ≠ S → s.heap.get? b = some o → (s.heap.update S (Obj.mapSeq (fun _ => (#[] : Array Value)))).get? b = some o :=
    fun b o hb e => (Heap.get?_update_other _ _ (Ne.symm hb)).trans e
  refine wpAny_bind (wpAny_letGo ?_)
  obtain ⟨ol, hol, hlr⟩ := id hl
  refine extend_rev hh (hit.at fun o e => oth it o (Ne.symm hSi) e) ⟨ol, oth l ol (Ne.symm hSl) hol, hlr⟩ hne hn S .none hSi hSl _ hS₂ fun h' tk acc' c' hk hS' hacc => ?_
  exact hR h' tk acc' c' (fun b o hb hb2 e => hk b o hb hb2 (oth b o hb e)) hS' hacc
theorem call_list_rev {Q : Value → Shared → Prop} {it l : Addr} {items : Array Value} (hh : A.handled = none) (hit : s.heap.IsRevIter it l ((items.size : Int) - 1)) (hl : s.heap.IsList l items) (hne : l ≠ it) (hn : items.size ≤ sizeLine)
    (hQ : ∀ h' tk acc' c', (∀ b o, b ≠ it → s.heap.get? b = some o → h'.get? b = some o) →
      h'.get? s.heap.objs.size = some { cls := .type "list", dict := none, data := .seq acc' c', slots := #[] } → ItemsOf (fun i v => items[items.size - 1 - i]? = some v) acc' items.size → Q (.ref s.heap.objs.size) { s with heap := h', toks := tk }) :
    wpAny (model prog w) A (call (.type "list") [.ref it]) Q E s := by
  refine callType_codes (Q₁ := fun obj s₁ => obj = .ref s.heap.objs.size ∧ s₁ = { s with heap := s.heap.push { cls := .type "list", data := .seq #[] } }) F.called_list (F.typeCall_list_1 _) F.entry_list_init
    (code_list_new _ ⟨rfl, rfl⟩) fun obj s₁ h₁ => ?_
  obtain ⟨rfl, rfl⟩ := h₁
  have hS : (s.heap.push { cls := .type "list", data := .seq #[] }).get? s.heap.objs.size = some { cls := .type "list", data := .seq #[] } := Heap.get?_push_size _ rfl
  obtain ⟨oi, hoi, _⟩ := id hit
  obtain ⟨ol, hol, _⟩ := id hl
  have hSi : s.heap.objs.size ≠ it := Nat.ne_of_gt (Heap.lt_size hoi)
  have hSl : s.heap.objs.size ≠ l := Nat.ne_of_gt (Heap.lt_size hol)
  refine ⟨⟨_, hS, rfl⟩, F.args_list_init_2 _ _, list_init_rev (A := A.in1) hh (hit.at fun o e => Heap.get?_push_of_some _ e) (hl.push _) hne hn _ hSi hSl hS fun h' tk acc' c' hk hS' hacc => ?_⟩
  exact ⟨rfl, hQ h' tk acc' c' (fun b o hb e => hk b o (Nat.ne_of_lt (Heap.lt_size e)) hb (Heap.get?_push_of_some _ e)) hS' hacc⟩
end
end HT
namespace TL
open PySem PySem.Spec PyProof.Rows L2
section
variable {X : Cx} {G : Gh} {W : WX} {pos : Pos}
def tLstRev (K : PySem.W.Frag) (te : TE) : TE := fun σ H Q => te σ H fun v H1 => ∃ (a : Addr) (xs : List V), v = .ref a ∧ SqL K H1 a xs ∧ ∀ q, H1 q = none → Q (.ref q) (upd H1 q (.lst xs.reverse))
theorem pe_lstRev {e : Expr} {te : TE} {p p2 pos pos2 : Pos} (hc : X.calm = true) (hg : Gl X "list") (hm : X.mg "list" = none) (hg2 : Gl X "reversed") (hm2 : X.mg "reversed" = none) (he : PE X e te)
    (hs : starEach [e] X.env = (false, eval e X.env) :: starEach [] X.env := by rfl)
    (hs2 : starEach [.Call (.Name "reversed" p2) [e] [] pos2] X.env = (false, eval (.Call (.Name "reversed" p2) [e] [] pos2) X.env) :: starEach [] X.env := by rfl) :
    PE X (.Call (.Name "list" p) [.Call (.Name "reversed" p2) [e] [] pos2] [] pos) (tLstRev X.K te) := by
  refine ⟨fun pins s σ H Q I h => ?_⟩
  refine Call_ (ld_blt I hg hm PyProof.Rows.boot_list (PyProof.Rows.callWith_type1 (args_cons (Call_ (ld_blt I hg2 hm2 PyProof.Rows.boot_reversed (PyProof.Rows.callWith_type1 (args_cons (thn (he.run pins s σ H _ I h) fun u s1 ⟨v, H1, I1, r1, q1⟩ => args_nil ?_) hs) hs rfl))) hs2) hs2 rfl))
  obtain ⟨a, xs, ev, hq, q⟩ := q1
  subst ev
  obtain rfl : u = Value.ref a := r1
  obtain ⟨its, rv, p', hz⟩ := I1.list hq
  refine call_reversed_list p'.isList (args_nil ?_)
  have k0 : ∀ b o, s1.heap.get? b = some o → (s1.heap.push (revObj a ((its.toArray.size : Int) - 1))).get? b = some o := fun b o e => Heap.get?_push_of_some _ e
  have I2 : Inv X pins σ H1 { s1 with heap := s1.heap.push (revObj a ((its.toArray.size : Int) - 1)) } := I1.kept (t' := s1.toks) k0
  obtain ⟨f0, f1, f2, f3, f4, f5⟩ := I1.fpOk (H' := H1) (b := s1.heap.objs.size) (Nat.le_refl _) (I1.hok.fresh (Nat.le_refl _))
  have hl := p'.isList
  obtain ⟨ol, hol, _⟩ := id hl
  have hne : a ≠ s1.heap.objs.size := Nat.ne_of_lt (Heap.lt_size hol)
  have hn : its.toArray.size ≤ sizeLine := by rw [List.size_toArray, ← rv.length]; exact hz
  refine HT.call_list_rev (s := { s1 with heap := s1.heap.push (revObj a ((its.toArray.size : Int) - 1)) }) (I1.ok.hd hc) ⟨_, Heap.get?_push_size _ rfl, rfl, rfl⟩ (hl.push _) hne hn fun h' tk acc c' hk hS hi => ?_
  have i4 : Inv X pins σ (upd H1 (s1.heap.push (revObj a ((its.toArray.size : Int) - 1))).objs.size (.lst xs.reverse)) { s1 with heap := (s1.heap.push (revObj a ((its.toArray.size : Int) - 1))).push { cls := .type "list", dict := none, data := .seq acc c', slots := #[] } } :=
    I2.laid (t' := s1.toks) (fun b u e => Heap.get?_push_of_some _ e) (Nat.le_refl _) (show ObjOk X.prog X.w _ _ _ (.lst xs.reverse) from ⟨by rw [List.length_reverse]; exact hz, acc.toList, c', RT.vals_rev rv hi, by rw [Array.toArray_toList]; exact Heap.get?_push_size _ rfl⟩)
  have nit : s1.heap.objs.size ≠ (s1.heap.push (revObj a ((its.toArray.size : Int) - 1))).objs.size := fun e => by
    have h2 := Heap.lt_size (show (s1.heap.push (revObj a ((its.toArray.size : Int) - 1))).get? s1.heap.objs.size = _ from Heap.get?_push_size _ rfl)
    rw [← e] at h2
    exact Nat.lt_irrefl _ h2
  have i5 := i4.turned (t' := tk) (h' := h') (it := s1.heap.objs.size) (fun b o hb e => by
    rcases Heap.get?_push_cases e with ⟨rfl, rfl⟩ | e
    · exact hS
    · exact hk b o hb e) (by rw [upd_ne nit]; exact f0) f1 f3 f4 f5
  exact ⟨.ref _, _, i5, rfl, q _ (I2.hok.fresh (Nat.le_refl _))⟩
def gLstRev (t : TX) : TX := fun τ Q wq => t τ (fun d kd => ∃ ds, d = .list ds ∧ Q (.list ds.reverse) (.nw (kd.b || im.imAll ds))) wq
theorem ge_lstRev {e : Expr} {p p2 pos2 : Pos} {t : TX} (hc : X.calm = true) (hm : X.mg "list" = none) (hm2 : X.mg "reversed" = none) (he : GE X G W e t) (hg : Gl X "list" := by rfl) (hg2 : Gl X "reversed" := by rfl)
    (hs : starEach [e] X.env = (false, eval e X.env) :: starEach [] X.env := by rfl)
    (hs2 : starEach [.Call (.Name "reversed" p2) [e] [] pos2] X.env = (false, eval (.Call (.Name "reversed" p2) [e] [] pos2) X.env) :: starEach [] X.env := by rfl) : GE X G W (.Call (.Name "list" p) [.Call (.Name "reversed" p2) [e] [] pos2] [] pos) (gLstRev t) := by
  obtain ⟨te, q1, f1⟩ := he.ex
  refine ⟨_, pe_lstRev hc hg hm hg2 hm2 q1 hs hs2, fun σ H τ ow Q wq Kt S h k w => f1 σ H τ ow _ wq _ S h (fun v H1 d kd g1 r1 q => ?_) w⟩
  obtain ⟨ds, rfl, q⟩ := q
  obtain ⟨a, xs, rfl, e1, t1⟩ := r1.lst
  have h3 : (kd.b || im.imAll ds) = (kd.b || im.imAll ds.reverse) := by
    congr 1
    have : ∀ l : List D, im.imAll l = l.all im := fun l => by induction l with | nil => rfl | cons x l ih => simp [im.imAll, ih]
    rw [this, this, List.all_reverse]
  exact ⟨a, xs, rfl, .of e1, fun p hp => k _ _ _ _ (g1.trans (Grow.upd hp)) (RV.new S g1 hp (by have := t1.reverse.up; rwa [← h3] at this)) q⟩
/-- tuple(reversed(x)) -/
def gTupRev (t : TX) : TX := fun τ Q wq => t τ (fun d kd => ∃ ds, d = .list ds ∧ Q (.tuple ds.reverse) (.fz kd.b)) wq
theorem ge_tupRev {e : Expr} {p p2 pos2 : Pos} {t : TX} (hc : X.calm = true) (hm : X.mg "tuple" = none) (hm2 : X.mg "reversed" = none) (he : GE X G W e t) (hg : Gl X "tuple" := by rfl) (hg2 : Gl X "reversed" := by rfl)
    (hs : starEach [e] X.env = (false, eval e X.env) :: starEach [] X.env := by rfl)
    (hs2 : starEach [.Call (.Name "reversed" p2) [e] [] pos2] X.env = (false, eval (.Call (.Name "reversed" p2) [e] [] pos2) X.env) :: starEach [] X.env := by rfl) : GE X G W (.Call (.Name "tuple" p) [.Call (.Name "reversed" p2) [e] [] pos2] [] pos) (gTupRev t) := by
  obtain ⟨te, q1, f1⟩ := he.ex
  refine ⟨_, RT.pe_tupRev hc hg hm hg2 hm2 q1 hs hs2, fun σ H τ ow Q wq Kt S h k w => f1 σ H τ ow _ wq _ S h (fun v H1 d kd g1 r1 q => ?_) w⟩
  obtain ⟨ds, rfl, q⟩ := q
  obtain ⟨a, xs, rfl, e1, t1⟩ := r1.lst
  exact ⟨a, xs, rfl, .of e1, fun p hp => k _ _ _ _ (g1.trans (Grow.upd hp)) (RV.newT S g1 hp t1.reverse) q⟩
end
end TL

set_option maxHeartbeats 4000000
/-! dicts with tuples as keys: {t: v}, frozen, sorted as data -/
namespace TL
open PySem PySem.Spec PyProof.Rows L2
section
variable {X : Cx} {G : Gh} {W : WX} {pos : Pos}
theorem tupD_inj {a b : List Key} (h : tupD a = tupD b) : a = b := by
  unfold tupD at h
  injection h with h
  exact (List.map_inj_right fun _ _ e => keyD_inj e).mp h
theorem dcT_inj {l m : List (List Key × D)} (h : dcT l = dcT m) : l = m := by
  unfold dcT at h
  injection h with h
  injection h with _ h
  refine (List.map_inj_right fun p q e => ?_).mp h
  injection e with e1 e2
  cases p; cases q
  exact Prod.ext (tupD_inj e1) e2
theorem RV.dTs {K : PySem.W.Frag} {ow : Ow} {H H' : Hp} {v : V} {kvs : List (List Key × D)} {kd : Kd} (r : RV K G ow H H' v (dcT kvs) kd) : ∃ a xs, v = .ref a ∧ H' a = some (.dT xs) ∧ DKs K H' (Fz G ow kd.b) xs kvs := by
  cases kd with
  | fz b =>
    have r' : DP K H' (Fz G ow b) v (dcT kvs) := r
    generalize e : dcT kvs = z at r'
    cases r' with
    | dT p h e1 t =>
      have := dcT_inj e
      subst this
      exact ⟨_, _, rfl, h, DKs.join e1 t⟩
    | dK p h _ _ => exact (dcK_ne e.symm).elim
    | dL _ _ _ => simp [dcT, lkD] at e
    | _ => simp [dcT] at e
  | ow b => obtain ⟨a, xs, ds', rfl, e, _⟩ := r; simp [dcT] at e
  | nw b => obtain ⟨a, xs, ds', rfl, e, _⟩ := r; simp [dcT] at e
/-! ### a slot's own dict is frozen from here on -/
def frzTT (τ : Slots) (k : Nat) : Slots := match τ[k]? with
  | some (some (.dT kvs)) => τ.set k (some (.fz (dcT kvs) true))
  | _ => τ
def sFrzT (k : Nat) (t : TSt) : TSt := fun De wq τ => t De wq (frzTT τ k)
theorem Sim.frzT {K : PySem.W.Frag} {τ : Slots} {ow : Ow} {σ : L2.St} {H : Hp} (S : Sim K G τ ow σ H) {k : Nat} {kvs : List (List Key × D)} (e : τ[k]? = some (some (.dT kvs))) :
    ∃ ow', Sim K G (τ.set k (some (.fz (dcT kvs) true))) ow' σ H ∧ FrS ow H ow' H := by
  obtain ⟨v0, e1, a, xs, rfl, o, e3, t⟩ := S.sl k _ e
  have none_ : ∀ {c : Addr}, ow c = none → (if c = a then none else ow c) = none := fun {c} h => by
    by_cases z : c = a
    · rw [if_pos z]
    · rw [if_neg z]; exact h
  have fz : ∀ {b : Bool} (c : Addr), Fz G ow b c → Fz G (fun c => if c = a then none else ow c) b c := fun c p => ⟨none_ p.1, p.2⟩
  have dp : ∀ {b : Bool} {v : V} {d : D}, DP K H (Fz G ow b) v d → DP K H (Fz G (fun c => if c = a then none else ow c) b) v d := fun h => h.mono fz
  have kp : ∀ {c : Addr} {j : Nat}, j ≠ k → ow c = some (some j) → (if c = a then none else ow c) = some (some j) := fun {c j} hj h => by
    have : c ≠ a := fun z => by
      rw [z, o] at h
      injection h with h
      injection h with h
      exact hj h.symm
    rw [if_neg this]; exact h
  refine ⟨fun c => if c = a then none else ow c, ⟨by simp [S.len], fun j s ej => ?_, fun c j h => ?_, fun c ob h n => ⟨(S.ent c ob h n).1, none_ (S.ent c ob h n).2⟩, fun p ep => ⟨(S.pool p ep).1, ?_, none_ (S.pool p ep).2.2⟩, S.pl⟩, fun c ob h n => ⟨h, none_ n⟩⟩
  · rcases set_get ej with ⟨rfl, rfl, hl⟩ | ⟨hne, e'⟩
    · obtain ⟨t1, t2⟩ := DKs.split t
      exact ⟨_, e1, DP.dT ⟨if_pos rfl, .of (S.slot0 o)⟩ e3 t1 (t2.mono fz)⟩
    · obtain ⟨v, e4, q⟩ := S.sl j s e'
      refine ⟨v, e4, ?_⟩
      have hj : j ≠ k := by first | exact hne | exact fun z => hne z.symm
      cases s with
      | fz d b => exact dp q
      | own ds b =>
        obtain ⟨c, ys, e5, oc, e6, t6⟩ := q
        exact ⟨c, ys, e5, kp hj oc, e6, t6.mono fz⟩
      | dK kvs =>
        obtain ⟨c, ys, e5, oc, e6, t6⟩ := q
        exact ⟨c, ys, e5, kp hj oc, e6, DKs.keep t6 (fun _ _ _ e => e) (fun _ _ e _ => e) fz⟩
      | dT kvs =>
        obtain ⟨c, ys, e5, oc, e6, t6⟩ := q
        exact ⟨c, ys, e5, kp hj oc, e6, DKs.keep t6 (fun _ _ _ e => e) (fun _ _ e _ => e) fz⟩
      | reg φ => exact RegOk.keep q fun c ob oc e => ⟨e, kp hj oc⟩
  · have h : (if c = a then none else ow c) = some j := h
    by_cases z : c = a
    · rw [if_pos z] at h; cases h
    · rw [if_neg z] at h; exact S.own c j h
  · have : p ≠ a := fun z => by
      have := (S.pool p ep).2.1
      rw [z, o] at this
      cases this
    show (if p = a then none else ow p) = some none
    rw [if_neg this]; exact (S.pool p ep).2.1
theorem gs_frzT (k : Nat) {st : Stmt} {t : TSt} (h : GS X G W st t) : GS X G W st (sFrzT k t) := by
  obtain ⟨te, p, f⟩ := h.ex
  refine ⟨te, p, fun σ H τ ow De wq Dh S h E => ?_⟩
  unfold sFrzT frzTT at h
  split at h
  · rename_i kvs e
    obtain ⟨ow', S', g⟩ := S.frzT e
    exact f σ H _ ow' De wq Dh S' h (E.frs g)
  · exact f σ H τ ow De wq Dh S h E
/-! ### {t: v} -/
def tDisp1T (tk tv : TE) : TE := fun σ H Q => ∀ p, H p = none → tk σ (upd H p (.dT [])) fun x H1 => tv σ H1 fun y H2 => H2 p = some (.dT []) ∧ ∃ b key, x = .ref b ∧ H2 b = some (.tup (List.map kV key)) ∧ Q (.ref p) (upd H2 p (.dT [(key, y)]))
theorem pe_disp1T {k v : Expr} {tk tv : TE} (hu : X.A.units + 1 < cLine) (hk : PE X k tk) (hv : PE X v tv) : PE X (.Dict [some k] [v] pos) (tDisp1T tk tv) := by
  refine ⟨fun pins s σ H Q I q => ?_⟩
  have hn := I.hok.fresh (Nat.le_refl s.heap.objs.size)
  have I1 := I.laid (a := s.heap.objs.size) (o := .dT []) (h' := s.heap.push { cls := .type "dict", data := .dict #[] }) (t' := s.toks) (fun _ _ q => Heap.get?_push_of_some _ q) (Nat.le_refl _) (dt_empty s.heap I.big)
  rw [arm_eval_Dict, zip_pairTrees [some k] [v] X.env pos rfl rfl, dictDisplay_pairs _ (fun z => by have := congrArg List.length z; rw [pairTrees_length [some k] [v] X.env pos rfl rfl] at this; cases this) (by rw [pairTrees_length [some k] [v] X.env pos rfl rfl]; show 1 < 17; decide)]
  refine wpAny_bind (wpAny_standAt (wpAny_bind (wpAny_subDictH (knd := tupleKind (mixKind X.prog X.w)) (show X.A.units < cLine by omega) (by rw [pairTrees_length [some k] [v] X.env pos rfl rfl]; show 1 ≤ 15; decide) ?_)))
  refine pairTrees_cons_walk (thn (hk.run pins _ σ _ _ I1 (q _ hn)) fun u s1 ⟨x, H1, I2, rx, q1⟩ => thn (hv.run pins s1 σ H1 _ I2 q1) fun w2 s2 ⟨y, H2, I3, ry, q2⟩ => pairTrees_nil_walk ?_)
  obtain ⟨hp, b, key, rfl, hb, q3⟩ := q2
  cases (show u = Value.ref b from rx)
  obtain ⟨z, hd, xs, rel, dd⟩ := dt_of I3.hok hp
  cases rel
  refine ⟨[(key, b, w2)], ⟨rfl, rfl, key_of I3.hok hb, trivial⟩, dd, fun h' tk dd' hs => wpAny_pure ⟨.ref s.heap.objs.size, _, ?_, rfl, q3⟩⟩
  obtain ⟨qo, es, ep, hq, h2, h3, h4, _, h5⟩ := dd'
  refine d_write I3 (by rw [hp]; exact True.intro) hs ⟨qo, hq⟩ ⟨by show 1 ≤ sizeLine; decide, hd, [(key, b, w2)], .cons ⟨rfl, ?_, ry⟩ .nil, qo, es, ep, hq, h2, h3, h4, h5⟩
  rw [upd_ne (ne_of hb hp (fun z => nomatch z))]
  exact hb
/-- x = {e1: e2}, e1 a tuple -/
def sNew1T (k : Nat) (tk tv : TX) : TSt := fun De wq τ => tk τ (fun y _ => tv τ (fun d kd => match y, kd with
  | .tuple ys, .fz c => im d = true ∧ (match toKeys ys with
    | some key => De.nx (τ.set k (some (.dT [(key, d)])))
    | none => False)
  | _, _ => False) (fun nm => wq nm τ)) (fun nm => wq nm τ)
theorem gs_new1T {k : Nat} {x : Str} {e1 e2 : Expr} {tk tv : TX} {p2 pos' : Pos} (hu : X.A.units + 1 < cLine) (hN : X.N.Nodup) (hk : GQ X G W e1 tk) (hv : GQ X G W e2 tv) (hp : G.pool = none ∨ k ≠ G.ps) (hi : X.N[k]? = some x := by rfl) (hx : Loc X.env.scope x := by first | exact .inl rfl | exact .inr rfl)
    (hs : swapsWith (.Dict [some e1] [e2] p2) (some (.Name x pos')) pos.line X.env = pure false := by rfl) (hf : X.fn x = true ∨ X.env.scope.names.lookup x = some .local := by first | exact .inl rfl | exact .inr rfl | assumption) :
    GS X G W (.Assign [.Name x pos'] (.Dict [some e1] [e2] p2) pos) (sNew1T k tk tv) := by
  obtain ⟨t1, q1, f1⟩ := hk.ex
  obtain ⟨t2, q2, f2⟩ := hv.ex
  refine ⟨_, ps_set hN hi hx (pe_disp1T hu q1 q2) hs hf, fun σ H τ ow De wq Dh S h E p np => ?_⟩
  have g1 : Grow X.K G H (upd H p (.dT [])) := Grow.upd np
  have S1 := S.grow g1
  have nop : ow p = none := S.freshO np
  refine f1 σ _ τ ow _ _ _ S1 h fun y dy ky ry h1 => f2 σ _ τ ow _ _ _ S1 h1 fun v d kd rv h2 => ?_
  cases dy with
  | tuple ys =>
    cases kd with
    | fz c =>
      obtain ⟨hc, h2⟩ := (show im d = true ∧ (match toKeys ys with
        | some key => De.nx (τ.set k (some (.dT [(key, d)])))
        | none => False) from h2)
      cases ek : toKeys ys with
      | none => rw [ek] at h2; exact h2.elim
      | some key =>
        rw [ek] at h2
        cases ry.dpAny with
        | tup eb t =>
          rename_i b xs
          have ey := toKeys_dp t ek
          subst ey
          refine ⟨upd_same, _, key, rfl, eb, ?_⟩
          rw [upd_upd]
          have rv3 : DP X.K (upd H p (.dT [(key, v)])) (fun a => Fz G ow true a ∧ a ≠ p) v d := by
            exact (DP.ofIm (show DP X.K _ (Fz G ow c) v d from rv) hc : DP X.K _ (fun a => Fz G ow true a ∧ a ≠ p) v d).keep (fun c o pc e => by
                rw [upd_ne pc.2] at e ⊢; exact e) (fun c o e m => by
                by_cases z : c = p
                · subst z; exact (m (by rw [upd_same]; trivial)).elim
                · rw [upd_ne z] at e ⊢; exact e) fun _ q => q
          obtain ⟨ow', S', f⟩ := S.setO1 (sl := .dT [(key, d)]) np hp (show Mut (some (.dT [(key, v)])) from trivial) fun ow' o hw => ⟨p, _, rfl, o, upd_same, .cons ⟨rfl, rv3.mono fun c q => ⟨hw c q.2 q.1.1, q.1.2⟩⟩ .nil⟩
          exact E.nx _ ow' _ _ S' f h2
    | _ => exact h2.elim
  | _ => cases kd <;> exact h2.elim
/-! ### sorted(x), x data: a dict with tuples as keys -/
def fSortDT : List (D × Kd) → QD → Prop
  | [(d, _)], Q => ∃ (kvs : List (List Key × D)), d = dcT kvs ∧ SortOk (kvs.map fun kv => tupD kv.1) ∧ Q (.list ((kvs.map fun kv => tupD kv.1).mergeSort dLe)) (.nw true)
  | _, _ => False
theorem ge_sortDT {e : Expr} {p : Pos} {t : TXs} (hc : X.calm = true) (hu : X.A.units + 65 < cLine) (hm : X.mg "sorted" = none) (ha : GA X G W [e] t) (hg : Gl X "sorted" := by rfl) (he : starEach [e] X.env = (false, eval e X.env) :: starEach [] X.env := by rfl) : GE X G W (.Call (.Name "sorted" p) [e] [] pos) (gCall fSortDT t) := by
  refine ge_callB (call_sortDT hc hu) ?_ ha hm (by decide +kernel) hg (by decide) (by decide) he
  intro σ H1 H τ ow vs ds Q Kt S gr r hf k
  unfold fSortDT at hf
  split at hf
  · obtain ⟨kvs, rfl, ok, q⟩ := hf
    cases r with
    | cons r1 t =>
      cases t
      obtain ⟨a, xs, rfl, ha, t⟩ := r1.dTs
      have ek : xs.map (fun kv => tupD kv.1) = kvs.map fun kv => tupD kv.1 := by
        have := congrArg (List.map tupD) (DKs.split t).1
        rw [List.map_map, List.map_map] at this
        exact this
      refine ⟨a, xs, rfl, .inl ha, by rw [ek]; exact ok, fun ys p hy hm hn => ?_⟩
      rw [ek] at hm
      refine k _ _ _ _ (Grow.upd hn) (RV.new S gr hn ?_) q
      rw [← hm]
      have kk : ∀ {P : Addr → Prop} (ks : List Key), DPs X.K H P (ks.map kV) (ks.map keyD) := by
        intro P ks
        induction ks with
        | nil => exact .nil
        | cons c ks ih =>
          cases c with
          | inl i => exact .cons (.int i) ih
          | inr z => exact .cons (.str z) ih
      clear hm
      induction ys with
      | nil => exact .nil
      | cons y ys ih => exact .cons (.tup (hy y List.mem_cons_self) (kk _)) (ih fun z hz => hy z (List.mem_cons_of_mem _ hz))
  · exact hf.elim
end
end TL

set_option maxHeartbeats 4000000
/-! zip(x, y), x a list, y a tuple -/
namespace TL
open PySem PySem.Spec PyProof.Rows L2
/-- the list at l and the tuple at t, item by item -/
def ItLT (K : PySem.W.Frag) (l t : Addr) : It where
  go := fun j H => ∃ (us ws : List V) (p q : V), SqL K H l us ∧ SqT K H t ws ∧ us[j]? = some p ∧ ws[j]? = some q
  yld := fun j H v H2 => ∃ N p q, v = .ref N ∧ H N = none ∧ H2 = upd H N (.tup [p, q]) ∧ (∀ us, SqL K H l us → us[j]? = some p) ∧ ∀ ws, SqT K H t ws → ws[j]? = some q
  stop := fun j H => ∃ us ws : List V, SqL K H l us ∧ SqT K H t ws ∧ (us.length = j ∧ j ≤ ws.length ∨ ws.length = j ∧ j ≤ us.length)
def atLT (z m n i1 i2 l t : Addr) (j : Nat) (h : Heap) : Prop := IsZip h z m n .none ∧ IsTupOf2 h m (.ref i1) (.ref i2) ∧ (∃ u v, IsTupOf2 h n u v) ∧ h.IsListIter i1 l j ∧ h.IsTupleIter i2 t j
theorem five {z m n i1 i2 c : Addr} (h : c ∈ [z, m, n, i1, i2]) : c = z ∨ c = m ∨ c = n ∨ c = i1 ∨ c = i2 := by simpa using h
theorem atLT.has {z m n i1 i2 l t c : Addr} {j : Nat} {h : Heap} (st : atLT z m n i1 i2 l t j h) (hm : c ∈ [z, m, n, i1, i2]) : ∃ o, h.get? c = some o ∧ ∀ v, o.data ≠ .cell v := by
  obtain ⟨g1, g2, ⟨u, v, g3⟩, ⟨a, ga, _, da⟩, ⟨b, gb, _, db⟩⟩ := st
  rcases five hm with e | e | e | e | e <;> subst e
  · exact ⟨_, g1, fun _ x => by cases x⟩
  · exact ⟨_, g2, fun _ x => by cases x⟩
  · exact ⟨_, g3, fun _ x => by cases x⟩
  · exact ⟨a, ga, fun _ x => by rw [da] at x; cases x⟩
  · exact ⟨b, gb, fun _ x => by rw [db] at x; cases x⟩
theorem turn_LT {P : Program} {w : World} {K : PySem.W.Frag} {el : List Expr} {kk : Nat} {tp : Pos} {l t z m n i1 i2 : Addr} (Z : ZipSep2 z m n i1 i2 [i1, l] [i2, t]) (n1 : l ≠ i1) (n2 : t ≠ i2) (m2 : m ≠ i2) :
    Turn P w K (.Tuple el kk tp) (ItLT K l t) [z, m, n, i1, i2] z (atLT z m n i1 i2 l t) where
  mem := List.mem_cons_self
  obj := fun _ _ st _ hm => st.has hm
  keep := by
    rintro j h h2 ⟨g1, g2, ⟨u, v, g3⟩, g4, g5⟩ k
    exact ⟨k _ (by simp) _ g1, k _ (by simp) _ g2, ⟨u, v, k _ (by simp) _ g3⟩, g4.at fun o e => k _ (by simp) o e, g5.at fun o e => k _ (by simp) o e⟩
  item := by
    intro X eP ew eK calm j pins s σ H E I free st go
    subst eP ew eK
    have st0 := st
    obtain ⟨g1, g2, ⟨u0, v0, g3⟩, g4, g5⟩ := st
    obtain ⟨us, ws, p, q, s1, s2, hp, hq⟩ := go
    obtain ⟨as, ra, la, _⟩ := I.list s1
    obtain ⟨bs, rb, lb, _⟩ := I.tuple s2
    obtain ⟨u, hu, ru⟩ := ra.get hp
    obtain ⟨v, hv, rv⟩ := rb.get hq
    have hd : X.A.in1.handled = none := I.ok.hd calm
    have lt1 : j < as.toArray.size := by
      have := (List.getElem?_eq_some_iff.mp hu).1
      simpa using this
    have lt2 : j < bs.toArray.size := by
      have := (List.getElem?_eq_some_iff.mp hv).1
      simpa using this
    refine wpAny_pyNext_zipD2_item Z (Draws.list hd i1 l n1 as.toArray) (Draws.tuple hd i2 t n2 bs.toArray) g1 g2 g3 ⟨g4, la.isList⟩ ⟨g5, lb⟩ lt1 lt2 fun x y h1 tk e1 e2 zz nn f1 f2 new big old => ?_
    have ex : x = u := by
      have : as[j]? = some x := by simpa using e1
      rw [hu] at this; exact (Option.some.inj this).symm
    have ey : y = v := by
      have : bs[j]? = some y := by simpa using e2
      rw [hv] at this; exact (Option.some.inj this).symm
    subst ex ey
    have zlt : z < s.heap.objs.size := Heap.lt_size g1
    refine ⟨_, rfl, wpAny_letOwnedTupleGo_zip (s := { s with heap := h1, toks := tk }) zz fun h2 z2 sb => ?_⟩
    have keep2 : ∀ c o, c ≠ z → h1.get? c = some o → h2.get? c = some o := fun c o e r => (sb.2 c e).trans r
    have all5 : ∀ c o, c ∉ [z, m, n, i1, i2] → s.heap.get? c = some o → h2.get? c = some o := fun c o no r =>
      keep2 c o (fun e => no (by simp [e])) (old c o (fun e => no (by simp [e])) (fun e => no (by simp [e])) (fun e => no (by simp [e])) (fun e => no (by simp [e])) r)
    have isNew : ObjOk X.prog X.w (upd H s.heap.objs.size (.tup [p, q])) h2 s.heap.objs.size (.tup [p, q]) :=
      ⟨show 2 ≤ sizeLine by decide, [x, y], .cons ru (.cons rv .nil), ⟨_, keep2 _ _ (Nat.ne_of_gt zlt) new, rfl, _, rfl⟩⟩
    have I2 := I.turnedNew (t' := tk) (T := s.heap.objs.size) (ob := .tup [p, q]) all5 free (Nat.le_refl _) isNew
    refine ⟨.ref s.heap.objs.size, _, I2, rfl, ⟨_, p, q, rfl, I.hok.fresh (Nat.le_refl _), rfl, fun l2 e => by rw [I.list_inj e s1]; exact hp, fun l2 e => by rw [I.tuple_inj e s2]; exact hq⟩, ⟨z2, keep2 _ _ Z.TIz (old _ _ Z.TIz Z.TITO Z.TIi1 m2 g2), ⟨x, y, keep2 _ _ Z.TOz nn⟩, f1.1.at fun o e => keep2 _ o Z.zi1.symm e, f2.1.at fun o e => keep2 _ o Z.zi2.symm e⟩, fun c hc => ?_⟩
    obtain ⟨o, ho, _⟩ := st0.has hc
    have clt := Heap.lt_size ho
    rw [upd_ne (Nat.ne_of_lt clt)]
    exact (free c hc).1
  done := by
    intro X eP ew eK calm j pins s σ H E I free st stop
    subst eP ew eK
    obtain ⟨g1, g2, ⟨u0, v0, g3⟩, g4, g5⟩ := st
    obtain ⟨us, ws, s1, s2, he⟩ := stop
    obtain ⟨as, ra, la, _⟩ := I.list s1
    obtain ⟨bs, rb, lb, _⟩ := I.tuple s2
    have hd : X.A.in1.handled = none := I.ok.hd calm
    have z1 : as.toArray.size = us.length := by rw [List.size_toArray]; exact ra.length.symm
    have z2 : bs.toArray.size = ws.length := by rw [List.size_toArray]; exact rb.length.symm
    refine wpAny_pyNext_zipD2_end Z (Draws.list hd i1 l n1 as.toArray) (Draws.tuple hd i2 t n2 bs.toArray) g1 g2 g3 ⟨g4, la.isList⟩ ⟨g5, lb⟩ (by omega) (by omega) (by omega) fun h1 tk old => ⟨rfl, ?_⟩
    exact I.turnedL (t' := tk) (fun c o no r => old c o (fun e => no (by simp [e])) (fun e => no (by simp [e])) (fun e => no (by simp [e])) (fun e => no (by simp [e])) r) free
  self := fun A j s Q E st h => wpAny_pyIter_zip st.1 h
section
variable {X : Cx} {G : Gh} {W : WX} {pos : Pos}
def iZipLT (K : PySem.W.Frag) (ta : TA) : TI := fun σ H R => ta σ H fun vs H1 => ∃ l t us ws, vs = [.ref l, .ref t] ∧ SqL K H1 l us ∧ SqT K H1 t ws ∧ R (ItLT K l t) H1
theorem pi_zipLT {e e2 : Expr} {ta : TA} {p tp : Pos} {el : List Expr} {kk : Nat} (hg : Gl X "zip") (hm : X.mg "zip" = none) (ha : PA X [e, e2] ta) (hs : starEach [e, e2] X.env = (false, eval e X.env) :: starEach [e2] X.env := by rfl) (hpl : (backTo pos (starEach [e2] X.env)).any (·.1) = false := by rfl) :
    PI X (.Tuple el kk tp) (.Call (.Name "zip" p) [e, e2] [] pos) (iZipLT X.K ta) where
  run := by
    intro pins s σ H R I h
    refine Call_ (ld_blt I hg hm PyProof.Rows.boot_zip (PyProof.Rows.callWith_type1 (thn (ha.run pos pins s σ H _ I h) fun vals s1 ⟨vs, H1, I1, r1, q1⟩ => ?_) hs hpl))
    obtain ⟨l, t, us, ws, ev, s2, s3, q⟩ := q1
    subst ev
    obtain ⟨u1, ux, rfl, k1, k2⟩ : ∃ u1 u2, vals = [u1, u2] ∧ RelV (.ref l) u1 ∧ RelV (.ref t) u2 := by
      cases r1 with
      | cons a b =>
        cases b with
        | cons c d => cases d; exact ⟨_, _, rfl, a, c⟩
    cases k1
    cases k2
    obtain ⟨as, ra, la, _⟩ := I1.list s2
    obtain ⟨bs, rb, lb, _⟩ := I1.tuple s3
    have ltl : l < s1.heap.objs.size := la.lt
    have ltt : t < s1.heap.objs.size := by obtain ⟨o, ho, _⟩ := id lb; exact Heap.lt_size ho
    refine zip_begins2 (begins_list l as.toArray) (begins_tuple t bs.toArray) la.isList lb fun h2 y1 y2 y3 y4 y5 y6 y7 => wpAny_pyIter_zip y1 ?_
    have I2 : Inv X pins σ H1 { s1 with heap := h2 } := I1.kept (t' := s1.toks) y7
    refine ⟨s1.heap.objs.size + 4, [s1.heap.objs.size + 4, s1.heap.objs.size + 2, s1.heap.objs.size + 3, s1.heap.objs.size, s1.heap.objs.size + 1], _, _, H1, rfl, I2, turn_LT (zip_sep2 (fp1 := [l]) (fp2 := [t]) (fun b hb => by rw [List.mem_singleton.mp hb]; exact ltl) fun b hb => by rw [List.mem_singleton.mp hb]; exact ltt) (Nat.ne_of_lt ltl) (Nat.ne_of_lt (Nat.lt_succ_of_lt ltt)) (Nat.ne_of_gt (Nat.lt_succ_self _)), ⟨y1, y2, ⟨_, _, y3⟩, ⟨_, y4, rfl, rfl⟩, ⟨_, y5, rfl, rfl⟩⟩, fun c hc => ?_, q⟩
    have le : s1.heap.objs.size ≤ c := by
      rcases five hc with z | z | z | z | z <;> rw [z] <;> first | exact Nat.le_refl _ | exact Nat.le_add_right _ _
    exact I1.fpOk le (I1.hok.fresh le)
theorem itok_LT {K : PySem.W.Frag} {ow : Ow} {H : Hp} {τ : Slots} {σ : L2.St} {c own : Bool} {a b : Addr} {xs ys : List V} {ds es : List D} (S : Sim K G τ ow σ H) (e : H a = some (.lst xs)) (e' : H b = some (.tup ys)) (ho : (own = true ∧ ∃ k, ow a = some (some k)) ∨ ow a = none)
    (t : DPs K H (Fz G ow c) xs ds) (t' : DPs K H (Fz G ow c) ys es) : ItOk K G ow H own (ItLT K a b) (zpD ds es) c := by
  intro τ2 ow2 σ2 H2 S2 ho2 f
  have e2 : H2 a = some (.lst xs) := by
    rcases ho with z | z
    · exact ho2 z.1 a _ _ e z.2.choose_spec
    · exact (f a _ e z).1
  have t2 := t.frs S f
  have t2' := t'.frs S f
  have e3 : H2 b = some (.tup ys) := by
    refine (f b _ e' ?_).1
    cases q : ow b with
    | none => rfl
    | some k => have := S.own b k q; rw [e'] at this; exact this.elim
  have z1 := t.length
  have z2 := t'.length
  refine ⟨fun j d hd => ?_, xs, ys, .of e2, .of e3, by unfold zpD; rw [List.length_zipWith]; omega⟩
  obtain ⟨dx, dy, hx, hy, rfl⟩ := zpD_get hd
  obtain ⟨p, hp, rp⟩ := t2.get hx
  obtain ⟨q, hq, rq⟩ := t2'.get hy
  refine ⟨⟨xs, ys, p, q, .of e2, .of e3, hp, hq⟩, fun v H3 y => ?_⟩
  obtain ⟨N, p2, q2, rfl, hN, rfl, yp, yq⟩ := y
  have ep := (yp xs (.of e2)).symm.trans hp
  have eq := (yq ys (.of e3)).symm.trans hq
  cases ep
  cases eq
  have gr : Grow K G H2 (upd H2 N (.tup [p, q])) := Grow.upd hN
  exact ⟨gr, .tup upd_same (.cons (DP.grow S2 gr S2.fzp rp) (.cons (DP.grow S2 gr S2.fzp rq) .nil))⟩
def zipLT (d : D) (kd : Kd) (e : D) (ke : Kd) (Q : List D → Bool → Bool → Prop) : Prop := match d, e with
  | .list ds, .tuple es => Q (zpD ds es) (kd.b && ke.b) kd.isOw
  | _, _ => False
def iZpM (t u : TX) : TIt := fun τ Q wq => t τ (fun d kd => u τ (fun e ke => zipLT d kd e ke Q) wq) wq
theorem gi_zipLT {elts : List Expr} {kk : Nat} {tpos p : Pos} {e e2 : Expr} {t u : TX} (hm : X.mg "zip" = none) (he : GE X G W e t) (hu : GE X G W e2 u) (hg : Gl X "zip" := by rfl) (hs : starEach [e, e2] X.env = (false, eval e X.env) :: starEach [e2] X.env := by rfl) (hs2 : starEach [e2] X.env = (false, eval e2 X.env) :: starEach [] X.env := by rfl) (hpl : (backTo pos (starEach [e2] X.env)).any (·.1) = false := by rfl) :
    GI X G W (.Tuple elts kk tpos) (.Call (.Name "zip" p) [e, e2] [] pos) (iZpM t u) := by
  obtain ⟨te, p1, f1⟩ := he.ex
  obtain ⟨t2, p2, f2⟩ := hu.ex
  refine ⟨_, pi_zipLT hg hm (pa_cons p1 (pa_cons p2 pa_nil hs2) hs) hs hpl, fun σ H τ ow Q wq R S h k w => f1 σ H τ ow _ wq _ S h (fun v H1 d kd g1 r1 q1 => ?_) w⟩
  refine f2 σ H1 τ ow _ wq _ (S.grow g1) q1 (fun v2 H2 d2 kd2 g2 r2 q2 => ?_) (w.grow g1)
  have S2 := S.grow (g1.trans g2)
  have r1' := r1.grow S g1 g2
  unfold zipLT at q2
  split at q2
  · obtain ⟨a, xs, rfl, e1, t1⟩ := r1'.lst
    obtain ⟨b, ys, rfl, e2, t2⟩ := r2.tup
    exact ⟨a, b, xs, ys, rfl, .of e1, .of e2, k _ _ _ _ _ (g1.trans g2) (itok_LT S2 e1 e2 (RV.ownL S r1' fun z => z) (t1.mono fun c p => p.andL) (t2.mono fun c p => p.andR)) q2⟩
  · exact q2.elim
end
end TL

set_option maxHeartbeats 4000000
/-! == and != of anything and a text -/
namespace PySem.SeqAt
open AutoSeq1 (wpAny_loadPart')
open MeetsSeq
theorem dict_eq_no_str (l : Addr) (es : Array DictEntry) (ep : Nat) (dd : Option Addr) (sl : Array (Option Value)) (b : Str) (u : Tok) :
    Meets (Builtin.«dict.__eq__» ⟨[.ref l, .str b u], []⟩) (fun _ R s => s.heap.get? l = some { cls := .type "dict", dict := dd, data := .dict es ep, slots := sl } ∧ R (.ok (.ret .notImplemented)) s) :=
  .of_wp fun prog w A R s h => by obtain ⟨hp, g, d, tk, os⟩ := s; obtain ⟨hl, h⟩ := h; have f1 := F.sub_str_dict; wp_walk using wpAny_loadPart' hl, wpAny_load hl; exact ⟨_, rfl, h⟩
theorem str_eq_no_dict (b : Str) (u : Tok) (l : Addr) (c : Value) (es : Array DictEntry) (ep : Nat) (dd : Option Addr) (sl : Array (Option Value)) :
    Meets (Builtin.«str.__eq__» ⟨[.str b u, .ref l], []⟩) (fun _ R s => s.heap.get? l = some { cls := c, dict := dd, data := .dict es ep, slots := sl } ∧ R (.ok (.ret .notImplemented)) s) :=
  .of_wp fun prog w A R s h => by obtain ⟨hp, g, d, tk, os⟩ := s; obtain ⟨hl, h⟩ := h; wp_walk using wpAny_loadPart' hl, wpAny_load hl; exact ⟨_, rfl, h⟩
theorem dict_ne_no_str (l : Addr) (es : Array DictEntry) (ep : Nat) (dd : Option Addr) (sl : Array (Option Value)) (b : Str) (u : Tok) :
    Meets (Builtin.«dict.__ne__» ⟨[.ref l, .str b u], []⟩) (fun _ R s => s.heap.get? l = some { cls := .type "dict", dict := dd, data := .dict es ep, slots := sl } ∧ R (.ok (.ret .notImplemented)) s) :=
  .of_wp fun prog w A R s h => by obtain ⟨hp, g, d, tk, os⟩ := s; obtain ⟨hl, h⟩ := h; have f1 := F.sub_str_dict; wp_walk using wpAny_loadPart' hl, wpAny_load hl; exact ⟨_, rfl, h⟩
theorem str_ne_no_dict (b : Str) (u : Tok) (l : Addr) (c : Value) (es : Array DictEntry) (ep : Nat) (dd : Option Addr) (sl : Array (Option Value)) :
    Meets (Builtin.«str.__ne__» ⟨[.str b u, .ref l], []⟩) (fun _ R s => s.heap.get? l = some { cls := c, dict := dd, data := .dict es ep, slots := sl } ∧ R (.ok (.ret .notImplemented)) s) :=
  .of_wp fun prog w A R s h => by obtain ⟨hp, g, d, tk, os⟩ := s; obtain ⟨hl, h⟩ := h; wp_walk using wpAny_loadPart' hl, wpAny_load hl; exact ⟨_, rfl, h⟩
theorem RcAt.dict_str {A : Around} {s : Shared} {l : Addr} {o : Obj} {es : Array DictEntry} {ep : Nat} (b : Str) (u : Tok) (ho : s.heap.get? l = some o) (hc : o.cls = .type "dict") (hd : o.data = .dict es ep) (hu : A.units < cLine) : RcAt A s (.ref l) (.str b u) false := fun prog w E Q h => by
  obtain ⟨cls, dd, data, sl⟩ := o
  simp only at hc hd
  subst hc hd
  exact rc_eq_decline_or (k := false) ⟨_, ho, rfl⟩ (typeIs_str s b u) (by decide) F.sub_str_dict F.slot_dict_eq F.slot_str_eq_refl
    (fun _ z => call_meets F.slot_dict_eq ⟨_, ho, rfl⟩ F.entry_dict_eq (F.args_dict_eq_2 _ _) (dict_eq_no_str l es ep dd sl b u) ⟨ho, z⟩)
    (fun _ z => call_meets F.slot_str_eq_refl (typeIs_str s b u) F.entry_str_eq (F.args_str_eq_2 _ _) (str_eq_no_dict b u l (.type "dict") es ep dd sl) ⟨ho, z⟩)
    (fun _ z => wpAny_of_eq (rfl : isSame (.ref l) (.str b u) = pure false) z) (.inr hu) h
theorem RcNeAt.dict_str {A : Around} {s : Shared} {l : Addr} {o : Obj} {es : Array DictEntry} {ep : Nat} (b : Str) (u : Tok) (ho : s.heap.get? l = some o) (hc : o.cls = .type "dict") (hd : o.data = .dict es ep) (hu : A.units < cLine) : RcNeAt A s (.ref l) (.str b u) true := fun prog w E Q h => by
  obtain ⟨cls, dd, data, sl⟩ := o
  simp only at hc hd
  subst hc hd
  exact rc_ne_decline_or (k := false) ⟨_, ho, rfl⟩ (typeIs_str s b u) (by decide) F.sub_str_dict F.slot_dict_ne F.slot_str_ne_refl
    (fun _ z => call_meets F.slot_dict_ne ⟨_, ho, rfl⟩ F.entry_dict_ne (F.args_dict_ne_2 _ _) (dict_ne_no_str l es ep dd sl b u) ⟨ho, z⟩)
    (fun _ z => call_meets F.slot_str_ne_refl (typeIs_str s b u) F.entry_str_ne (F.args_str_ne_2 _ _) (str_ne_no_dict b u l (.type "dict") es ep dd sl) ⟨ho, z⟩)
    (fun _ z => wpAny_of_eq (rfl : isSame (.ref l) (.str b u) = pure false) z) (.inr hu) h
end PySem.SeqAt
namespace TL
open PySem PySem.Spec PyProof.Rows L2
section
variable {X : Cx} {G : Gh} {W : WX} {pos : Pos}
/-- is the value the text b -/
inductive EqT (H : Hp) (b : Str) : V → Bool → Prop
  | non : EqT H b .non false
  | bl (i : Bool) : EqT H b (.bl i) false
  | int (i : Int) : EqT H b (.int i) false
  | str (z : Str) : EqT H b (.str z) (z == b)
  | lst {a : Addr} {xs : List V} : H a = some (.lst xs) → EqT H b (.ref a) false
  | tup {a : Addr} {xs : List V} : H a = some (.tup xs) → EqT H b (.ref a) false
  | dK {a : Addr} {xs : List (Key × V)} : Rd H a (.dK xs) → EqT H b (.ref a) false
  | dT {a : Addr} {xs : List (List Key × V)} : H a = some (.dT xs) → EqT H b (.ref a) false
def rEqT (ne : Bool) : R2 := fun x y H Q => ∃ b k, y = .str b ∧ EqT H b x k ∧ Q (.bl (ne ^^ k)) H
theorem op_eqT (hu : X.A.units + 64 < cLine) : OpR X (compareOp .Eq) (rEqT false) := by
  intro pins s σ H x y v u Q I rx ry h
  have hu' : X.A.units < cLine := by omega
  obtain ⟨b, k, rfl, e, q⟩ := h
  obtain ⟨t, rfl⟩ := ry
  rw [Bool.false_xor] at q
  suffices hs : SeqAt.RcAt X.A s v (.str b t) k from hs X.prog X.w _ _ ⟨.bl k, H, I, rfl, q⟩
  cases e with
  | non => cases (show v = Value.none from rx); exact SeqAt.RcAt.none_str b t
  | bl i => cases (show v = Value.bool i from rx); exact SeqAt.RcAt.bool_str i b t
  | int i => obtain ⟨t1, rfl⟩ := rx; exact SeqAt.RcAt.int_str i t1 b t
  | str z => obtain ⟨t1, rfl⟩ := rx; exact SeqAt.RcAt.str_str z t1 b t
  | lst ha =>
    cases rx
    obtain ⟨us, r1, p1, _⟩ := I.list (.of ha)
    exact SeqAt.RcAt.list_str b t p1.isList hu'
  | tup ha =>
    cases rx
    obtain ⟨its, r1, p1, _⟩ := I.tuple (.of ha)
    exact SeqAt.RcAt.tuple_str b t p1 hu'
  | @dK a xs ha =>
    cases (show v = Value.ref a from rx)
    obtain ⟨_, _, vs, _, o, es, ep, h1, h2, h3, _⟩ := (show ObjOk X.prog X.w H s.heap a (.dK xs) from ha.ok I.hok)
    exact SeqAt.RcAt.dict_str b t h1 h2.1 h3 hu'
  | @dT a xs ha =>
    cases (show v = Value.ref a from rx)
    obtain ⟨_, _, vs, _, o, es, ep, h1, h2, h3, _⟩ := (show ObjOk X.prog X.w H s.heap a (.dT xs) from I.hok a _ ha)
    exact SeqAt.RcAt.dict_str b t h1 h2.1 h3 hu'
theorem op_neT (hu : X.A.units + 64 < cLine) : OpR X (compareOp .NotEq) (rEqT true) := by
  intro pins s σ H x y v u Q I rx ry h
  have hu' : X.A.units < cLine := by omega
  obtain ⟨b, k, rfl, e, q⟩ := h
  obtain ⟨t, rfl⟩ := ry
  rw [Bool.true_xor] at q
  suffices hs : SeqAt.RcNeAt X.A s v (.str b t) (!k) from hs X.prog X.w _ _ ⟨.bl (!k), H, I, rfl, q⟩
  cases e with
  | non => cases (show v = Value.none from rx); exact SeqAt.RcNeAt.none_str b t
  | bl i => cases (show v = Value.bool i from rx); exact SeqAt.RcNeAt.bool_str i b t
  | int i => obtain ⟨t1, rfl⟩ := rx; exact SeqAt.RcNeAt.int_str i t1 b t
  | str z => obtain ⟨t1, rfl⟩ := rx; exact SeqAt.RcNeAt.str_str z t1 b t
  | lst ha =>
    cases rx
    obtain ⟨us, r1, p1, _⟩ := I.list (.of ha)
    exact SeqAt.RcNeAt.list_str b t p1.isList hu'
  | tup ha =>
    cases rx
    obtain ⟨its, r1, p1, _⟩ := I.tuple (.of ha)
    exact SeqAt.RcNeAt.tuple_str b t p1 hu'
  | @dK a xs ha =>
    cases (show v = Value.ref a from rx)
    obtain ⟨_, _, vs, _, o, es, ep, h1, h2, h3, _⟩ := (show ObjOk X.prog X.w H s.heap a (.dK xs) from ha.ok I.hok)
    exact SeqAt.RcNeAt.dict_str b t h1 h2.1 h3 hu'
  | @dT a xs ha =>
    cases (show v = Value.ref a from rx)
    obtain ⟨_, _, vs, _, o, es, ep, h1, h2, h3, _⟩ := (show ObjOk X.prog X.w H s.heap a (.dT xs) from I.hok a _ ha)
    exact SeqAt.RcNeAt.dict_str b t h1 h2.1 h3 hu'
def strIs (b : Str) : D → Bool
  | .str a => a == b
  | _ => false
theorem strIs_iff {b : Str} {d : D} : strIs b d = true ↔ d = .str b := by
  cases d <;> simp [strIs]
def fEqT (ne : Bool) : D → Bool → D → Bool → QD → Prop
  | d, _, .str b, _, Q => Q (.bool (ne ^^ strIs b d)) (.fz true)
  | _, _, _, _, _ => False
theorem fEqT_s {d : D} {ne a b : Bool} {z : Str} {Q : QD} : fEqT ne d a (.str z) b Q = Q (.bool (ne ^^ strIs z d)) (.fz true) := rfl
theorem RV.eqT {K : PySem.W.Frag} {ow : Ow} {H H' : Hp} {v : V} {d : D} {kd : Kd} (b : Str) (r : RV K G ow H H' v d kd) : EqT H' b v (strIs b d) := by
  cases r.dpAny with
  | non => exact .non
  | bl i => exact .bl i
  | int i => exact .int i
  | str z => exact .str z
  | lst _ h _ => exact .lst h
  | tup h _ => exact .tup h
  | dK _ h _ _ => exact .dK (.inl h)
  | dL h _ _ => exact .dK (.inr ⟨_, h⟩)
  | dT _ h _ _ => exact .dT h
theorem og_eqT {ne : Bool} : OpG X G (rEqT ne) (fEqT ne) := by
  intro σ H1 H τ ow x y dx dy kx ky Q Kt S gr rx ry hf k
  cases dy with
  | str b =>
    rw [ry.str]
    exact ⟨b, _, rfl, rx.eqT b, k _ _ _ _ Grow.refl (RV.sc fun _ => .bl _) hf⟩
  | _ => exact hf.elim
/-- y = [.. for .. for ..] -/
theorem gs_setLc2 {y : Str} {elt tg iter tg1 iter1 : Expr} {ifs ifs1 : List Expr} {scope : Scope} {own : List (Str × Nat)} {vs1 : List Nat} {it it1 : TIt} {g g1 : TGt} {ks ks1 : List Nat} {tt tt1 : TXb} {te : TX} {p2 py : Pos} (k : Nat) (hc : X.calm = true) (hN : X.N.Nodup) (hi : GI X G W tg iter it) (ok : BlkOk X.N X.env.scope scope own) (hp : G.pool = none ∨ G.ps ∉ own.map (·.2)) (hv : ∀ i ∈ vs1, i ∈ own.map (·.2)) (hpk : G.pool = none ∨ k ≠ G.ps)
    (hg : ∀ p, GG (blkX X scope p) G tg ks g) (ht : ∀ p, GTs (blkX X scope p) G WNo ifs tt) (hi1 : ∀ p, GI (blkX X scope p) G WNo tg1 iter1 it1) (hg1 : ∀ p, GG (blkX X scope p) G tg1 ks1 g1) (ht1 : ∀ p, GTs (blkX X scope p) G WNo ifs1 tt1) (he : ∀ p, GE (blkX X scope p) G WNo elt te) (hks : ∀ i ∈ ks, i ∈ own.map (·.2)) (hks1 : ∀ i ∈ ks1, i ∈ vs1)
    (hsw : swapsWith (.ListComp elt [⟨tg, iter, ifs, 0⟩, ⟨tg1, iter1, ifs1, 0⟩] scope p2) (some (.Name y py)) pos.line X.env = pure true) (hy : X.N[k]? = some y := by rfl) (hyl : X.env.scope.names.lookup y = some .local := by rfl)
    (hs : ∀ x, foldedSetIterable iter X.env x = pure x := by intro _; rfl) (hs1 : ∀ env x, foldedSetIterable iter1 env x = pure x := by intro _ _; rfl) : GS X G W (.Assign [.Name y py] (.ListComp elt [⟨tg, iter, ifs, 0⟩, ⟨tg1, iter1, ifs1, 0⟩] scope p2) pos) (sSet k (gLc2 it g tt it1 g1 tt1 te (own.map (·.2)) vs1)) := by
  obtain ⟨wi, p1, f1⟩ := hi.ex
  refine ⟨_, ps_setLc2 hc hN hy hyl hsw p1 ok hv (fun s H C cl fp => pgB (s, H, C, cl, fp)) (fun s H C cl fp => ptB (s, H, C, cl, fp)) (fun s H C cl fp => piB (s, H, C, cl, fp)) (fun s H C cl fp => pgB (s, H, C, cl, fp)) (fun s H C cl fp => ptB (s, H, C, cl, fp)) (fun s H C cl fp => peB (s, H, C, cl, fp)) hs hs1, fun σ H τ ow De wq Dh S h E => ?_⟩
  refine lc2_sem hp hv f1 hg ht hi1 hg1 ht1 he hks hks1 S h (fun v H' d kd g r q => ?_) (E.wk S)
  obtain ⟨sl, ow', S', f, q⟩ := S.store g hpk r q
  exact E.nx _ ow' _ _ S' f q
end
end TL

set_option maxHeartbeats 4000000
/-! anything in a tuple of texts -/
namespace PySem.SeqAt
theorem RcAt.str_dict {A : Around} {s : Shared} {l : Addr} {o : Obj} {es : Array DictEntry} {ep : Nat} (b : Str) (u : Tok) (ho : s.heap.get? l = some o) (hc : o.cls = .type "dict") (hd : o.data = .dict es ep) (hu : A.units < cLine) : RcAt A s (.str b u) (.ref l) false := fun prog w E Q h => by
  obtain ⟨cls, dd, data, sl⟩ := o
  simp only at hc hd
  subst hc hd
  exact rc_eq_decline_or (k := false) (typeIs_str s b u) ⟨_, ho, rfl⟩ (by decide) F.sub_dict_str F.slot_str_eq F.slot_dict_eq_refl
    (fun _ z => call_meets F.slot_str_eq (typeIs_str s b u) F.entry_str_eq (F.args_str_eq_2 _ _) (str_eq_no_dict b u l (.type "dict") es ep dd sl) ⟨ho, z⟩)
    (fun _ z => call_meets F.slot_dict_eq_refl ⟨_, ho, rfl⟩ F.entry_dict_eq (F.args_dict_eq_2 _ _) (dict_eq_no_str l es ep dd sl b u) ⟨ho, z⟩)
    (fun _ z => wpAny_of_eq (rfl : isSame (.str b u) (.ref l) = pure false) z) (.inr hu) h
theorem EqAt.str_dict {A : Around} {s : Shared} {l : Addr} {o : Obj} {es : Array DictEntry} {ep : Nat} (b : Str) (u : Tok) (ho : s.heap.get? l = some o) (hc : o.cls = .type "dict") (hd : o.data = .dict es ep) (hu : A.units < cLine) : EqAt A s (.str b u) (.ref l) false := fun prog w E Q h => by
  unfold eqBool
  refine wpAny_holding ?_
  refine wpAny_ite_split (fun hab => absurd (eq_of_beq hab) nofun) (fun _ => ?_)
  exact wpAny_bind (RcAt.str_dict b u ho hc hd hu prog w E _ (wpAny_truthy_bool h))
end PySem.SeqAt
namespace TL
open PySem PySem.Spec PyProof.Rows L2
section
variable {X : Cx} {G : Gh} {W : WX} {pos : Pos}
theorem eqAt_T {pins : List (Addr × Obj)} {σ : L2.St} {H : Hp} {s : Shared} {b : Str} {t : Tok} {x : V} {v : Value} {k : Bool} {A : Around} (I : Inv X pins σ H s) (rx : RelV x v) (e : EqT H b x k) (hu : A.units < cLine) : SeqAt.EqAt A s (.str b t) v k := by
  cases e with
  | non => cases (show v = Value.none from rx); exact SeqAt.EqAt.str_none b t
  | bl i => cases (show v = Value.bool i from rx); exact SeqAt.EqAt.str_bool b t i
  | int i => obtain ⟨t1, rfl⟩ := rx; exact SeqAt.EqAt.str_int b t i t1
  | str z =>
    obtain ⟨t1, rfl⟩ := rx
    rw [show (z == b) = (b == z) from Bool.eq_iff_iff.mpr (by rw [beq_iff_eq, beq_iff_eq]; exact eq_comm)]
    exact SeqAt.EqAt.str_str b t z t1
  | lst ha =>
    cases rx
    obtain ⟨us, r1, p1, _⟩ := I.list (.of ha)
    exact SeqAt.EqAt.str_list b t p1.isList hu
  | tup ha =>
    cases rx
    obtain ⟨its, r1, p1, _⟩ := I.tuple (.of ha)
    exact SeqAt.EqAt.str_tuple b t p1 hu
  | @dK a xs ha =>
    cases (show v = Value.ref a from rx)
    obtain ⟨_, _, vs, _, o, es, ep, h1, h2, h3, _⟩ := (show ObjOk X.prog X.w H s.heap a (.dK xs) from ha.ok I.hok)
    exact SeqAt.EqAt.str_dict b t h1 h2.1 h3 hu
  | @dT a xs ha =>
    cases (show v = Value.ref a from rx)
    obtain ⟨_, _, vs, _, o, es, ep, h1, h2, h3, _⟩ := (show ObjOk X.prog X.w H s.heap a (.dT xs) from I.hok a _ ha)
    exact SeqAt.EqAt.str_dict b t h1 h2.1 h3 hu
def rInS (K : PySem.W.Frag) (ne : Bool) : R2 := fun x y H Q => ∃ (bs : List Str) (f : Str → Bool) (a : Addr), y = .ref a ∧ SqT K H a (bs.map V.str) ∧ (∀ b ∈ bs, EqT H b x (f b)) ∧ Q (.bl (ne ^^ bs.any f)) H
def strE (f : Str → Bool) : Value → Bool
  | .str b _ => f b
  | _ => false
theorem vals_str : ∀ {bs : List Str} {its : List Value}, Vals (bs.map V.str) its → (∀ y ∈ its, ∃ b ∈ bs, ∃ t, y = .str b t) ∧ ∀ f, its.any (strE f) = bs.any f
  | [], its, h => by cases h; exact ⟨fun y hy => by simp at hy, fun f => rfl⟩
  | b :: bs, its, h => by
    cases h with
    | cons r t =>
      obtain ⟨tk, rfl⟩ := r
      obtain ⟨h1, h2⟩ := vals_str t
      refine ⟨fun y hy => ?_, fun f => by rw [List.any_cons, List.any_cons, h2 f]; rfl⟩
      rcases List.mem_cons.mp hy with rfl | hy
      · exact ⟨b, List.mem_cons_self, tk, rfl⟩
      · obtain ⟨c, hc, t, e⟩ := h1 y hy
        exact ⟨c, List.mem_cons_of_mem _ hc, t, e⟩
theorem op_inS (hu : X.A.units + 65 < cLine) : OpR X (compareOp .In) (rInS X.K false) := by
  intro pins s σ H x y v u Q I rx ry h
  obtain ⟨bs, f, a, rfl, sq, he, q⟩ := h
  cases ry
  obtain ⟨its, r1, p1, _⟩ := I.tuple sq
  obtain ⟨h1, h2⟩ := vals_str r1
  refine SeqAt.in_tupleAt (strE f) p1 (fun y hy => ?_) ⟨.bl _, H, I, rfl, ?_⟩
  · obtain ⟨b, hb, t, rfl⟩ := h1 y (by simpa using hy)
    exact eqAt_T I rx (he b hb) (by have e : X.A.in1.units = X.A.units + 1 := rfl; omega)
  · rw [List.any_toArray, h2 f]
    simpa using q
theorem op_notInS (hu : X.A.units + 65 < cLine) : OpR X (compareOp .NotIn) (rInS X.K true) := by
  intro pins s σ H x y v u Q I rx ry h
  obtain ⟨bs, f, a, rfl, sq, he, q⟩ := h
  cases ry
  obtain ⟨its, r1, p1, _⟩ := I.tuple sq
  obtain ⟨h1, h2⟩ := vals_str r1
  refine SeqAt.notIn_tupleAt (strE f) p1 (fun y hy => ?_) ⟨.bl _, H, I, rfl, ?_⟩
  · obtain ⟨b, hb, t, rfl⟩ := h1 y (by simpa using hy)
    exact eqAt_T I rx (he b hb) (by have e : X.A.in1.units = X.A.units + 1 := rfl; omega)
  · rw [List.any_toArray, h2 f]
    simpa using q
def fInS (ne : Bool) : D → Bool → D → Bool → QD → Prop
  | d, _, .tuple ds, _, Q => ∃ bs : List Str, ds = bs.map PyData.str ∧ Q (.bool (ne ^^ bs.any fun b => strIs b d)) (.fz true)
  | _, _, _, _, _ => False
theorem DPs.strs {K : PySem.W.Frag} {H : Hp} {P : Addr → Prop} : ∀ {bs : List Str} {xs : List V}, DPs K H P xs (bs.map PyData.str) → xs = bs.map V.str
  | [], xs, h => by cases h; rfl
  | b :: bs, xs, h => by
    cases h with
    | cons r t =>
      cases r
      rw [DPs.strs t]; rfl
theorem og_inS {ne : Bool} : OpG X G (rInS X.K ne) (fInS ne) := by
  intro σ H1 H τ ow x y dx dy kx ky Q Kt S gr rx ry hf k
  cases dy with
  | tuple ds =>
    obtain ⟨bs, rfl, q⟩ := hf
    obtain ⟨a, xs, rfl, e1, t1⟩ := ry.tup
    have := t1.strs
    subst this
    exact ⟨bs, _, a, rfl, .of e1, fun b _ => rx.eqT b, k _ _ _ _ Grow.refl (RV.sc fun _ => .bl _) q⟩
  | _ => exact hf.elim
end
end TL

set_option maxHeartbeats 4000000
/-! calls without arguments; a tuple of texts of the module handed to a def -/
namespace TL
open PySem PySem.Spec PyProof.Rows L2
section
variable {X : Cx} {G : Gh} {W : WX} {pos : Pos}
theorem pe_callS0 {CX : CXT} {k : Nat} {f : Addr} {fd : FuncData} {ps : List Str} {sp : Sp} {E : L2.St → XK} {x : Str} {q : Pos} (F : FnOk X.prog X.w X.K X.mg X.base CX k f fd ps sp) (hr : Room k X.A) (hg : Gl X x) (hm : X.mg x = some (.ref f)) (hk : PySem.W.keepIn X.K (.ref f) = true) (hb : Binds X.K fd ps []) (hx : ∀ σ, PassesAt CX X σ (E σ))
    (hdb : (x == ("__debug__" : Str)) = false := by decide) : PE X (.Call (.Name x q) [] [] pos) (tCallS sp E tNil) :=
  ⟨fun pins s σ H Q I h => wpAny_Call_Name_kw (ld_glob I hg hm (PySem.W.callWith_K0 I.kIn hk (run_fnS (us := []) F hr hb (hx σ) I .nil h)) hdb)⟩
/-- f(), a def of the text -/
theorem ge_call0 {x : Str} {p : Pos} {k : Nat} {S : FSp} (F : Pr X.prog X.w X.K X.mg X.base k x 0 false S) (hr : Room k X.A) (tk : Takes X W) (hg : Gl X x := by rfl) (hdb : (x == ("__debug__" : Str)) = false := by decide) : GE X G W (.Call (.Name x p) [] [] pos) (gFn S gNil) := by
  obtain ⟨f, fd, ps, h1, h2, h3, h4⟩ := F.ex
  refine ⟨_, pe_callS0 h1 hr hg h2 h3 h4 (fun σ => passAt tk σ) hdb, fun σ H τ ow Q wq Kt Sm h k w => ?_⟩
  have up : ∀ {H' : Hp}, Grow X.K (gh0 H none 0) H H' → Grow X.K G H H' := fun g => Grow.ofSame fun a o e => g.keep a o e (fun z => by cases z)
  refine ⟨none, 0, [], [], rfl, rfl, rfl, fun p e => (by cases e), .nil, _, wq, h, fun v H' d g r q => ?_, fun nm H' g q => ?_⟩
  · exact k v H' d _ (up g) (RR.rv Sm Grow.refl r) q
  · exact w nm H' (up g) q
end
/-! ### what is known of a tuple of texts of the module -/
structure ModT (K : PySem.W.Frag) (a : Addr) (xs : List Str) : Prop where
  sq : ∀ H, SqT K H a (xs.map V.str)
  ty : ∃ o, K.lookup a = some o ∧ o.cls = .type "tuple"
theorem modT_ok {K : PySem.W.Frag} {x : Str} {xs : List Str} (h : tupB K x xs = true) : ModT K (He.ga K x) xs := by
  refine ⟨fun H => tupB_ok h H, ?_⟩
  unfold tupB at h
  cases e : K.lookup (He.ga K x) with
  | none => rw [e] at h; cases h
  | some o =>
    rw [e] at h
    have h : tupO o xs = true := h
    unfold tupO at h
    cases ed : o.data with
    | seq its n =>
      rw [ed] at h
      simp only [Bool.and_eq_true, decide_eq_true_eq] at h
      exact ⟨o, rfl, h.1.1⟩
    | _ => rw [ed] at h; cases h
section
variable {X : Cx} {G : Gh} {W : WX} {pos : Pos}
def gIsM (a : Addr) (k : Nat) (b : Bool) : TX := fun τ Q _ => τ[k]? = some (some (.reg (excAt a))) ∧ Q (.bool b) (.fz true)
theorem ge_isM {a : Addr} {xs : List Str} (M : ModT X.K a xs) (k : Nat) {b : Bool} {y x : Str} {T : String} {p p1 p2 : Pos} (hk : KitTy T) (hbT : ("tuple" == T || ("tuple" == "bool" && T == "int")) = b) (hm : X.mg "isinstance" = none) (hmT : X.mg x = none) (hvT : bootBuiltins x = some (.type T)) (hN : X.N[k]? = some y := by rfl) (hv : Vis X.env.scope y := by first | exact Or.inl rfl | exact Or.inr (Or.inl rfl) | exact Or.inr (Or.inr rfl)) (hg : Gl X "isinstance" := by rfl) (hgT : Gl X x := by rfl) (hnT : x ≠ "__name__" := by decide) (hdT : (x == ("__debug__" : Str)) = false := by decide) (hd : (y == ("__debug__" : Str)) = false := by decide) (hcd : (y == ("__classdict__" : Str)) = false := by decide)
    (he : starEach [.Name y p1, .Name x p2] X.env = (false, eval (.Name y p1) X.env) :: starEach [.Name x p2] X.env := by rfl) (he2 : starEach [.Name x p2] X.env = (false, eval (.Name x p2) X.env) :: starEach [] X.env := by rfl)
    (hpl : (backTo pos (starEach [.Name x p2] X.env)).any (·.1) = false := by rfl) : GE X G W (.Call (.Name "isinstance" p) [.Name y p1, .Name x p2] [] pos) (gIsM a k b) := by
  refine ⟨_, pe_callB call_isi hg hm (by decide +kernel) (pa_cons (pe_var hN hv hd hcd) (pa_cons (pe_bltn (v := .ty T) hgT hmT hvT rfl hnT hdT) pa_nil he2) he) (by decide) (by decide) he hpl, fun σ H τ ow Q wq Kt S h kt w => ?_⟩
  obtain ⟨e, q⟩ := h
  obtain ⟨v, e1, r⟩ := S.sl k _ e
  obtain ⟨A, _, hφ, _⟩ := r
  have hφ : v = .ref a := hφ
  subst hφ
  obtain ⟨o, eo, ec⟩ := M.ty
  exact ⟨.ref a, e1, .ref a, .ty T, .type "tuple", .type T, b, rfl, .ty T, .kTuple eo ec, by rw [hk _ "tuple" (by simp), hbT], kt _ _ _ _ Grow.refl (RV.sc fun _ => .bl _) q⟩
def gLenM (a : Addr) (k : Nat) (m : Nat) : TX := fun τ Q _ => τ[k]? = some (some (.reg (excAt a))) ∧ Q (.int m) (.fz true)
theorem ge_lenM {a : Addr} {xs : List Str} (M : ModT X.K a xs) (k : Nat) {m : Nat} {y : Str} {p p1 : Pos} (hl : xs.length = m) (hm : X.mg "len" = none) (hN : X.N[k]? = some y := by rfl) (hv : Vis X.env.scope y := by first | exact Or.inl rfl | exact Or.inr (Or.inl rfl) | exact Or.inr (Or.inr rfl)) (hg : Gl X "len" := by rfl) (hd : (y == ("__debug__" : Str)) = false := by decide) (hcd : (y == ("__classdict__" : Str)) = false := by decide)
    (he : starEach [.Name y p1] X.env = (false, eval (.Name y p1) X.env) :: starEach [] X.env := by rfl) : GE X G W (.Call (.Name "len" p) [.Name y p1] [] pos) (gLenM a k m) := by
  refine ⟨_, pe_callB call_lenA hg hm PySem.boot_len (pa_cons (pe_var hN hv hd hcd) pa_nil he) (by decide) (by decide) he, fun σ H τ ow Q wq Kt S h kt w => ?_⟩
  obtain ⟨e, q⟩ := h
  obtain ⟨v, e1, r⟩ := S.sl k _ e
  obtain ⟨A, _, hφ, _⟩ := r
  have hφ : v = .ref a := hφ
  subst hφ
  exact ⟨.ref a, e1, .inl ⟨a, xs.map V.str, rfl, .inr (M.sq _), by rw [List.length_map, hl]; exact kt _ _ _ _ Grow.refl (RV.sc fun _ => .int _) q⟩⟩
def gIxM (a : Addr) (k : Nat) (xs : List Str) (ti : TX) : TX := fun τ Q wq => τ[k]? = some (some (.reg (excAt a))) ∧ ti τ (fun d _ => ∃ (i : Int) (s : Str), d = .int i ∧ 0 ≤ i ∧ xs[i.toNat]? = some s ∧ Q (.str s) (.fz true)) wq
theorem ge_ixM {a : Addr} {xs : List Str} (M : ModT X.K a xs) (k : Nat) {y : Str} {p1 : Pos} {ei : Expr} {ti : TX} (hi : GE X G W ei ti) (hN : X.N[k]? = some y := by rfl) (hv : Vis X.env.scope y := by first | exact Or.inl rfl | exact Or.inr (Or.inl rfl) | exact Or.inr (Or.inr rfl)) (hd : (y == ("__debug__" : Str)) = false := by decide) (hcd : (y == ("__classdict__" : Str)) = false := by decide) (hs : PlainIx ei := by exact fun _ _ => rfl) :
    GE X G W (.Subscript (.Name y p1) ei pos) (gIxM a k xs ti) := by
  obtain ⟨te, p, f⟩ := hi.ex
  refine ⟨_, pe_ix ix_seq (pe_var hN hv hd hcd) p hs, fun σ H τ ow Q wq Kt S h kt w => ?_⟩
  obtain ⟨e, q⟩ := h
  obtain ⟨v, e1, r⟩ := S.sl k _ e
  obtain ⟨A, _, hφ, _⟩ := r
  have hφ : v = .ref a := hφ
  subst hφ
  refine ⟨.ref a, e1, f σ H τ ow _ wq _ S q (fun v2 H1 d kd g1 r1 q1 => ?_) w⟩
  obtain ⟨i, s, rfl, i0, hs2, q2⟩ := q1
  have hl : i.toNat < xs.length := (List.getElem?_eq_some_iff.mp hs2).1
  refine .inr (.inl ⟨a, xs.map V.str, i, .str s, rfl, r1.int, M.sq _, ?_, kt _ _ _ _ g1 (RV.sc fun _ => .str _) q2⟩)
  unfold L2.atI ixN
  rw [if_pos i0, if_pos (by rw [List.length_map]; omega)]
  show (xs.map V.str)[i.toNat]? = _
  rw [List.getElem?_map, hs2]
  rfl
end
/-! ### a def that is handed one -/
def spM (K : PySem.W.Frag) (a : Addr) (n : Nat) (S : FSp) : Sp := fun vs H Q E => ∃ us, vs = V.ref a :: us ∧ spT K false n S us H Q E
structure PrM (P : Program) (w : World) (K : PySem.W.Frag) (mg : Str → Option Value) (base : Heap) (k : Nat) (x : Str) (a : Addr) (n : Nat) (S : FSp) : Prop where
  ex : ∃ (f : Addr) (fd : FuncData) (ps : List Str), FnOk P w K mg base (L2.CX P w) k f fd ps (spM K a n S) ∧ mg x = some (.ref f) ∧ PySem.W.keepIn K (.ref f) = true ∧ Binds K fd ps []
section
variable {X : Cx} {G : Gh} {W : WX} {pos : Pos}
theorem ge_callM {e : Expr} {es : List Expr} {x z : Str} {p pz : Pos} {k n : Nat} {a : Addr} {S : FSp} {t : TXs} (F : PrM X.prog X.w X.K X.mg X.base k x a n S) (hr : Room k X.A) (tk : Takes X W) (hz : X.mg z = some (.ref a)) (ha : GA X G W (e :: es) t) (hn : (e :: es).length = n := by rfl) (hg : Gl X x := by rfl) (hgz : Gl X z := by rfl) (hdb : (x == ("__debug__" : Str)) = false := by decide) (hdz : (z == ("__debug__" : Str)) = false := by decide)
    (he : starEach (.Name z pz :: e :: es) X.env = (false, eval (.Name z pz) X.env) :: starEach (e :: es) X.env := by rfl) (hpl : (backTo pos (starEach (e :: es) X.env)).any (·.1) = false := by rfl) : GE X G W (.Call (.Name x p) (.Name z pz :: e :: es) [] pos) (gFn S t) := by
  obtain ⟨f, fd, ps, h1, h2, h3, h4⟩ := F.ex
  obtain ⟨te, p1, f1⟩ := ha.ex
  refine ⟨_, pe_callS h1 hr hg h2 h3 h4 (fun σ => passAt tk σ) (pa_cons (pe_glob (v := .ref a) hgz hz rfl hdz) p1 he) hdb he hpl, fun σ H τ ow Q wq Kt Sm h k w => f1 σ H τ ow _ wq _ Sm h (fun vs H1 ds g1 r1 l1 q1 => ?_) w⟩
  have up : ∀ {H' : Hp}, Grow X.K (gh0 H1 none 0) H1 H' → Grow X.K G H1 H' := fun g => Grow.ofSame fun a o e => g.keep a o e (fun z => by cases z)
  refine ⟨vs, rfl, none, 0, vs, ds.map (·.1), rfl, rfl, by rw [r1.length, l1, hn], fun p e => (by cases e), r1.any Sm fun a _ z => (by cases z), _, wq, q1, fun v H' d g r q => ?_, fun nm H' g q => ?_⟩
  · exact k v H' d _ (g1.trans (up g)) (RR.rv Sm g1 r) q
  · exact w nm H' (g1.trans (up g)) q
end
section
variable {P : Program} {w : World} {K : PySem.W.Frag} {mg : Str → Option Value} {base : Heap}
theorem PrM.of {x : Str} {params : Arguments} {body : List Stmt} {scope : Scope} {f : Addr} {fd : FuncData} {N : List Str} (ps : List Str) {k n : Nat} {a : Addr} {S : FSp} {t : TSt} (F : FunD K x x params body scope [] [] f fd) (hm : mg x = some (.ref f)) (Sc : FnScope N ps scope)
    (hb : ∀ (kV doc pm : Value) (an : Option Addr) (cdv ct : Value) (us : List Value), us.length = ps.length → bindArgs (PySem.W.fnOf x x params body scope .none kV doc pm an cdv ct) ⟨us, []⟩ = pure (ps.zip us))
    (hn : ps.length = n + 1)
    (hbody : ∀ (cd : Value) (A : Around) (outer : List Env) (s : Shared) (H : Hp) (E : XK) (pq : Addr), Room k (A.deeper (envOfC x scope s.heap.objs.size f cd)) → GSs (cxD P w K mg base N x scope f cd A outer s H E) ⟨H, none, 0, pq, fun a => none ≠ some a, RR K H⟩ (WD E) body t)
    (read : ∀ ds Qt Et, ds.length = n → S ds Qt Et → t { nx := fun _ => Qt .none, rt := fun d _ => Qt d } (fun nm _ => Et nm) ((ent false N.length (.none :: ds)).set 0 (some (.reg (excAt a))))) : PrM P w K mg base (k + 1) x a n S := by
  refine ⟨f, fd, ps, F.ok Sc (fun vs H Q E h => ?_) fun cd A outer s H vs Q E hr h => ?_, hm, F.kp, F.bindsN hb⟩
  · obtain ⟨us, rfl, h⟩ := h
    rw [List.length_cons, h.len, hn]
    simp
  · obtain ⟨us, rfl, po, pq, us', ds, ev, ep, el, hP, hd, Qt, Et, hS, hQ, hE⟩ := h
    obtain rfl : po = none := by cases po with | none => rfl | some _ => cases ep
    have ev : us = us' := ev
    subst ev
    obtain ⟨ts, p1, f1⟩ := (hbody cd A outer s H E pq hr).ex
    refine ⟨ts, p1, ?_⟩
    have hl : (V.non :: us).length + (if (none : Option Addr).isSome then 1 else 0) ≤ N.length := by
      have h1 := congrArg List.length Sc.pre
      rw [List.length_take] at h1
      simp
      omega
    have S0 := sim_ent (pq := pq) (N := N) (P := fun a => none ≠ some a) (R := RR K H) hl hP (fun _ h => h) (DPs.cons (v := .non) (d := .none) .non hd)
    have S1 := S0.setEx (k := 0) (a := a) (.inl rfl)
    have e : (L2.start N (addP none (V.non :: us))).set 0 (some (.ref a)) = L2.start N (V.ref a :: us) := rfl
    rw [e] at S1
    have rd := read ds Qt Et (by rw [← hd.length, el]) hS
    have up : ∀ {H' : Hp}, FinG K ⟨H, none, 0, pq, fun a => none ≠ some a, RR K H⟩ H' → Grow K (gh0 H none pq) H H' := fun g => ⟨fun a o e n => g.keep a o e n, fun p e _ => g.pool p e⟩
    exact f1 _ H _ (ow0 none) _ _ _ S1 rd ⟨fun τ' ow' σ' H' S' g' q => hQ .non H' .none (up S'.fin) (show DP K H' _ _ _ from .non) q, fun τ' ow' σ' H' S' g' q => q, fun τ' ow' σ' H' S' g' q => q, fun v τ' ow' σ' H' d S' r q => hQ v H' d (up S'.fin) r q, fun nm τ' ow' σ' H' S' g' q => hE nm H' (up S'.fin) q⟩
end
end TL

set_option maxHeartbeats 2000000
namespace LS.QK
open PySem PySem.Spec PyProof.Rows L2 TL LW
local macro_rules | `(tactic| simp_all only [$xs:simpLemma,*]) => `(tactic| (try simp only [$xs,*, sSeq, sNext, sIf, sRet, sRetN, sSet, sApp, sSetL, sFor, sDrop, sRaise, sTry, sPut, sNewK, sNewT, sBreak, sCont, sUnp, gT, gTru, fTru, gNot, gAndB, gOrB, gAndV, gOrV, gNotV, gIf, gCh, TL.gTup, TL.gLst, gSl, gNoP, gP, gCall, gIsi, fIsi, tyD, gFn, gDIn, gDGet, gSortT, TL.gCons, TL.gNil, gBin, gUn, fNeg, gC, gV, rdSl, asB, asI, fAdd, fMul, fI0, fI2, fLt, fMin2, fMax2, fLen, fTuple, fList, fInt, fSorted, fIx_l, fIx_t, isOw_fz, isOw_nw, isOw_res, ex_own, ex_dK, ex_dT, String.reduceBEq, Bool.or_false, Bool.or_self, Bool.and_false, Bool.false_and, Bool.true_or, Bool.or_true, Bool.false_or, fIsN, iSeq, itD, iRg, fRg1, fRg2, tN, tTupG, tsCons, tsNil, gYes, setSl, appSl, setAt, putSl, getSl, retOk_res, retOk_int, retOk_bool, retOk_str, retOk_non, retOk_nw, retOk_ow, retOk_tupT, retOk_tup, kb_fz, kb_nw, kb_ow, kb_res, no_fz, no_nw, no_res, res_int, res_bool, res_str, res_non, res_tup, res_lst, frOk, TL.allB, ent, frzA, List.map_cons, List.map_nil, List.getElem?_cons_zero, List.getElem?_cons_succ, List.set_cons_zero, List.set_cons_succ, decide_eq_true_eq, Bool.and_true, Bool.true_and, Bool.and_self, true_and, and_true, List.cons_append, List.nil_append, List.append_nil, List.length_cons, List.length_nil, Bool.false_eq_true, Bool.not_true, Bool.not_false, reduceIte, true_or, or_true, false_or, or_false, false_and, and_false, List.replicate_succ, List.replicate_zero, reduceCtorEq, ne_eq, not_false_eq_true, implies_true, Bool.not_eq_true', decide_eq_false_iff_not, decide_true, decide_false, Nat.reduceAdd, Nat.reduceSub, Nat.reduceLT, Nat.reduceLeDiff, gLc, gLc2, wipeT, im, fMM, fLR, gIndex, sAppPop, sSetPop, sSetPop0, sMB, gMB, sSetMB, sLcPop, Bool.false_bne, Bool.false_xor, Bool.true_xor, fEq_ii, fEq_bb, fEq_ss, fEq_ll, fEq_tt, fNe_ii, fNe_bb, fNe_ss, fNe_ll, fNe_tt, fIn_l, fIn_t, fSl_l, fSl_t, cut1, fSrt, fMinD, gNotT, frOk_fz, allB_fzt, fst_fz, len_fz, sFrz, frzT, sExt, extSl, sRem, remSl, sAugI, sAug, gStar, starD, gTupS, gLstS, iEn, iEn2, itE, sDc, dcL, gDead, sTryAs, gIsE, sIns, insSl, sRev, sPopX, iRg3, fRg3, iZp, zipD, sNew1, gSortK, gCh3, toKey, getSl, iDs, im_pD, im_tI, im.imAll, im_pairs, imAll_ints, atQ0, atQ1, atQ2, atQ3, gD, popSl, sAppPop, sRetO, gFnO]))
/-! ### the kinds; what is a question -/
def plainQ : List Str := [("connected" : Str), ("bipartite" : Str), ("forest" : Str), ("block" : Str), ("chordal" : Str), ("interval" : Str), ("cograph" : Str), ("comparability" : Str), ("permutation" : Str), ("prime" : Str), ("planar" : Str), ("outerplanar" : Str)]
def numQ : List Str := [("degenerate" : Str), ("indegree" : Str), ("forests" : Str), ("trees" : Str), ("width" : Str), ("colours" : Str), ("independent" : Str), ("matching" : Str)]
def kindQ : List Str := plainQ ++ numQ ++ [("linked" : Str), ("isomorphic" : Str)]
def IsQ (n : Int) (v : D) : Prop :=
  (∃ s, v = .tuple [.str s] ∧ s ∈ plainQ) ∨ (∃ s k, v = .tuple [.str s, .int k] ∧ s ∈ numQ ∧ 0 ≤ k) ∨ (∃ g, v = .tuple [.str "isomorphic", g] ∧ GrV g) ∨
    (∃ s t k : Int, v = .tuple [.str "linked", .int s, .int t, .int k] ∧ 0 ≤ s ∧ s < n ∧ 0 ≤ t ∧ t < n ∧ s ≠ t ∧ 0 ≤ k)
def S__law_sameM : FSp := fun ds Q _ => ds = [.tuple (kindQ.map PyData.str)] ∧ Q (.bool true)
def S__law_kinds : FSp := fun ds Q _ => ds = [] ∧ Q (.list (kindQ.map PyData.str))
def S_is_number : FSp := fun ds Q _ => ∃ v : D, ds = [v] ∧ ∀ b : Bool, (b = true ↔ ∃ i, v = .int i ∧ 0 ≤ i) → Q (.bool b)
def S_is_vertex : FSp := fun ds Q _ => ∃ (n : Int) (es v : D), ds = [.tuple [.int n, es], v] ∧ ∀ b : Bool, (b = true ↔ ∃ i, v = .int i ∧ 0 ≤ i ∧ i < n) → Q (.bool b)
def S_is_question : FSp := fun ds Q _ => ∃ (n : Int) (es v : D) (m d : Nat), ds = [.tuple [.int n, es], v] ∧ Sv m d v ∧ m ≤ 1000 ∧ ∀ b : Bool, (b = true ↔ IsQ n v) → Q (.bool b)
def S__law_due : FSp := S_is_question
def S__law_is_graph : FSp := S_is_graph
def strsM : List Str := [("connected" : Str), ("bipartite" : Str), ("forest" : Str), ("block" : Str), ("chordal" : Str), ("interval" : Str), ("cograph" : Str), ("comparability" : Str), ("permutation" : Str), ("prime" : Str), ("planar" : Str), ("outerplanar" : Str), ("degenerate" : Str), ("indegree" : Str), ("forests" : Str), ("trees" : Str), ("width" : Str), ("colours" : Str), ("independent" : Str), ("matching" : Str), ("linked" : Str), ("isomorphic" : Str)]
def gM__law_same_1 (a0 : Addr) : TGt := tN 2
def wM__law_same_1 (a0 : Addr) : TSt := sIf (gNot (gTru (gFn (S__law_same 8) (gCons (gIxM a0 0 strsM (gV 2)) (gCons (gBin fIx (gV 1) (gV 2)) (gNil)))))) (sRet (gC (.bool false))) (sNext)
def tM__law_same (a0 : Addr) : TSt := sSeq (sIf (gOrB (gTru (gIsi "tuple" (gV 1))) (gTru (gIsi "list" (gV 1)))) (sSeq (sIf (gOrB (gT (gBin fNe (gIsi "tuple" (gV 1)) (gIsM a0 0 true))) (gT (gBin fNe (gIsi "list" (gV 1)) (gIsM a0 0 false)))) (sRet (gC (.bool false))) (sNext)) (sSeq (sIf (gT (gBin fNe (gLenM a0 0 22) (gCall fLen (gCons (gV 1) (gNil))))) (sRet (gC (.bool false))) (sNext)) (sSeq (sFor (iRg (gCons (gCall fLen (gCons (gV 1) (gNil))) (gNil))) (gM__law_same_1 a0) (wM__law_same_1 a0)) (sRet (gC (.bool true)))))) (sNext)) (sSeq (sIf (gT (gBin (fIsN false) (gV 1) (gC .none))) (sRet (gBin (fIsN false) (gDead) (gC .none))) (sNext)) (sSeq (sIf (gTru (gIsi "bool" (gV 1))) (sRet (gAndV (gIsM a0 0 false) (gBin fEq (gDead) (gV 1)))) (sNext)) (sSeq (sIf (gTru (gIsi "int" (gV 1))) (sRet (gAndV (gIsM a0 0 false) (gAndV (gNotV (gIsM a0 0 false)) (gBin fEq (gDead) (gV 1))))) (sNext)) (sRet (gAndV (gIsM a0 0 false) (gBin fEq (gDead) (gV 1)))))))
/- _law_kinds: 0 _law_found -/
def t__law_kinds : TSt := sSeq (sSet 0 (gLst (gCons (gC (.str "connected")) (gCons (gC (.str "bipartite")) (gCons (gC (.str "forest")) (gCons (gC (.str "block")) (gCons (gC (.str "chordal")) (gCons (gC (.str "interval")) (gCons (gC (.str "cograph")) (gCons (gC (.str "comparability")) (gCons (gC (.str "permutation")) (gNil)))))))))))) (sSeq (sSet 0 (gBin fAdd (gV 0) (gLst (gCons (gC (.str "prime")) (gCons (gC (.str "planar")) (gCons (gC (.str "outerplanar")) (gCons (gC (.str "degenerate")) (gCons (gC (.str "indegree")) (gCons (gC (.str "forests")) (gCons (gC (.str "trees")) (gCons (gC (.str "width")) (gCons (gC (.str "colours")) (gNil))))))))))))) (sRet (gBin fAdd (gV 0) (gLst (gCons (gC (.str "independent")) (gCons (gC (.str "matching")) (gCons (gC (.str "linked")) (gCons (gC (.str "isomorphic")) (gNil)))))))))
/- _law_due: 0 _law_graph_here, 1 _law_value, 2 _law_item -/
def g__law_due_1 : TGt := tN 2
def e__law_due_1 : TX := gV 2
def c__law_due_1 : TXb := gNot (gTru (gFn S__law_is_int (gCons (gV 2) (gNil))))
def t__law_due : TSt := sSeq (sIf (gOrB (gNot (gTru (gIsi "tuple" (gV 1)))) (gOrB (gT (gBin fEqS (gV 1) (gTup (gNil)))) (gNot (gTru (gIsi "str" (gBin fIx (gV 1) (gC (.int 0)))))))) (sRet (gC (.bool false))) (sNext)) (sSeq (sIf (gT (gBin (fIn false) (gBin fIx (gV 1) (gC (.int 0))) (gSl (gFn S__law_kinds (gNil)) gNoP (gP (gC (.int 12)))))) (sRet (gBin fEqS (gCall fLen (gCons (gV 1) (gNil))) (gC (.int 1)))) (sNext)) (sSeq (sIf (gT (gBin (fIn false) (gBin fIx (gV 1) (gC (.int 0))) (gSl (gFn S__law_kinds (gNil)) (gP (gC (.int 12))) (gP (gC (.int 20)))))) (sRet (gAndV (gBin fEqS (gCall fLen (gCons (gV 1) (gNil))) (gC (.int 2))) (gAndV (gFn S__law_is_int (gCons (gBin fIx (gV 1) (gC (.int 1))) (gNil))) (gBin fGe (gBin fIx (gV 1) (gC (.int 1))) (gC (.int 0)))))) (sNext)) (sSeq (sIf (gT (gBin fEq (gBin fIx (gV 1) (gC (.int 0))) (gC (.str "isomorphic")))) (sRet (gAndV (gBin fEqS (gCall fLen (gCons (gV 1) (gNil))) (gC (.int 2))) (gFn S__law_is_graph (gCons (gBin fIx (gV 1) (gC (.int 1))) (gNil))))) (sNext)) (sSeq (sIf (gOrB (gT (gBin fNe (gBin fIx (gV 1) (gC (.int 0))) (gC (.str "linked")))) (gOrB (gT (gBin fNe (gCall fLen (gCons (gV 1) (gNil))) (gC (.int 4)))) (gT (gBin fGt (gCall fLen (gCons (gLc (iSeq (gSl (gV 1) (gP (gC (.int 1))) gNoP)) g__law_due_1 c__law_due_1 e__law_due_1 [2]) (gNil))) (gC (.int 0)))))) (sRet (gC (.bool false))) (sNext)) (sRet (gAndV (gCh fLe fLt (gC (.int 0)) (gBin fIx (gV 1) (gC (.int 1))) (gBin fIx (gV 0) (gC (.int 0)))) (gAndV (gCh fLe fLt (gC (.int 0)) (gBin fIx (gV 1) (gC (.int 2))) (gBin fIx (gV 0) (gC (.int 0)))) (gAndV (gBin fNe (gBin fIx (gV 1) (gC (.int 1))) (gBin fIx (gV 1) (gC (.int 2)))) (gBin fGe (gBin fIx (gV 1) (gC (.int 3))) (gC (.int 0)))))))))))
/- is_question: 0 graph, 1 value, 2 kind, 3 _, 4 s, 5 t, 6 k -/
def t_is_question : TSt := sSeq (sIf (gOrB (gNot (gTru (gIsi "tuple" (gV 1)))) (gOrB (gT (gBin fEq (gCall fLen (gCons (gV 1) (gNil))) (gC (.int 0)))) (gNot (gTru (gIsi "str" (gBin fIx (gV 1) (gC (.int 0)))))))) (sRet (gC (.bool false))) (sNext)) (sSeq (sSet 2 (gBin fIx (gV 1) (gC (.int 0)))) (sSeq (sIf (gTru (gInK false (gV 2) [("connected" : Str), ("bipartite" : Str), ("forest" : Str), ("block" : Str), ("chordal" : Str), ("interval" : Str), ("cograph" : Str), ("comparability" : Str), ("permutation" : Str), ("prime" : Str), ("planar" : Str), ("outerplanar" : Str)])) (sRet (gBin fEq (gCall fLen (gCons (gV 1) (gNil))) (gC (.int 1)))) (sNext)) (sSeq (sIf (gTru (gInK false (gV 2) [("degenerate" : Str), ("indegree" : Str), ("forests" : Str), ("trees" : Str), ("width" : Str), ("colours" : Str), ("independent" : Str), ("matching" : Str)])) (sRet (gAndV (gBin fEq (gCall fLen (gCons (gV 1) (gNil))) (gC (.int 2))) (gFn S_is_number (gCons (gBin fIx (gV 1) (gC (.int 1))) (gNil))))) (sNext)) (sSeq (sIf (gT (gBin fEq (gV 2) (gC (.str "isomorphic")))) (sRet (gAndV (gBin fEq (gCall fLen (gCons (gV 1) (gNil))) (gC (.int 2))) (gFn S_is_graph (gCons (gBin fIx (gV 1) (gC (.int 1))) (gNil))))) (sNext)) (sSeq (sIf (gOrB (gT (gBin fNe (gV 2) (gC (.str "linked")))) (gT (gBin fNe (gCall fLen (gCons (gV 1) (gNil))) (gC (.int 4))))) (sRet (gC (.bool false))) (sNext)) (sSeq (sUnp (gV 1) (tTupG 4 (tsCons (tN 3) (tsCons (tN 4) (tsCons (tN 5) (tsCons (tN 6) (tsNil))))))) (sRet (gAndV (gFn S_is_vertex (gCons (gV 0) (gCons (gV 4) (gNil)))) (gAndV (gFn S_is_vertex (gCons (gV 0) (gCons (gV 5) (gNil)))) (gAndV (gBin fNe (gV 4) (gV 5)) (gFn S_is_number (gCons (gV 6) (gNil)))))))))))))
/- _law_is_graph: 0 _law_value, 1 _law_pair -/
def g__law_is_graph_1 : TGt := tN 1
def w__law_is_graph_1 : TSt := sSeq (sIf (gOrB (gNot (gTru (gIsi "tuple" (gV 1)))) (gOrB (gT (gBin fNe (gCall fLen (gCons (gV 1) (gNil))) (gC (.int 2)))) (gOrB (gNot (gTru (gFn S__law_is_int (gCons (gBin fIx (gV 1) (gC (.int 0))) (gNil))))) (gNot (gTru (gFn S__law_is_int (gCons (gBin fIx (gV 1) (gC (.int 1))) (gNil)))))))) (sRet (gC (.bool false))) (sNext)) (sIf (gNot (gT (gCh3 fLe fLt fLt (gC (.int 0)) (gBin fIx (gV 1) (gC (.int 0))) (gBin fIx (gV 1) (gC (.int 1))) (gBin fIx (gV 0) (gC (.int 0)))))) (sRet (gC (.bool false))) (sNext))
def t__law_is_graph : TSt := sSeq (sIf (gOrB (gNot (gTru (gIsi "tuple" (gV 0)))) (gOrB (gT (gBin fNe (gCall fLen (gCons (gV 0) (gNil))) (gC (.int 2)))) (gOrB (gNot (gTru (gFn S__law_is_int (gCons (gBin fIx (gV 0) (gC (.int 0))) (gNil))))) (gNot (gTru (gIsi "tuple" (gBin fIx (gV 0) (gC (.int 1))))))))) (sRet (gC (.bool false))) (sNext)) (sSeq (sFor (iSeq (gBin fIx (gV 0) (gC (.int 1)))) g__law_is_graph_1 w__law_is_graph_1) (sRet (gAndV (gCh fLe fLe (gC (.int 1)) (gBin fIx (gV 0) (gC (.int 0))) (gC (.int 60))) (gBin fEq (gCall fList (gCons (gBin fIx (gV 0) (gC (.int 1))) (gNil))) (gFn S__law_distinct (gCons (gCall fList (gCons (gBin fIx (gV 0) (gC (.int 1))) (gNil))) (gNil)))))))
/- is_number: 0 value -/
def t_is_number : TSt := sRet (gAndV (gFn S_is_integer (gCons (gV 0) (gNil))) (gBin fGe (gV 0) (gC (.int 0))))
/- is_vertex: 0 graph, 1 value -/
def t_is_vertex : TSt := sRet (gAndV (gFn S_is_number (gCons (gV 1) (gNil))) (gBin fLt (gV 1) (gBin fIx (gV 0) (gC (.int 0)))))
theorem str_any (s : Str) : ∀ xs : List Str, ((xs.map PyData.str).any fun z => PyData.eqv z (.str s)) = decide (s ∈ xs)
  | [] => rfl
  | x :: xs => by
    rw [List.map_cons, List.any_cons, str_any s xs]
    by_cases e : x = s
    · subst e; simp [PyData.eqv]
    · have : PyData.eqv (.str x) (.str s) = false := by simp [PyData.eqv, e]
      rw [this]
      have : (s = x) = False := by simp; exact fun z => e z.symm
      simp [this]
theorem str_sh {s : Str} (h : PyData.strOk s = true) : SeqAt.shaped (.str s) = true := by simp [SeqAt.shaped, PyData.canLay0, PyData.depth, h]
theorem sh_plain : SeqAt.shaped (PyData.tuple (plainQ.map PyData.str)) = true := by decide +kernel
theorem sh_num : SeqAt.shaped (PyData.tuple (numQ.map PyData.str)) = true := by decide +kernel
theorem eqv_all2 {α : Type} {inj : α → D} {lt : α → α → Prop} (E : Emb inj lt) [DecidableEq α] : ∀ l m : List α, PyData.eqvAll (l.map inj) (m.map inj) = decide (l = m)
  | [], [] => by simp [PyData.eqvAll]
  | [], y :: m => by simp [PyData.eqvAll]
  | x :: l, [] => by simp [PyData.eqvAll]
  | x :: l, y :: m => by
    have e := E.eqb x y
    have r := eqv_all2 E l m
    simp only [List.map_cons, PyData.eqvAll, e, r, List.cons.injEq]
    by_cases h1 : x = y <;> by_cases h2 : l = m <;> simp [h1, h2]
theorem eqv_prs {l m : List (Int × Int)} : (PyData.list (l.map pD)).eqv (.list (m.map pD)) = decide (l = m) := by
  rw [PyData.eqv]
  exact eqv_all2 emb_pair l m
theorem r_is_number : ∀ (ds : List D) (Qt : D → Prop) (Et : WQ), ds.length = 1 → S_is_number ds Qt Et → t_is_number { nx := fun _ => Qt .none, rt := fun d _ => Qt d } (fun nm _ => Et nm) (ent false 1 ds) := by
  rintro ds Qt Et - ⟨v, rfl, h⟩
  simp_all only [t_is_number]
  refine ⟨v, rfl, ?_⟩
  cases v with
  | int i =>
    simp_all only [isI]
    exact h _ ⟨fun z => ⟨i, rfl, by simpa using z⟩, fun ⟨j, e, z⟩ => by cases e; simpa using z⟩
  | _ =>
    simp_all only [isI]
    exact h false ⟨fun z => (nomatch z), fun ⟨_, e, _⟩ => nomatch e⟩
theorem r_is_vertex : ∀ (ds : List D) (Qt : D → Prop) (Et : WQ), ds.length = 2 → S_is_vertex ds Qt Et → t_is_vertex { nx := fun _ => Qt .none, rt := fun d _ => Qt d } (fun nm _ => Et nm) (ent false 2 ds) := by
  rintro ds Qt Et - ⟨n, es, v, rfl, h⟩
  simp_all only [t_is_vertex]
  refine ⟨v, rfl, fun b hb => ?_⟩
  cases b with
  | false =>
    simp_all only [true_and]
    exact h false ⟨fun z => (nomatch z), fun ⟨i, e, a, _⟩ => hb.mpr ⟨i, e, a⟩⟩
  | true =>
    obtain ⟨i, rfl, i0⟩ := hb.mp rfl
    simp_all only [true_and]
    exact h _ ⟨fun z => ⟨i, rfl, i0, by simpa using z⟩, fun ⟨j, e, _, z⟩ => by cases e; simpa using z⟩
theorem r__law_kinds : ∀ (ds : List D) (Qt : D → Prop) (Et : WQ), ds.length = 0 → S__law_kinds ds Qt Et → t__law_kinds { nx := fun _ => Qt .none, rt := fun d _ => Qt d } (fun nm _ => Et nm) (ent false 1 ds) := by
  rintro ds Qt Et - ⟨rfl, h⟩
  simp_all only [t__law_kinds]
  exact ⟨sl_le (by decide), sl_le (by decide), h⟩
theorem rM__law_same : ∀ (a : Addr) (ds : List D) (Qt : D → Prop) (Et : WQ), ds.length = 1 → S__law_sameM ds Qt Et → tM__law_same a { nx := fun _ => Qt .none, rt := fun d _ => Qt d } (fun nm _ => Et nm) ((ent false 3 (.none :: ds)).set 0 (some (.reg (excAt a)))) := by
  rintro a ds Qt Et - ⟨rfl, h⟩
  show tM__law_same a _ _ [some (.reg (excAt a)), some (.fz (.tuple (kindQ.map PyData.str)) false), none]
  have hk : kindQ.length = 22 := rfl
  have hs : strsM = kindQ := rfl
  simp_all only [tM__law_same, gIsM, gLenM, tyD, List.length_map, hk]
  rw [if_neg (by simp), if_neg (by simp)]
  refine ⟨by decide, by decide, ?_⟩
  refine forL_inv (fun done τ => ∃ x2 : Option Sl, τ = [some (.reg (excAt a)), some (.fz (.tuple (kindQ.map PyData.str)) false), x2]) ⟨_, rfl⟩ ?_ ?_
  · rintro done k rest e _ ⟨x2, rfl⟩ F hF
    have hkr := mem_rg.mp (show k ∈ rg 0 ((22 : Nat) : Int) by rw [e]; simp)
    have hlt : k.toNat < kindQ.length := by rw [hk]; omega
    simp_all only [gM__law_same_1, wM__law_same_1, gIxM]
    refine ⟨k, kindQ[k.toNat], rfl, hkr.1, by rw [hs]; exact List.getElem?_eq_getElem hlt, ?_⟩
    refine atQ_map hkr.1 (by rw [hk]; omega) fun s2 h2 => ?_
    rw [List.getElem?_eq_getElem hlt] at h2
    cases h2
    simp_all only [true_and]
    refine ⟨_, rfl, rfl, ?_⟩
    simp_all only [true_and]
    exact hF _ ⟨_, rfl⟩
  · rintro τ ⟨x2, rfl⟩
    simp_all only [true_and]
    exact h
theorem r__law_is_graph : ∀ (ds : List D) (Qt : D → Prop) (Et : WQ), ds.length = 1 → S__law_is_graph ds Qt Et → t__law_is_graph { nx := fun _ => Qt .none, rt := fun d _ => Qt d } (fun nm _ => Et nm) (ent false 2 ds) := by
  rintro ds Qt Et - ⟨v, m, d, rfl, hv, hm, h⟩
  have no : (∀ n L, v = gD n L → Gr n L → 1 ≤ n → n ≤ 60 → False) → Qt (.bool false) := fun z => h false ⟨fun y => (nomatch y), fun ⟨n, L, e, g, a, b⟩ => (z n L e g a b).elim⟩
  cases v with
  | tuple xs =>
    obtain ⟨xl, c, rfl, hx⟩ := sv_items hv (.inl rfl)
    by_cases l2 : xs.length = 2
    · obtain ⟨a, e, rfl⟩ : ∃ a e, xs = [a, e] := by
        match xs, l2 with
        | [a, e], _ => exact ⟨a, e, rfl⟩
      have be := hx e (by simp)
      cases a with
      | int n =>
        cases e with
        | tuple es =>
          obtain ⟨el, c', rfl, hes⟩ := sv_items be (.inl rfl)
          simp_all only [t__law_is_graph, tyD]
          rw [if_neg (by decide)]
          refine ⟨_, rfl, ?_⟩
          simp_all only [isI]
          refine forL_D (fun done τ => ∃ x1, τ = [some (.fz (.tuple [.int n, .tuple es]) false), x1] ∧ ∀ d ∈ done, ∃ p : Int × Int, d = pD p ∧ 0 ≤ p.1 ∧ p.1 < p.2 ∧ p.2 < n) ⟨_, rfl, by simp⟩ ?_ ?_
          · rintro done x rest ee _ ⟨x1, rfl, hdn⟩ F hF
            have hx := hes x (by rw [ee]; simp)
            have bad : (∀ p : Int × Int, x = pD p → 0 ≤ p.1 → p.1 < p.2 → p.2 < n → False) → Qt (.bool false) := fun z => no fun n' L e g _ _ => by
              obtain ⟨rfl, e2⟩ := gD_inj e
              have : x ∈ L.map pD := by rw [← e2, ee]; simp
              obtain ⟨p, hp, rfl⟩ := List.mem_map.mp this
              have := g.2 p hp
              exact z p rfl this.1 this.2.1 this.2.2
            cases x with
            | tuple ys =>
              have yl := (sv_items hx (.inl rfl)).1
              by_cases l2 : ys.length = 2
              · obtain ⟨a, b, rfl⟩ : ∃ a b, ys = [a, b] := by
                  match ys, l2 with
                  | [a, b], _ => exact ⟨a, b, rfl⟩
                simp_all only [g__law_is_graph_1, w__law_is_graph_1, tyD]
                rw [if_neg (by decide)]
                refine ⟨a, rfl, ?_⟩
                cases a with
                | int i =>
                  simp_all only [isI]
                  refine ⟨b, rfl, ?_⟩
                  cases b with
                  | int j =>
                    simp_all only [isI]
                    have good : 0 ≤ i → i < j → j < n → ∀ d ∈ done ++ [PyData.tuple [.int i, .int j]], ∃ p : Int × Int, d = pD p ∧ 0 ≤ p.1 ∧ p.1 < p.2 ∧ p.2 < n := fun h1 h2 h3 d hd => by
                      rcases List.mem_append.mp hd with hd | hd
                      · exact hdn d hd
                      · exact ⟨(i, j), List.mem_singleton.mp hd, h1, h2, h3⟩
                    have ij : ∀ p : Int × Int, PyData.tuple [.int i, .int j] = pD p → i = p.1 ∧ j = p.2 := fun p e => by simpa [pD] using e
                    split
                    · split
                      · split
                        · exact bad fun p e a b c => by have := ij p e; omega
                        · exact hF _ ⟨_, rfl, good (by assumption) (by assumption) (by omega)⟩
                      · exact bad fun p e a b c => by have := ij p e; omega
                    · exact bad fun p e a b c => by have := ij p e; omega
                  | _ =>
                    simp_all only [isI]
                    exact bad fun p e _ _ _ => by simp [pD] at e
                | _ =>
                  simp_all only [isI]
                  exact bad fun p e _ _ _ => by simp [pD] at e
              · simp_all only [g__law_is_graph_1, w__law_is_graph_1, tyD]
                rw [if_pos (by omega)]
                exact bad fun p e _ _ _ => by
                  unfold pD at e; injection e with e; rw [e] at l2; exact l2 rfl
            | _ =>
              simp_all only [g__law_is_graph_1, w__law_is_graph_1, tyD]
              exact bad fun p e _ _ _ => by simp [pD] at e
          · rintro τ ⟨x1, rfl, hall⟩
            obtain ⟨L, rfl, hL⟩ := pairs_of hall
            rw [List.length_map] at el
            simp_all only [List.length_map]
            have hL' : ∀ p ∈ L, 0 ≤ p.1 ∧ p.1 < p.2 ∧ p.2 < n := hL
            split
            · split
              · refine ⟨Int × Int, pD, lt2, emb_pair, L, rfl, sok_pairs L, by omega, fun M ha hM => ?_⟩
                simp_all only [true_and]
                refine ⟨emb_pair.shL L, emb_pair.shL M, ?_⟩
                rw [eqv_prs]
                simp_all only [true_and]
                refine h _ ?_
                rw [decide_eq_true_eq]
                constructor
                · intro e
                  exact ⟨n, L, rfl, ⟨by rw [e]; exact ha, hL'⟩, by assumption, by assumption⟩
                · rintro ⟨n2, L2, e, g, _, _⟩
                  obtain ⟨rfl, e2⟩ := gD_inj e
                  have e3 := pDs_inj e2
                  subst e3
                  exact srt_uniq g.1 ha fun p => (hM p).symm
              · exact no fun n2 L2 e _ _ a => by have := (gD_inj e).1; omega
            · exact no fun n2 L2 e _ a _ => by have := (gD_inj e).1; omega
        | _ =>
          have bad : Qt (.bool false) := no fun n L e => by simp [gD] at e
          simp_all only [t__law_is_graph, tyD]
          rw [if_neg (by decide)]
          refine ⟨_, rfl, ?_⟩
          simp_all only [isI]
          repeat' split
          all_goals exact bad
      | _ =>
        simp_all only [t__law_is_graph, tyD]
        rw [if_neg (by decide)]
        refine ⟨_, rfl, ?_⟩
        simp_all only [isI]
        exact no fun n L e => by simp [gD] at e
    · simp_all only [t__law_is_graph, tyD]
      rw [if_pos (by omega)]
      exact no fun n L e _ _ _ => by unfold gD at e; injection e with e; rw [e] at l2; exact l2 rfl
  | _ =>
    simp_all only [t__law_is_graph, tyD]
    exact no fun n L e => by simp [gD] at e
theorem q_tup {n : Int} {v : D} (h : IsQ n v) : ∃ s r, v = .tuple (.str s :: r) := by
  rcases h with ⟨s, rfl, _⟩ | ⟨s, k, rfl, _⟩ | ⟨g, rfl, _⟩ | ⟨s, t, k, rfl, _⟩ <;> exact ⟨_, _, rfl⟩
theorem q_plain {n : Int} {s : Str} {r : List D} (h : s ∈ plainQ) : IsQ n (.tuple (.str s :: r)) ↔ r = [] := by
  constructor
  · rintro (⟨_, e, _⟩ | ⟨_, _, e, h2, _⟩ | ⟨_, e, _⟩ | ⟨_, _, _, e, _⟩) <;> simp only [PyData.tuple.injEq, List.cons.injEq, PyData.str.injEq] at e <;> obtain ⟨e1, e2⟩ := e
    · exact e2
    · subst e1
      have : ∀ x ∈ plainQ, x ∉ numQ := by decide +kernel
      exact (this _ h h2).elim
    · subst e1
      have : ("isomorphic" : Str) ∉ plainQ := by decide +kernel
      exact (this h).elim
    · subst e1
      have : ("linked" : Str) ∉ plainQ := by decide +kernel
      exact (this h).elim
  · rintro rfl
    exact .inl ⟨s, rfl, h⟩
theorem q_num {n : Int} {s : Str} {r : List D} (h : s ∈ numQ) : IsQ n (.tuple (.str s :: r)) ↔ ∃ k : Int, r = [.int k] ∧ 0 ≤ k := by
  constructor
  · rintro (⟨_, e, h2⟩ | ⟨_, k, e, h2, h3⟩ | ⟨_, e, _⟩ | ⟨_, _, _, e, _⟩) <;> simp only [PyData.tuple.injEq, List.cons.injEq, PyData.str.injEq] at e <;> obtain ⟨e1, e2⟩ := e
    · subst e1
      have : ∀ x ∈ plainQ, x ∉ numQ := by decide +kernel
      exact (this _ h2 h).elim
    · exact ⟨k, e2, h3⟩
    · subst e1
      have : ("isomorphic" : Str) ∉ numQ := by decide +kernel
      exact (this h).elim
    · subst e1
      have : ("linked" : Str) ∉ numQ := by decide +kernel
      exact (this h).elim
  · rintro ⟨k, rfl, h0⟩
    exact .inr (.inl ⟨s, k, rfl, h, h0⟩)
theorem q_iso {n : Int} {r : List D} : IsQ n (.tuple (.str "isomorphic" :: r)) ↔ ∃ g, r = [g] ∧ GrV g := by
  constructor
  · rintro (⟨_, e, h2⟩ | ⟨_, k, e, h2, h3⟩ | ⟨g, e, h2⟩ | ⟨_, _, _, e, _⟩) <;> simp only [PyData.tuple.injEq, List.cons.injEq, PyData.str.injEq] at e <;> obtain ⟨e1, e2⟩ := e
    · subst e1
      have : ("isomorphic" : Str) ∉ plainQ := by decide +kernel
      exact (this h2).elim
    · subst e1
      have : ("isomorphic" : Str) ∉ numQ := by decide +kernel
      exact (this h2).elim
    · exact ⟨g, e2, h2⟩
    · have : ¬ (("isomorphic" : Str) = "linked") := by decide +kernel
      exact (this e1).elim
  · rintro ⟨g, rfl, h⟩
    exact .inr (.inr (.inl ⟨g, rfl, h⟩))
theorem q_else {n : Int} {s : Str} {r : List D} (h1 : s ∉ plainQ) (h2 : s ∉ numQ) (h3 : s ≠ "isomorphic") : IsQ n (.tuple (.str s :: r)) ↔ s = "linked" ∧ ∃ a b k : Int, r = [.int a, .int b, .int k] ∧ 0 ≤ a ∧ a < n ∧ 0 ≤ b ∧ b < n ∧ a ≠ b ∧ 0 ≤ k := by
  constructor
  · rintro (⟨_, e, h⟩ | ⟨_, k, e, h, _⟩ | ⟨g, e, _⟩ | ⟨a, b, k, e, h⟩) <;> simp only [PyData.tuple.injEq, List.cons.injEq, PyData.str.injEq] at e <;> obtain ⟨e1, e2⟩ := e
    · subst e1; exact (h1 h).elim
    · subst e1; exact (h2 h).elim
    · exact (h3 e1).elim
    · exact ⟨e1, a, b, k, e2, h⟩
  · rintro ⟨rfl, a, b, k, rfl, h⟩
    exact .inr (.inr (.inr ⟨a, b, k, rfl, h⟩))
theorem sh_any {xs : List Str} {s : Str} (h : PyData.strOk s = true) (hx : SeqAt.shaped (PyData.tuple (xs.map PyData.str)) = true) {τ : Slots} {te : TX} {Q : QD} {wq : WQ} (ht : ∀ F : QD, (∀ kd, F (.str s) kd) → te τ F wq) (q : Q (.bool (decide (s ∈ xs))) (.fz true)) : gInK false te xs τ Q wq := ht _ fun kd => ⟨str_sh h, hx, by
  rw [str_any]; simpa using q⟩
theorem r_is_question : ∀ (ds : List D) (Qt : D → Prop) (Et : WQ), ds.length = 2 → S_is_question ds Qt Et → t_is_question { nx := fun _ => Qt .none, rt := fun d _ => Qt d } (fun nm _ => Et nm) (ent false 7 ds) := by
  rintro ds Qt Et - ⟨n, es, v, m, d, rfl, hv, hm, h⟩
  have no : (∀ s r, v ≠ .tuple (.str s :: r)) → Qt (.bool false) := fun z => h false ⟨fun y => (nomatch y), fun y => by
    obtain ⟨s, r, e⟩ := q_tup y
    exact (z s r e).elim⟩
  cases v with
  | tuple xs =>
    obtain ⟨xl, c, rfl, hx⟩ := sv_items hv (.inl rfl)
    cases xs with
    | nil =>
      simp_all only [t_is_question, tyD]
      exact no fun s r e => by cases e
    | cons x r =>
      have sx := hx x (by simp)
      cases x with
      | str s =>
        have so : PyData.strOk s = true := by
          cases c with
          | zero => exact sx
          | succ c =>
            rcases sx with z | ⟨ys, e | e, _⟩
            · exact z
            · cases e
            · cases e
        simp_all only [t_is_question, tyD, List.length_cons]
        rw [if_neg (by omega)]
        refine sh_any (xs := plainQ) so sh_plain (fun F hF => ?_) ?_
        · simp_all only [true_and]
          exact hF _
        by_cases p1 : s ∈ plainQ
        · rw [decide_eq_true p1]
          simp_all only [true_and]
          refine h _ ?_
          rw [q_plain p1, decide_eq_true_eq]
          constructor
          · intro z; exact List.length_eq_zero_iff.mp (by omega)
          · rintro rfl; rfl
        rw [decide_eq_false p1]
        simp_all only [true_and]
        refine sh_any (xs := numQ) so sh_num (fun F hF => ?_) ?_
        · simp_all only [true_and]
          exact hF _
        by_cases p2 : s ∈ numQ
        · rw [decide_eq_true p2]
          simp_all only [true_and]
          split
          · obtain ⟨y, rfl⟩ : ∃ y, r = [y] := by
              match r, (show r.length = 1 by omega) with
              | [y], _ => exact ⟨y, rfl⟩
            refine atQ_of (by decide) (d := y) rfl ?_
            simp_all only [true_and]
            refine ⟨y, rfl, fun b hb => ?_⟩
            simp_all only [true_and]
            refine h b (hb.trans ((q_num p2).trans ⟨fun ⟨k, e, k0⟩ => ⟨k, by simpa using e, k0⟩, fun ⟨k, e, k0⟩ => ⟨k, by rw [e], k0⟩⟩).symm)
          · rename_i l2
            exact h false ⟨fun z => (nomatch z), fun z => by
              obtain ⟨k, rfl, _⟩ := (q_num p2).mp z
              exact (l2 rfl).elim⟩
        rw [decide_eq_false p2]
        simp_all only [true_and]
        by_cases p3 : s = "isomorphic"
        · subst p3
          simp_all only [true_and]
          split
          · obtain ⟨y, rfl⟩ : ∃ y, r = [y] := by
              match r, (show r.length = 1 by omega) with
              | [y], _ => exact ⟨y, rfl⟩
            refine atQ_of (by decide) (d := y) rfl ?_
            simp_all only [true_and]
            refine ⟨y, m, c, rfl, hx y (by simp), by omega, fun b hb => ?_⟩
            simp_all only [true_and]
            refine h b (hb.trans (q_iso.trans ⟨fun ⟨g, e, k0⟩ => by cases e; exact k0, fun k0 => ⟨y, rfl, k0⟩⟩).symm)
          · rename_i l2
            exact h false ⟨fun z => (nomatch z), fun z => by
              obtain ⟨k, rfl, _⟩ := q_iso.mp z
              exact (l2 rfl).elim⟩
        · rw [if_neg p3]
          by_cases p4 : s = "linked"
          · subst p4
            have bad : (∀ a b k : Int, r = [.int a, .int b, .int k] → 0 ≤ a → a < n → 0 ≤ b → b < n → a ≠ b → 0 ≤ k → False) → Qt (.bool false) := fun z => h false ⟨fun y => (nomatch y), fun y => by
              obtain ⟨_, a, b, k, e, q1, q2, q3, q4, q5, q6⟩ := (q_else p1 p2 p3).mp y
              exact (z a b k e q1 q2 q3 q4 q5 q6).elim⟩
            by_cases l4 : r.length = 3
            · obtain ⟨a, b, k, rfl⟩ : ∃ a b k, r = [a, b, k] := by
                match r, l4 with
                | [a, b, k], _ => exact ⟨a, b, k, rfl⟩
              simp_all only [true_and]
              rw [if_neg (by simp)]
              refine ⟨n, es, a, rfl, fun b1 h1 => ?_⟩
              cases b1 with
              | false =>
                simp_all only [true_and]
                exact bad fun a' b' k' e q1 q2 _ _ _ _ => by
                  simp only [List.cons.injEq] at e
                  exact nomatch h1.mpr ⟨a', e.1, q1, q2⟩
              | true =>
                obtain ⟨a', rfl, a0, a1⟩ := h1.mp rfl
                simp_all only [true_and]
                refine ⟨n, es, b, rfl, fun b2 h2 => ?_⟩
                cases b2 with
                | false =>
                  simp_all only [true_and]
                  exact bad fun a'' b' k' e _ _ q3 q4 _ _ => by
                    simp only [List.cons.injEq] at e
                    exact nomatch h2.mpr ⟨b', e.2.1, q3, q4⟩
                | true =>
                  obtain ⟨b', rfl, b0, b1⟩ := h2.mp rfl
                  simp_all only [true_and]
                  split
                  · rename_i ne
                    refine ⟨k, rfl, fun b3 h3 => ?_⟩
                    simp_all only [true_and]
                    refine h b3 (h3.trans ⟨fun ⟨k', e, k0⟩ => ?_, fun z => ?_⟩)
                    · rw [e]
                      exact (q_else p1 p2 p3).mpr ⟨rfl, a', b', k', rfl, a0, a1, b0, b1, by simpa using ne, k0⟩
                    · obtain ⟨_, a2, b2, k2, e, _, _, _, _, _, k0⟩ := (q_else p1 p2 p3).mp z
                      simp only [List.cons.injEq, and_true] at e
                      exact ⟨k2, e.2.2, k0⟩
                  · rename_i ne
                    exact bad fun a2 b2 k2 e _ _ _ _ q5 _ => by
                      simp only [List.cons.injEq, PyData.int.injEq] at e
                      first | exact ne (by omega) | (simp at ne; omega) | omega
            · simp_all only [List.length_cons]
              rw [if_neg (by simp), if_pos (by omega)]
              exact bad fun a' b' k' e => by rw [e] at l4; exact (l4 rfl).elim
          · rw [if_pos p4]
            exact h false ⟨fun z => (nomatch z), fun z => (p4 ((q_else p1 p2 p3).mp z).1).elim⟩
      | _ =>
        simp_all only [t_is_question, tyD, List.length_cons]
        first
          | exact no fun s r e => by simp at e
          | (rw [if_neg (by omega)]; exact no fun s r e => by simp at e)
  | _ =>
    simp_all only [t_is_question, tyD]
    exact no fun s r e => by cases e
/-! ### the law's own reading -/
theorem lcF_D {tg : TGt} {tt : TXb} {te : TX} {τ : Slots} {Q : QD} {b : Bool} (p : D → Prop) [DecidablePred p] : ∀ (xs acc : List D) (fl : Bool),
    (∀ x ∈ xs, ∀ (Rn : Prop) (Ry : D → Kd → Prop), (¬ p x → Rn) → (p x → ∀ ky, notOw ky → Ry x ky) → tg x b τ fun τ1 => tt τ1 (fun ok => if ok = true then te τ1 Ry (fun _ => False) else Rn) (fun _ => False)) →
    (∀ f, Q (.list (acc ++ xs.filter fun x => decide (p x))) (.nw f)) → lcL tg tt te τ Q b xs acc fl
  | [], acc, fl, _, hQ => by have := hQ fl; rw [List.filter_nil, List.append_nil] at this; exact this
  | d :: ds, acc, fl, h, hQ => by
    have ih := fun (acc' : List D) (f : Bool) => lcF_D (Q := Q) p ds acc' f (fun x hx => h x (List.mem_cons_of_mem _ hx))
    refine h d List.mem_cons_self (lcL tg tt te τ Q b ds acc fl) (fun y ky => notOw ky ∧ lcL tg tt te τ Q b ds (acc ++ [y]) (fl && ky.b)) (fun hn => ih acc fl fun f => ?_) fun hp ky no => ⟨no, ih _ _ fun f => ?_⟩
    · have := hQ f
      rw [List.filter_cons_of_neg (by simpa using hn)] at this
      exact this
    · have := hQ f
      rw [List.filter_cons_of_pos (by simpa using hp)] at this
      rw [List.append_assoc]
      exact this
theorem k12 : TL.cutD (kindQ.map PyData.str) none (some 12) = plainQ.map PyData.str := rfl
theorem k20 : TL.cutD (kindQ.map PyData.str) (some 12) (some 20) = numQ.map PyData.str := rfl
theorem shl_plain : SeqAt.shaped (PyData.list (plainQ.map PyData.str)) = true := by decide +kernel
theorem shl_num : SeqAt.shaped (PyData.list (numQ.map PyData.str)) = true := by decide +kernel
theorem r__law_due : ∀ (ds : List D) (Qt : D → Prop) (Et : WQ), ds.length = 2 → S__law_due ds Qt Et → t__law_due { nx := fun _ => Qt .none, rt := fun d _ => Qt d } (fun nm _ => Et nm) (ent false 3 ds) := by
  rintro ds Qt Et - ⟨n, es, v, m, d, rfl, hv, hm, h⟩
  have no : (∀ s r, v ≠ .tuple (.str s :: r)) → Qt (.bool false) := fun z => h false ⟨fun y => (nomatch y), fun y => by
    obtain ⟨s, r, e⟩ := q_tup y
    exact (z s r e).elim⟩
  cases v with
  | tuple xs =>
    obtain ⟨xl, c, rfl, hx⟩ := sv_items hv (.inl rfl)
    cases xs with
    | nil =>
      simp_all only [t__law_due, tyD]
      exact no fun s r e => by cases e
    | cons x r =>
      have sx := hx x (by simp)
      cases x with
      | str s =>
        have so : PyData.strOk s = true := by
          cases c with
          | zero => exact sx
          | succ c =>
            rcases sx with z | ⟨ys, e | e, _⟩
            · exact z
            · cases e
            · cases e
        simp_all only [t__law_due, tyD, List.length_cons, fEqS_tt, fEqS_i]
        refine ⟨rfl, ?_⟩
        simp_all only [k12]
        refine ⟨str_sh so, shl_plain, ?_⟩
        rw [str_any]
        by_cases p1 : s ∈ plainQ
        · rw [decide_eq_true p1]
          simp_all only [fEqS_i]
          refine h _ ?_
          rw [q_plain p1, decide_eq_true_eq]
          constructor
          · intro z; exact List.length_eq_zero_iff.mp (by omega)
          · rintro rfl; rfl
        rw [decide_eq_false p1]
        simp_all only [true_and]
        refine ⟨rfl, ?_⟩
        simp_all only [k20]
        refine ⟨str_sh so, shl_num, ?_⟩
        rw [str_any]
        by_cases p2 : s ∈ numQ
        · rw [decide_eq_true p2]
          simp_all only [fEqS_i]
          split
          · obtain ⟨y, rfl⟩ : ∃ y, r = [y] := by
              match r, (show r.length = 1 by omega) with
              | [y], _ => exact ⟨y, rfl⟩
            refine atQ_of (by decide) (d := y) rfl ?_
            simp_all only [true_and]
            refine ⟨y, rfl, ?_⟩
            have bad : (∀ k : Int, y = .int k → False) → Qt (.bool false) := fun z => h false ⟨fun y => (nomatch y), fun w => by
              obtain ⟨k, e, _⟩ := (q_num p2).mp w
              simp only [List.cons.injEq, and_true] at e
              exact (z k e).elim⟩
            cases y with
            | int k =>
              simp_all only [isI]
              refine h _ ?_
              rw [q_num p2]
              constructor
              · intro z; exact ⟨k, rfl, by simpa using z⟩
              · rintro ⟨k2, e, k0⟩
                simp only [List.cons.injEq, PyData.int.injEq, and_true] at e
                subst e
                simpa using k0
            | _ =>
              simp_all only [isI]
              exact bad fun k e => by cases e
          · rename_i l2
            exact h false ⟨fun z => (nomatch z), fun z => by
              obtain ⟨k, rfl, _⟩ := (q_num p2).mp z
              exact (l2 rfl).elim⟩
        rw [decide_eq_false p2]
        simp_all only [true_and]
        by_cases p3 : s = "isomorphic"
        · subst p3
          simp_all only [true_and]
          split
          · obtain ⟨y, rfl⟩ : ∃ y, r = [y] := by
              match r, (show r.length = 1 by omega) with
              | [y], _ => exact ⟨y, rfl⟩
            refine atQ_of (by decide) (d := y) rfl ?_
            simp_all only [true_and]
            refine ⟨y, m, c, rfl, hx y (by simp), by omega, fun b hb => ?_⟩
            simp_all only [true_and]
            refine h b (hb.trans (q_iso.trans ⟨fun ⟨g, e, k0⟩ => by cases e; exact k0, fun k0 => ⟨y, rfl, k0⟩⟩).symm)
          · rename_i l2
            exact h false ⟨fun z => (nomatch z), fun z => by
              obtain ⟨k, rfl, _⟩ := q_iso.mp z
              exact (l2 rfl).elim⟩
        rw [if_neg p3]
        have bad : (∀ a b k : Int, s = "linked" → r = [.int a, .int b, .int k] → 0 ≤ a → a < n → 0 ≤ b → b < n → a ≠ b → 0 ≤ k → False) → Qt (.bool false) := fun z => h false ⟨fun y => (nomatch y), fun y => by
          obtain ⟨e0, a, b, k, e, q1, q2, q3, q4, q5, q6⟩ := (q_else p1 p2 p3).mp y
          exact (z a b k e0 e q1 q2 q3 q4 q5 q6).elim⟩
        by_cases p4 : s = "linked"
        · rw [if_neg (by simpa using p4)]
          by_cases l4 : r.length = 3
          · rw [if_neg (by omega)]
            refine ⟨sl_le (by omega), ?_⟩
            refine lcF_D (fun d : D => isI d = false) _ _ _ (fun d hd Rn Ry hn hy => ?_) fun fl => ?_
            · simp_all only [g__law_due_1, c__law_due_1, e__law_due_1]
              refine ⟨d, rfl, ?_⟩
              cases q : isI d with
              | true =>
                simp_all only [true_and]
                exact hn (by rw [q]; simp)
              | false =>
                simp_all only [true_and]
                exact hy q _ trivial
            simp_all only [List.nil_append]
            by_cases all : ∀ d ∈ r, isI d = true
            · have e0 : (r.filter fun d => decide (isI d = false)).length = 0 := by
                rw [List.length_eq_zero_iff, List.filter_eq_nil_iff]
                intro d hd
                rw [all d hd]
                simp
              rw [e0]
              obtain ⟨l, rfl⟩ := ints_of all
              rw [List.length_map] at l4
              obtain ⟨a, b, k, rfl⟩ : ∃ a b k, l = [a, b, k] := by
                match l, l4 with
                | [a, b, k], _ => exact ⟨a, b, k, rfl⟩
              subst p4
              simp_all only [true_and]
              rw [if_neg (by simp)]
              have bd : (0 ≤ a → a < n → 0 ≤ b → b < n → a ≠ b → 0 ≤ k → False) → Qt (.bool false) := fun z => bad fun a2 b2 k2 _ e => by
                simp only [List.map_cons, List.map_nil, List.cons.injEq, PyData.int.injEq, and_true] at e
                obtain ⟨rfl, rfl, rfl⟩ := e
                exact z
              by_cases q1 : 0 ≤ a
              · rw [if_pos q1]
                by_cases q2 : a < n
                · rw [if_pos q2]
                  by_cases q3 : 0 ≤ b
                  · rw [if_pos q3]
                    by_cases q4 : b < n
                    · rw [if_pos q4]
                      by_cases q5 : a = b
                      · rw [if_neg (by simpa using q5)]
                        exact bd fun _ _ _ _ z _ => z q5
                      · rw [if_pos q5]
                        refine h _ ?_
                        rw [decide_eq_true_eq, q_else p1 p2 p3]
                        exact ⟨fun z => ⟨rfl, a, b, k, rfl, q1, q2, q3, q4, q5, z⟩, fun ⟨_, a2, b2, k2, e, _, _, _, _, _, z⟩ => by
                          simp only [List.map_cons, List.map_nil, List.cons.injEq, PyData.int.injEq, and_true] at e
                          rw [e.2.2]; exact z⟩
                    · rw [if_neg q4]; exact bd fun _ _ _ z => (q4 z).elim
                  · rw [if_neg q3]; exact bd fun _ _ z => (q3 z).elim
                · rw [if_neg q2]; exact bd fun _ z => (q2 z).elim
              · rw [if_neg q1]; exact bd fun z => (q1 z).elim
            · have e0 : 0 < (r.filter fun d => decide (isI d = false)).length := by
                refine List.length_pos_iff.mpr fun e => all fun d hd => ?_
                have := List.filter_eq_nil_iff.mp e d hd
                simpa using this
              rw [if_pos (by omega)]
              exact bad fun a b k _ e _ _ _ _ _ _ => all fun d hd => by
                rw [e] at hd
                simp only [List.mem_cons, List.not_mem_nil, or_false] at hd
                rcases hd with rfl | rfl | rfl <;> rfl
          · rw [if_pos (by omega)]
            exact bad fun a b k _ e => by rw [e] at l4; exact (l4 rfl).elim
        · rw [if_pos p4]
          exact bad fun a b k e => (p4 e).elim
      | _ =>
        simp_all only [t__law_due, tyD, List.length_cons]
        first
          | exact no fun s r e => by simp at e
          | (rw [if_neg (by simp)]; exact no fun s r e => by simp at e)
  | _ =>
    simp_all only [t__law_due, tyD]
    exact no fun s r e => by cases e
end LS.QK

set_option maxHeartbeats 1000000
namespace LW
open PySem PySem.Spec PyProof.Rows L2 TL
local macro_rules | `(tactic| simp_all only [$xs:simpLemma,*]) => `(tactic| (try simp only [$xs,*, sSeq, sNext, sIf, sRet, sRetN, sSet, sApp, sSetL, sFor, sDrop, sRaise, sTry, sPut, sNewK, sNewT, sBreak, sCont, sUnp, gT, gTru, fTru, gNot, gAndB, gOrB, gAndV, gOrV, gNotV, gIf, gCh, TL.gTup, TL.gLst, gSl, gNoP, gP, gCall, gIsi, fIsi, tyD, gFn, gDIn, gDGet, gSortT, TL.gCons, TL.gNil, gBin, gUn, fNeg, gC, gV, rdSl, asB, asI, fAdd, fMul, fI0, fI2, fLt, fMin2, fMax2, fLen, fTuple, fList, fInt, fSorted, fIx_l, fIx_t, isOw_fz, isOw_nw, isOw_res, ex_own, ex_dK, ex_dT, String.reduceBEq, Bool.or_false, Bool.or_self, Bool.and_false, Bool.false_and, Bool.true_or, Bool.or_true, Bool.false_or, fIsN, iSeq, itD, iRg, fRg1, fRg2, tN, tTupG, tsCons, tsNil, gYes, setSl, appSl, setAt, putSl, getSl, retOk_res, retOk_int, retOk_bool, retOk_str, retOk_non, retOk_nw, retOk_ow, retOk_tupT, retOk_tup, kb_fz, kb_nw, kb_ow, kb_res, no_fz, no_nw, no_res, res_int, res_bool, res_str, res_non, res_tup, res_lst, frOk, TL.allB, ent, frzA, List.map_cons, List.map_nil, List.getElem?_cons_zero, List.getElem?_cons_succ, List.set_cons_zero, List.set_cons_succ, decide_eq_true_eq, Bool.and_true, Bool.true_and, Bool.and_self, true_and, and_true, List.cons_append, List.nil_append, List.append_nil, List.length_cons, List.length_nil, Bool.false_eq_true, Bool.not_true, Bool.not_false, reduceIte, true_or, or_true, false_or, or_false, false_and, and_false, List.replicate_succ, List.replicate_zero, reduceCtorEq, ne_eq, not_false_eq_true, implies_true, Bool.not_eq_true', decide_eq_false_iff_not, decide_true, decide_false, Nat.reduceAdd, Nat.reduceSub, Nat.reduceLT, Nat.reduceLeDiff, gLc, gLc2, wipeT, im, fMM, fLR, gIndex, sAppPop, sSetPop, sSetPop0, sMB, gMB, sSetMB, sLcPop, Bool.false_bne, Bool.false_xor, Bool.true_xor, fEq_ii, fEq_bb, fEq_ss, fEq_ll, fEq_tt, fNe_ii, fNe_bb, fNe_ss, fNe_ll, fNe_tt, fIn_l, fIn_t, fSl_l, fSl_t, cut1, fSrt, fMinD, gNotT, frOk_fz, allB_fzt, fst_fz, len_fz, sFrz, frzT, sExt, extSl, sRem, remSl, sAugI, sAug, gStar, starD, gTupS, gLstS, iEn, iEn2, itE, sDc, dcL, gDead, sTryAs, gIsE, sIns, insSl, sRev, sPopX, iRg3, fRg3, iZp, zipD, sNew1, gSortK, gCh3, toKey, getSl, iDs, im_pD, im_tI, im.imAll, im_pairs, imAll_ints, atQ0, atQ1, atQ2, atQ3, gD, popSl, sAppPop, sRetO, gFnO]))
def S_pair_of : FSp := fun ds Q _ => ∃ u v : Int, ds = [.int u, .int v] ∧ Q (pD (nrm (u, v)))
def S_are_neighbours : FSp := fun ds Q _ => ∃ (n : Int) (L : List (Int × Int)) (u v : Int), ds = [gD n L, .int u, .int v] ∧ Q (.bool (decide (nrm (u, v) ∈ L)))
def S_neighbours : FSp := fun ds Q _ => ∃ (n : Int) (L : List (Int × Int)) (v : Int), ds = [gD n L, .int v] ∧ Gr n L ∧ 0 ≤ v ∧ v < n ∧ n ≤ 100 ∧ Q (.list (iDs (nbs n L v)))
def insideN (L : List (Int × Int)) (ms : List Int) : Nat := (L.filter fun p => decide (p.1 ∈ ms ∧ p.2 ∈ ms)).length
def S_inside : FSp := fun ds Q _ => ∃ (n : Int) (L : List (Int × Int)) (ms : List Int), ds = [gD n L, .tuple (iDs ms)] ∧ L.length ≤ 100000 ∧ Q (.int (insideN L ms : Nat))
/- pair_of: 0 u, 1 v -/
def t_pair_of : TSt := sRet (gTup (gCons (gCall fMin2 (gCons (gV 0) (gCons (gV 1) (gNil)))) (gCons (gCall fMax2 (gCons (gV 0) (gCons (gV 1) (gNil)))) (gNil))))
/- are_neighbours: 0 graph, 1 u, 2 v -/
def t_are_neighbours : TSt := sRet (gBin (fIn false) (gFn S_pair_of (gCons (gV 1) (gCons (gV 2) (gNil)))) (gBin fIx (gV 0) (gC (.int 1))))
/- neighbours: 0 graph, 1 v, 2 u, 3 w -/
def g_neighbours_1 : TGt := tTupG 2 (tsCons (tN 2) (tsCons (tN 3) (tsNil)))
def e_neighbours_1 : TX := gBin fSub (gBin fAdd (gV 2) (gV 3)) (gV 1)
def c_neighbours_1 : TXb := gOrB (gT (gBin fEq (gV 2) (gV 1))) (gT (gBin fEq (gV 3) (gV 1)))
def t_neighbours : TSt := sRet (gCall fSrt (gCons (gLc (iSeq (gBin fIx (gV 0) (gC (.int 1)))) g_neighbours_1 c_neighbours_1 e_neighbours_1 [2, 3]) (gNil)))
/- inside: 0 graph, 1 members, 2 edge -/
def g_inside_1 : TGt := tN 2
def e_inside_1 : TX := gV 2
def c_inside_1 : TXb := gAndB (gT (gBin (fIn false) (gBin fIx (gV 2) (gC (.int 0))) (gV 1))) (gT (gBin (fIn false) (gBin fIx (gV 2) (gC (.int 1))) (gV 1)))
def t_inside : TSt := sRet (gCall fLen (gCons (gLc (iSeq (gBin fIx (gV 0) (gC (.int 1)))) g_inside_1 c_inside_1 e_inside_1 [2]) (gNil)))
theorem r_pair_of : ∀ (ds : List D) (Qt : D → Prop) (Et : WQ), ds.length = 2 → S_pair_of ds Qt Et → t_pair_of { nx := fun _ => Qt .none, rt := fun d _ => Qt d } (fun nm _ => Et nm) (ent false 2 ds) := by
  rintro ds Qt Et - ⟨u, v, rfl, h⟩
  simp_all only [t_pair_of]
  exact h
theorem r_are_neighbours : ∀ (ds : List D) (Qt : D → Prop) (Et : WQ), ds.length = 3 → S_are_neighbours ds Qt Et → t_are_neighbours { nx := fun _ => Qt .none, rt := fun d _ => Qt d } (fun nm _ => Et nm) (ent false 3 ds) := by
  rintro ds Qt Et - ⟨n, L, u, v, rfl, h⟩
  simp_all only [t_are_neighbours]
  refine ⟨u, v, rfl, ?_⟩
  simp_all only [true_and]
  refine ⟨emb_pair.sh _, emb_pair.shT L, ?_⟩
  rw [emb_pair.any]
  exact h
theorem nbs_asc (n : Int) (L : List (Int × Int)) (v : Int) : (nbs n L v).Pairwise (· < ·) := List.Pairwise.sublist List.filter_sublist rg_pair
theorem mem_nbs {n : Int} {L : List (Int × Int)} {v w : Int} : w ∈ nbs n L v ↔ (0 ≤ w ∧ w < n) ∧ w ≠ v ∧ nrm (w, v) ∈ L := by
  unfold nbs
  rw [List.mem_filter, mem_rg, decide_eq_true_eq]
theorem nbs_len (n : Int) (L : List (Int × Int)) (v : Int) : (nbs n L v).length ≤ n.toNat := by
  refine Nat.le_trans (List.length_filter_le _ _) ?_
  rw [rg_len]; omega
theorem nbs_sum {n : Int} {L : List (Int × Int)} {v : Int} (hg : Gr n L) : emb_int.sort (((L.filter fun p => decide (p.1 = v ∨ p.2 = v)).map fun p => p.1 + p.2 - v)) = nbs n L v := by
  refine emb_int.sort_uniq ?_ (nbs_asc n L v) fun w => ?_
  · unfold List.Nodup
    rw [List.pairwise_map]
    refine List.Pairwise.imp_of_mem (R := lt2) (fun {a b} ha hb h => ?_) (List.Pairwise.sublist List.filter_sublist hg.1)
    rw [List.mem_filter, decide_eq_true_eq] at ha hb
    have := hg.2 a ha.1
    have := hg.2 b hb.1
    unfold lt2 at h
    omega
  · rw [mem_nbs]
    simp only [List.mem_map, List.mem_filter, decide_eq_true_eq]
    constructor
    · rintro ⟨p, ⟨hp, hv⟩, rfl⟩
      have := hg.2 p hp
      refine ⟨by omega, by omega, ?_⟩
      have e : nrm (p.1 + p.2 - v, v) = p := by
        unfold nrm
        refine Prod.ext ?_ ?_ <;> simp only <;> omega
      rw [e]; exact hp
    · rintro ⟨h1, h2, h3⟩
      refine ⟨_, ⟨h3, ?_⟩, ?_⟩ <;> unfold nrm <;> simp only <;> omega
theorem r_neighbours : ∀ (ds : List D) (Qt : D → Prop) (Et : WQ), ds.length = 2 → S_neighbours ds Qt Et → t_neighbours { nx := fun _ => Qt .none, rt := fun d _ => Qt d } (fun nm _ => Et nm) (ent false 4 ds) := by
  rintro ds Qt Et - ⟨n, L, v, rfl, hg, v0, v1, hn, h⟩
  have hl := gr_len hg hn
  simp_all only [t_neighbours]
  refine ⟨sl_le (by rw [List.length_map]; omega), ?_⟩
  refine lcL_filt (fun p : Int × Int => p.1 = v ∨ p.2 = v) (fun p => .int (p.1 + p.2 - v)) (fun p hp Rn Ry hn hy => ?_) ?_
  · simp_all only [g_neighbours_1, c_neighbours_1, e_neighbours_1, pD]
    by_cases h1 : p.1 = v
    · rw [if_pos h1]
      exact hy (.inl h1) _ trivial rfl
    · rw [if_neg h1]
      split
      · exact hy (.inr (by assumption)) _ trivial rfl
      · exact hn fun q => q.elim h1 (by assumption)
  · simp_all only [true_and]
    have e : List.map (fun p : Int × Int => PyData.int (p.1 + p.2 - v)) (L.filter fun p => decide (p.1 = v ∨ p.2 = v)) = ((L.filter fun p => decide (p.1 = v ∨ p.2 = v)).map fun p => p.1 + p.2 - v).map PyData.int := by rw [List.map_map]; rfl
    rw [e, emb_int.map_sort, nbs_sum hg]
    exact ⟨sok_ints _, h⟩
theorem r_inside : ∀ (ds : List D) (Qt : D → Prop) (Et : WQ), ds.length = 2 → S_inside ds Qt Et → t_inside { nx := fun _ => Qt .none, rt := fun d _ => Qt d } (fun nm _ => Et nm) (ent false 3 ds) := by
  rintro ds Qt Et - ⟨n, L, ms, rfl, hl, h⟩
  simp_all only [t_inside]
  refine ⟨sl_le (by rw [List.length_map]; omega), ?_⟩
  refine lcL_filt (fun p : Int × Int => p.1 ∈ ms ∧ p.2 ∈ ms) pD (fun p hp Rn Ry hn hy => ?_) ?_
  · simp_all only [g_inside_1, c_inside_1, e_inside_1, pD, iDs]
    refine ⟨emb_int.sh _, emb_int.shT ms, ?_⟩
    rw [emb_int.any]
    by_cases h1 : p.1 ∈ ms
    · simp only [h1, decide_true, if_true]
      refine ⟨emb_int.sh _, emb_int.shT ms, ?_⟩
      rw [emb_int.any]
      by_cases h2 : p.2 ∈ ms
      · simp only [h2, decide_true, if_true]
        exact hy ⟨h1, h2⟩ _ trivial rfl
      · simp only [h2, decide_false, Bool.false_eq_true, if_false]
        exact hn fun q => h2 q.2
    · simp only [h1, decide_false, Bool.false_eq_true, if_false]
      exact hn fun q => h1 q.1
  · simp_all only [List.length_map]
    exact h
end LW

set_option maxHeartbeats 1000000
namespace LW
open PySem PySem.Spec PyProof.Rows L2 TL
local macro_rules | `(tactic| simp_all only [$xs:simpLemma,*]) => `(tactic| (try simp only [$xs,*, sSeq, sNext, sIf, sRet, sRetN, sSet, sApp, sSetL, sFor, sDrop, sRaise, sTry, sPut, sNewK, sNewT, sBreak, sCont, sUnp, gT, gTru, fTru, gNot, gAndB, gOrB, gAndV, gOrV, gNotV, gIf, gCh, TL.gTup, TL.gLst, gSl, gNoP, gP, gCall, gIsi, fIsi, tyD, gFn, gDIn, gDGet, gSortT, TL.gCons, TL.gNil, gBin, gUn, fNeg, gC, gV, rdSl, asB, asI, fAdd, fMul, fI0, fI2, fLt, fMin2, fMax2, fLen, fTuple, fList, fInt, fSorted, fIx_l, fIx_t, isOw_fz, isOw_nw, isOw_res, ex_own, ex_dK, ex_dT, String.reduceBEq, Bool.or_false, Bool.or_self, Bool.and_false, Bool.false_and, Bool.true_or, Bool.or_true, Bool.false_or, fIsN, iSeq, itD, iRg, fRg1, fRg2, tN, tTupG, tsCons, tsNil, gYes, setSl, appSl, setAt, putSl, getSl, retOk_res, retOk_int, retOk_bool, retOk_str, retOk_non, retOk_nw, retOk_ow, retOk_tupT, retOk_tup, kb_fz, kb_nw, kb_ow, kb_res, no_fz, no_nw, no_res, res_int, res_bool, res_str, res_non, res_tup, res_lst, frOk, TL.allB, ent, frzA, List.map_cons, List.map_nil, List.getElem?_cons_zero, List.getElem?_cons_succ, List.set_cons_zero, List.set_cons_succ, decide_eq_true_eq, Bool.and_true, Bool.true_and, Bool.and_self, true_and, and_true, List.cons_append, List.nil_append, List.append_nil, List.length_cons, List.length_nil, Bool.false_eq_true, Bool.not_true, Bool.not_false, reduceIte, true_or, or_true, false_or, or_false, false_and, and_false, List.replicate_succ, List.replicate_zero, reduceCtorEq, ne_eq, not_false_eq_true, implies_true, Bool.not_eq_true', decide_eq_false_iff_not, decide_true, decide_false, Nat.reduceAdd, Nat.reduceSub, Nat.reduceLT, Nat.reduceLeDiff, gLc, gLc2, wipeT, im, fMM, fLR, gIndex, sAppPop, sSetPop, sSetPop0, sMB, gMB, sSetMB, sLcPop, Bool.false_bne, Bool.false_xor, Bool.true_xor, fEq_ii, fEq_bb, fEq_ss, fEq_ll, fEq_tt, fNe_ii, fNe_bb, fNe_ss, fNe_ll, fNe_tt, fIn_l, fIn_t, fSl_l, fSl_t, cut1, fSrt, fMinD, gNotT, frOk_fz, allB_fzt, fst_fz, len_fz, sFrz, frzT, sExt, extSl, sRem, remSl, sAugI, sAug, gStar, starD, gTupS, gLstS, iEn, iEn2, itE, sDc, dcL, gDead, sTryAs, gIsE, sIns, insSl, sRev, sPopX, iRg3, fRg3, iZp, zipD, sNew1, gSortK, gCh3, toKey, getSl, iDs, im_pD, im_tI, im.imAll, im_pairs, imAll_ints, atQ0, atQ1, atQ2, atQ3, gD, popSl, sAppPop, sRetO, gFnO]))
/-! ### lists without repetitions -/
theorem nodup_len {α : Type} [DecidableEq α] : ∀ {l m : List α}, l.Nodup → (∀ x ∈ l, x ∈ m) → l.length ≤ m.length
  | [], _, _, _ => by simp
  | x :: l, m, hn, hs => by
    obtain ⟨h1, h2⟩ := List.nodup_cons.mp hn
    have hx := hs x List.mem_cons_self
    have := nodup_len (l := l) (m := m.erase x) h2 fun y hy => by
      have hne : y ≠ x := fun e => h1 (e ▸ hy)
      exact (List.mem_erase_of_ne hne).mpr (hs y (List.mem_cons_of_mem _ hy))
    rw [List.length_erase_of_mem hx] at this
    have : 0 < m.length := List.length_pos_of_mem hx
    rw [List.length_cons]; omega
theorem nodup_full {α : Type} [DecidableEq α] {l m : List α} (hn : l.Nodup) (hs : ∀ x ∈ l, x ∈ m) (hl : m.length ≤ l.length) : ∀ x ∈ m, x ∈ l := fun x hx => by
  rcases Decidable.em (x ∈ l) with h | h
  · exact h
  · have := nodup_len (l := x :: l) (m := m) (List.nodup_cons.mpr ⟨h, hn⟩) fun y hy => by
      rcases List.mem_cons.mp hy with rfl | hy
      · exact hx
      · exact hs y hy
    rw [List.length_cons] at this; omega
/-! ### what can be reached -/
inductive Rch (R : Int → Int → Prop) (ms : List Int) (v : Int) : Int → Prop
  | base : Rch R ms v v
  | step {u w : Int} : Rch R ms v u → w ∈ ms → R u w → Rch R ms v w
def Adj (L : List (Int × Int)) (u w : Int) : Prop := nrm (u, w) ∈ L
instance (L : List (Int × Int)) (u w : Int) : Decidable (Adj L u w) := by unfold Adj; infer_instance
theorem Adj.symm {L : List (Int × Int)} {u w : Int} (h : Adj L u w) : Adj L w u := by
  unfold Adj nrm at *
  simp only at *
  rw [Int.min_comm, Int.max_comm]; exact h
def Clo (R : Int → Int → Prop) (ms F : List Int) : Prop := ∀ u ∈ F, ∀ w ∈ ms, R u w → w ∈ F
theorem Rch.inClo {R : Int → Int → Prop} {ms F : List Int} {v w : Int} (hc : Clo R ms F) (hv : v ∈ F) (h : Rch R ms v w) : w ∈ F := by
  induction h with
  | base => exact hv
  | step _ hw hr ih => exact hc _ ih _ hw hr
theorem Rch.mem {R : Int → Int → Prop} {ms : List Int} {v w : Int} (h : Rch R ms v w) : w = v ∨ w ∈ ms := by
  cases h with
  | base => exact .inl rfl
  | step _ hw _ => exact .inr hw
theorem Rch.trans {R : Int → Int → Prop} {ms : List Int} {u v w : Int} (h1 : Rch R ms u v) (h2 : Rch R ms v w) : Rch R ms u w := by
  induction h2 with
  | base => exact h1
  | step _ hw hr ih => exact .step ih hw hr
theorem Rch.symm {R : Int → Int → Prop} (hR : ∀ u w, R u w → R w u) {ms : List Int} {v w : Int} (hv : v ∈ ms) (h : Rch R ms v w) : Rch R ms w v := by
  induction h with
  | base => exact .base
  | @step u w h1 hw hr ih =>
    have hu : u ∈ ms := by
      rcases h1.mem with e | e
      · rw [e]; exact hv
      · exact e
    exact Rch.trans (.step .base hu (hR _ _ hr)) ih
def IsPart (R : Int → Int → Prop) (ms : List Int) (v : Int) (P : List Int) : Prop := P.Pairwise (· < ·) ∧ ∀ w, w ∈ P ↔ Rch R ms v w
theorem IsPart.uniq {R : Int → Int → Prop} {ms : List Int} {v : Int} {P P' : List Int} (h : IsPart R ms v P) (h' : IsPart R ms v P') : P = P' :=
  emb_int.uniq h.1 h'.1 fun w => by rw [h.2, h'.2]
theorem part_ex {R : Int → Int → Prop} {ms : List Int} {v n : Int} (hv : 0 ≤ v ∧ v < n) (hm : ∀ w ∈ ms, 0 ≤ w ∧ w < n) : ∃ P, IsPart R ms v P := by
  classical
  refine ⟨(rg 0 n).filter fun w => decide (Rch R ms v w), List.Pairwise.sublist List.filter_sublist rg_pair, fun w => ?_⟩
  rw [List.mem_filter, mem_rg, decide_eq_true_eq]
  constructor
  · exact fun h => h.2
  · intro h
    refine ⟨?_, h⟩
    rcases h.mem with e | e
    · rw [e]; exact hv
    · exact hm w e
def Conn (L : List (Int × Int)) (ms : List Int) : Prop := ms ≠ [] ∧ ∀ v ∈ ms, ∀ w ∈ ms, Rch (Adj L) ms v w
theorem conn_head {L : List (Int × Int)} {v : Int} {ms : List Int} (hv : v ∈ ms) (h : ∀ w ∈ ms, Rch (Adj L) ms v w) : Conn L ms :=
  ⟨fun e => by rw [e] at hv; simp at hv, fun u hu w hw => ((h u hu).symm (fun _ _ => Adj.symm) hv).trans (h w hw)⟩
/-! ### promises -/
def S_part_of : FSp := fun ds Q _ => ∃ (n : Int) (L : List (Int × Int)) (v : Int) (ms : List Int), ds = [gD n L, .int v, .tuple (iDs ms)] ∧ Gr n L ∧ n ≤ 60 ∧ 0 ≤ v ∧ v < n ∧ (∀ w ∈ ms, 0 ≤ w ∧ w < n) ∧ ∀ P, IsPart (Adj L) ms v P → Q (tI P)
def IsParts (L : List (Int × Int)) (ms : List Int) (Ps : List (List Int)) : Prop := Ps.Pairwise (· < ·) ∧ ∀ P, P ∈ Ps ↔ ∃ v ∈ ms, IsPart (Adj L) ms v P
def S_parts_of : FSp := fun ds Q _ => ∃ (n : Int) (L : List (Int × Int)) (ms : List Int), ds = [gD n L, .tuple (iDs ms)] ∧ Gr n L ∧ n ≤ 60 ∧ ms.length ≤ 100000 ∧ (∀ w ∈ ms, 0 ≤ w ∧ w < n) ∧ ∀ Ps, IsParts L ms Ps → Q (.list (Ps.map tI))
def S_components : FSp := fun ds Q _ => ∃ (n : Int) (L : List (Int × Int)), ds = [gD n L] ∧ Gr n L ∧ 0 ≤ n ∧ n ≤ 60 ∧ ∀ Ps, IsParts L (rg 0 n) Ps → Q (.list (Ps.map tI))
def S_is_connected : FSp := fun ds Q _ => ∃ (n : Int) (L : List (Int × Int)) (ms : List Int), ds = [gD n L, .tuple (iDs ms)] ∧ Gr n L ∧ n ≤ 60 ∧ ms.length ≤ 100000 ∧ (∀ w ∈ ms, 0 ≤ w ∧ w < n) ∧ ∀ b : Bool, (b = true ↔ Conn L ms) → Q (.bool b)
def S__law_reach : FSp := fun ds Q _ => ∃ (n : Int) (L : List (Int × Int)) (v : Int) (ms : List Int), ds = [gD n L, .int v, .list (iDs ms)] ∧ ms.Nodup ∧ ms.length ≤ 1000 ∧ L.length ≤ 100000 ∧ ∀ P, IsPart (Adj L) ms v P → Q (tI P)
def S__law_joined : FSp := fun ds Q _ => ∃ (n : Int) (L : List (Int × Int)) (ms : List Int), ds = [gD n L, .tuple (iDs ms)] ∧ ms.Nodup ∧ ms.length ≤ 1000 ∧ L.length ≤ 100000 ∧ ∀ b : Bool, (b = true ↔ Conn L ms) → Q (.bool b)
/- part_of: 0 graph, 1 v, 2 members, 3 found, 4 waiting, 5 u, 6 w -/
def g_part_of_1 : TGt := tN 6
def w_part_of_1 : TSt := sIf (gAndB (gT (gBin (fIn false) (gV 6) (gV 2))) (gT (gDIn true 3 (gV 6)))) (sSeq (sPut 3 (gC (.bool true)) (gV 6)) (sApp 4 (gV 6))) (sNext)
def c_part_of_2 : TXb := gT (gBin fGt (gCall fLen (gCons (gV 4) (gNil))) (gC (.int 0)))
def w_part_of_2 : TSt := sSeq (sSetPop0 5 4) (sFor (iSeq (gFn S_neighbours (gCons (gV 0) (gCons (gV 5) (gNil))))) g_part_of_1 w_part_of_1)
def t_part_of : TSt := sSeq (sNew1 3 (gV 1) (gC (.bool true))) (sSeq (sSet 4 (gLst (gCons (gV 1) (gNil)))) (sSeq (sWhile c_part_of_2 w_part_of_2) (sRet (gCall fTuple (gCons (gSortK 3) (gNil))))))
/- parts_of: 0 graph, 1 members, 2 found, 3 v, 4 part -/
def g_parts_of_1 : TGt := tN 4
def e_parts_of_1 : TX := gV 4
def c_parts_of_1 : TXb := gT (gBin (fIn false) (gV 3) (gV 4))
def g_parts_of_2 : TGt := tN 3
def w_parts_of_2 : TSt := sIf (gNot (gTru (gLc (iSeq (gV 2)) g_parts_of_1 c_parts_of_1 e_parts_of_1 [4]))) (sApp 2 (gFn S_part_of (gCons (gV 0) (gCons (gV 3) (gCons (gV 1) (gNil)))))) (sNext)
def t_parts_of : TSt := sSeq (sSet 2 (gLst (gNil))) (sSeq (sFor (iSeq (gV 1)) g_parts_of_2 w_parts_of_2) (sRet (gCall fSrt (gCons (gV 2) (gNil)))))
/- components: 0 graph -/
def t_components : TSt := sRet (gFn S_parts_of (gCons (gV 0) (gCons (gCall fTR (gCons (gBin fIx (gV 0) (gC (.int 0))) gNil)) (gNil))))
/- is_connected: 0 graph, 1 members -/
def t_is_connected : TSt := sRet (gBin fEq (gCall fLen (gCons (gFn S_parts_of (gCons (gV 0) (gCons (gV 1) (gNil)))) (gNil))) (gC (.int 1)))
/- _law_reach: 0 _law_graph_here, 1 _law_v, 2 _law_members, 3 _law_found, 4 _law_k, 5 _law_u, 6 _law_w -/
def g__law_reach_1 : TGt := tN 6
def e__law_reach_1 : TX := gV 6
def c__law_reach_1 : TXb := gAndB (gT (gBin (fIn true) (gV 6) (gV 3))) (gTru (gFn S__law_met (gCons (gV 0) (gCons (gV 5) (gCons (gV 6) (gNil))))))
def g__law_reach_2 : TGt := tN 5
def w__law_reach_2 : TSt := sSet 3 (gBin fAdd (gV 3) (gLc (iSeq (gV 2)) g__law_reach_1 c__law_reach_1 e__law_reach_1 [6]))
def g__law_reach_3 : TGt := tN 4
def w__law_reach_3 : TSt := sFor (iSeq (gCall fList (gCons (gV 3) (gNil)))) g__law_reach_2 w__law_reach_2
def t__law_reach : TSt := sSeq (sSet 3 (gLst (gCons (gV 1) (gNil)))) (sSeq (sFor (iRg (gCons (gCall fLen (gCons (gV 2) (gNil))) (gNil))) g__law_reach_3 w__law_reach_3) (sRet (gCall fTuple (gCons (gFn S__law_distinct (gCons (gV 3) (gNil))) (gNil)))))
/- _law_joined: 0 _law_graph_here, 1 _law_members -/
def t__law_joined : TSt := sRet (gAndV (gBin fGt (gCall fLen (gCons (gV 1) (gNil))) (gC (.int 0))) (gBin fEq (gCall fLen (gCons (gFn S__law_reach (gCons (gV 0) (gCons (gBin fIx (gV 1) (gC (.int 0))) (gCons (gCall fList (gCons (gV 1) (gNil))) (gNil))))) (gNil))) (gCall fLen (gCons (gV 1) (gNil)))))
/-! ### a dict with ints as keys and True as values -/
def keyI (ks : List Int) : List (Key × D) := ks.map fun i => (Sum.inl i, .bool true)
theorem keyI_len (ks : List Int) : (keyI ks).length = ks.length := by simp [keyI]
theorem keyI_fst (ks : List Int) : (keyI ks).map (·.1) = ks.map Sum.inl := by simp [keyI, Function.comp_def]
theorem keyI_val (ks : List Int) (i : Int) : (valD (keyI ks) (Sum.inl i)).isSome = decide (i ∈ ks) := by
  unfold valD keyI
  rw [Option.isSome_map, Bool.eq_iff_iff]
  simp only [List.find?_isSome, List.mem_map, decide_eq_true_eq]
  constructor
  · rintro ⟨x, ⟨j, hj, rfl⟩, e⟩
    injection e with e
    exact e ▸ hj
  · intro h
    exact ⟨_, ⟨i, h, rfl⟩, rfl⟩
theorem keyI_put {ks : List Int} {i : Int} (h : i ∉ ks) : putD (keyI ks) (Sum.inl i) (.bool true) = keyI (ks ++ [i]) := by
  unfold putD
  have : ((keyI ks).any fun kv => decide (kv.1 = Sum.inl i)) = false := by
    rw [List.any_eq_false]
    intro x hx
    unfold keyI at hx
    obtain ⟨j, hj, rfl⟩ := List.mem_map.mp hx
    simp only [decide_eq_true_eq]
    intro e
    injection e with e
    exact h (e ▸ hj)
  rw [this]
  simp [keyI]
theorem sort_asc {l m : List Int} (hp : m.Perm l) (hn : l.Nodup) (hs : m.Pairwise (· ≤ ·)) : m.Pairwise (· < ·) := by
  have h2 : m.Nodup := hp.nodup_iff.mpr hn
  exact (hs.and h2).imp fun {a b} ⟨h1, h2⟩ => by
    rcases Int.lt_or_eq_of_le h1 with h | h
    · exact h
    · exact (h2 h).elim
/-! ### readings -/
theorem lp_part {De : EndsT} {wq : WS} {n v u : Int} {L : List (Int × Int)} {ms : List Int} {F0 W0 : List Int} (hm : ∀ w ∈ ms, 0 ≤ w ∧ w < n) (hn : n ≤ 60) (hF : F0.Nodup) (hR : ∀ w ∈ F0, Rch (Adj L) ms v w) (hv : 0 ≤ v ∧ v < n) (hu : Rch (Adj L) ms v u) (hW : W0.length ≤ 1000)
    (y : Option Sl) (k : ∀ (N : List Int) (y : Option Sl), (F0 ++ N).Nodup → (∀ w ∈ N, Rch (Adj L) ms v w) → (∀ w ∈ nbs n L u, w ∈ ms → w ∈ F0 ++ N) →
      De.nx [some (.fz (gD n L) false), some (.fz (.int (v)) false), some (.fz (.tuple (ms.map PyData.int)) false), some (.dK (keyI (F0 ++ N))), some (.own (List.map PyData.int (W0 ++ N)) true), some (.fz (.int (u)) true), y]) :
    forL g_part_of_1 w_part_of_1 De wq true ((nbs n L u).map PyData.int) [some (.fz (gD n L) false), some (.fz (.int (v)) false), some (.fz (.tuple (ms.map PyData.int)) false), some (.dK (keyI F0)), some (.own (List.map PyData.int (W0)) true), some (.fz (.int (u)) true), y] := by
  have inN : ∀ w, Rch (Adj L) ms v w → 0 ≤ w ∧ w < n := fun w h => by
    rcases h.mem with e | e
    · rw [e]; exact hv
    · exact hm w e
  have size : ∀ F : List Int, F.Nodup → (∀ w ∈ F, Rch (Adj L) ms v w) → F.length ≤ 60 := fun F h1 h2 => by
    have := nodup_len (l := F) (m := rg 0 n) h1 fun w hw => mem_rg.mpr (inN w (h2 w hw))
    rw [rg_len] at this; omega
  refine forL_inv (fun done τ => ∃ (N : List Int) (y : Option Sl), τ = [some (.fz (gD n L) false), some (.fz (.int (v)) false), some (.fz (.tuple (ms.map PyData.int)) false), some (.dK (keyI (F0 ++ N))), some (.own (List.map PyData.int (W0 ++ N)) true), some (.fz (.int (u)) true), y] ∧ (F0 ++ N).Nodup ∧ (∀ w ∈ N, Rch (Adj L) ms v w) ∧ ∀ w ∈ done, w ∈ ms → w ∈ F0 ++ N) ?_ ?_ ?_
  · exact ⟨[], y, by simp, by simpa using hF, fun w hw => by simp at hw, fun w hw => by simp at hw⟩
  · rintro done w rest e _ ⟨N, y, rfl, h1, h2, h3⟩ F hF'
    have hw := mem_nbs.mp (show w ∈ nbs n L u by rw [e]; simp)
    have hall : ∀ x ∈ F0 ++ N, Rch (Adj L) ms v x := fun x hx => (List.mem_append.mp hx).elim (hR x) (h2 x)
    have hs := size _ h1 hall
    simp_all only [g_part_of_1, w_part_of_1]
    refine ⟨emb_int.sh _, emb_int.shT ms, ?_⟩
    rw [emb_int.any]
    by_cases a : w ∈ ms
    · simp_all only [a, keyI_val]
      by_cases b : w ∈ F0 ++ N
      · simp_all only [b]
        exact hF' _ ⟨N, _, rfl, h1, h2, fun x hx hxm => by
          rcases List.mem_append.mp hx with hx | hx
          · exact h3 x hx hxm
          · rw [List.mem_singleton.mp hx]; exact b⟩
      · simp_all only [b]
        have hsN : (F0 ++ N).length ≤ 60 := hs
        rw [List.length_append] at hsN
        refine ⟨sl_lt (by rw [keyI_len, List.length_append]; omega), ?_⟩
        rw [keyI_put b]
        refine ⟨sl_lt (by simp; omega), hF' _ ⟨N ++ [w], _, (by first | rfl | (simp [gD] <;> repeat' (first | rfl | apply And.intro))), ?_, ?_, ?_⟩⟩
        · rw [← List.append_assoc, List.nodup_append]
          refine ⟨h1, by simp, fun x hx y hy => ?_⟩
          rw [List.mem_singleton.mp hy]
          exact fun e => b (e ▸ hx)
        · intro x hx
          rcases List.mem_append.mp hx with hx | hx
          · exact h2 x hx
          · rw [List.mem_singleton.mp hx]
            refine .step hu a (Adj.symm ?_)
            exact hw.2.2
        · intro x hx hxm
          rw [← List.append_assoc, List.mem_append]
          rcases List.mem_append.mp hx with hx | hx
          · exact .inl (h3 x hx hxm)
          · exact .inr hx
    · simp_all only [a]
      exact hF' _ ⟨N, _, rfl, h1, h2, fun x hx hxm => by
          rcases List.mem_append.mp hx with hx | hx
          · exact h3 x hx hxm
          · rw [List.mem_singleton.mp hx] at hxm; exact (a hxm).elim⟩
  · rintro τ ⟨N, y, rfl, h1, h2, h3⟩
    exact k N y h1 h2 h3
theorem r_part_of : ∀ (ds : List D) (Qt : D → Prop) (Et : WQ), ds.length = 3 → S_part_of ds Qt Et → t_part_of { nx := fun _ => Qt .none, rt := fun d _ => Qt d } (fun nm _ => Et nm) (ent false 7 ds) := by
  rintro ds Qt Et - ⟨n, L, v, ms, rfl, hg, hn, hv0, hv1, hm, h⟩
  have inN : ∀ w, Rch (Adj L) ms v w → 0 ≤ w ∧ w < n := fun w h => by
    rcases h.mem with e | e
    · rw [e]; exact ⟨hv0, hv1⟩
    · exact hm w e
  have size : ∀ F : List Int, F.Nodup → (∀ w ∈ F, Rch (Adj L) ms v w) → F.length ≤ 60 := fun F h1 h2 => by
    have := nodup_len (l := F) (m := rg 0 n) h1 fun w hw => mem_rg.mpr (inN w (h2 w hw))
    rw [rg_len] at this; omega
  simp_all only [t_part_of, sWhile]
  refine ⟨fun m τ => ∃ (F W : List Int) (a b : Option Sl), τ = [some (.fz (gD n L) false), some (.fz (.int (v)) false), some (.fz (.tuple (ms.map PyData.int)) false), some (.dK (keyI F)), some (.own (List.map PyData.int (W)) true), a, b] ∧ F.Nodup ∧ v ∈ F ∧ (∀ w ∈ F, Rch (Adj L) ms v w) ∧ (∀ w ∈ W, w ∈ F) ∧ W.length ≤ F.length ∧ (∀ u ∈ F, u ∉ W → ∀ w ∈ ms, Adj L u w → w ∈ F) ∧ m = 2 * (60 - F.length) + W.length, ⟨_, [v], [v], none, none, rfl, by simp, by simp, fun w hw => by rw [List.mem_singleton.mp hw]; exact .base, fun w hw => hw, by simp, fun u hu hw => (hw hu).elim, rfl⟩, ?_⟩
  rintro m _ ⟨F, W, a, b, rfl, h1, hvF, h2, h3, h4, h5, rfl⟩
  have hs := size F h1 h2
  simp_all only [c_part_of_2, List.length_map]
  split
  · rename_i hgt
    obtain ⟨W', u, rfl⟩ : ∃ W' u, W = W' ++ [u] := by
      rcases List.eq_nil_or_concat W with e | ⟨W', u, e⟩
      · rw [e] at hgt; simp at hgt
      · exact ⟨W', u, by rw [e, List.concat_eq_append]⟩
    have hu := h2 u (h3 u (by simp))
    have hu2 := inN u hu
    simp only [List.map_append, List.map_cons, List.map_nil]
    simp_all only [w_part_of_2, sSetPop0]
    rw [List.length_append, List.length_singleton] at h4
    refine ⟨.int u, by simp, ?_⟩
    simp_all only [List.dropLast_concat]
    refine ⟨n, L, u, rfl, hg, hu2.1, hu2.2, by omega, ?_⟩
    simp_all only [true_and]
    refine lp_part hm hn h1 h2 ⟨hv0, hv1⟩ hu (by omega) b fun N y n1 n2 n3 => ?_
    have hsN : (F ++ N).length ≤ 60 := size _ n1 fun x hx => (List.mem_append.mp hx).elim (h2 x) (n2 x)
    rw [List.length_append] at hsN
    refine ⟨2 * (60 - (F ++ N).length) + (W' ++ N).length, by simp; omega, F ++ N, W' ++ N, _, y, rfl, n1, List.mem_append_left _ hvF, fun x hx => (List.mem_append.mp hx).elim (h2 x) (n2 x), fun x hx => ?_, by simp; omega, fun x hx hxW w hw hr => ?_, rfl⟩
    · rcases List.mem_append.mp hx with hx | hx
      · exact List.mem_append_left _ (h3 x (by simp [hx]))
      · exact List.mem_append_right _ hx
    · rw [List.mem_append, not_or] at hxW
      by_cases e : x = u
      · subst e
        refine n3 w (mem_nbs.mpr ⟨hm w hw, fun e => ?_, hr.symm⟩) hw
        have := hg.2 _ hr
        subst e
        unfold nrm at this; simp only at this; omega
      · have hxF : x ∈ F := (List.mem_append.mp hx).elim id fun h => (hxW.2 h).elim
        exact List.mem_append_left _ (h5 x hxF (by simp [hxW.1, e]) w hw hr)
  · rename_i hgt
    have hW : W = [] := List.eq_nil_of_length_eq_zero (by omega)
    subst hW
    refine ⟨_, F, rfl, keyI_fst F, by omega, fun ys hp hs => ?_⟩
    simp_all only [true_and]
    refine h ys ⟨sort_asc hp h1 hs, fun w => ?_⟩
    rw [hp.mem_iff]
    exact ⟨h2 w, fun hr => hr.inClo (fun u hu w hw hr => h5 u hu (by simp) w hw hr) hvF⟩
theorem isEmpty_filter_map {α : Type} (f : α → D) (p : α → Bool) (l : List α) : (List.map f (l.filter p)).isEmpty = true ↔ ∀ x ∈ l, p x = false := by
  rw [List.isEmpty_map]
  induction l with
  | nil => simp
  | cons x l ih =>
    by_cases h : p x = true
    · simp [h]
    · have h' : p x = false := by cases q : p x with | false => rfl | true => exact (h q).elim
      simp [h', ih]
theorem parts_self {L : List (Int × Int)} {ms : List Int} {v : Int} {P : List Int} (h : IsPart (Adj L) ms v P) : v ∈ P := (h.2 v).mpr .base
theorem parts_move {L : List (Int × Int)} {ms : List Int} {u v : Int} {P : List Int} (hu : u ∈ ms) (h : IsPart (Adj L) ms u P) (hv : v ∈ P) : IsPart (Adj L) ms v P := by
  have huv := (h.2 v).mp hv
  refine ⟨h.1, fun w => ?_⟩
  rw [h.2]
  exact ⟨fun h2 => (huv.symm (fun _ _ => Adj.symm) hu).trans h2, fun h2 => huv.trans h2⟩
theorem part_len {L : List (Int × Int)} {ms : List Int} {v n : Int} {P : List Int} (hv : 0 ≤ v ∧ v < n) (hm : ∀ w ∈ ms, 0 ≤ w ∧ w < n) (h : IsPart (Adj L) ms v P) : (∀ w ∈ P, 0 ≤ w ∧ w < n) ∧ P.length ≤ n.toNat := by
  have a : ∀ w ∈ P, 0 ≤ w ∧ w < n := fun w hw => by
    rcases ((h.2 w).mp hw).mem with e | e
    · rw [e]; exact hv
    · exact hm w e
  refine ⟨a, ?_⟩
  have := nodup_len (l := P) (m := rg 0 n) (asc_nodup emb_int h.1) fun w hw => mem_rg.mpr (a w hw)
  rw [rg_len] at this; omega
theorem r_parts_of : ∀ (ds : List D) (Qt : D → Prop) (Et : WQ), ds.length = 2 → S_parts_of ds Qt Et → t_parts_of { nx := fun _ => Qt .none, rt := fun d _ => Qt d } (fun nm _ => Et nm) (ent false 5 ds) := by
  rintro ds Qt Et - ⟨n, L, ms, rfl, hg, hn, hl, hm, h⟩
  simp_all only [t_parts_of]
  refine forL_inv (fun done τ => ∃ (Ps : List (List Int)) (a b : Option Sl), τ = [some (.fz (gD n L) false), some (.fz (.tuple (ms.map PyData.int)) false), some (.own (Ps.map tI) true), a, b] ∧ Ps.Nodup ∧ (∀ P ∈ Ps, ∃ v ∈ done, IsPart (Adj L) ms v P) ∧ (∀ v ∈ done, ∃ P ∈ Ps, v ∈ P) ∧ Ps.length ≤ done.length)
    ⟨[], none, none, rfl, List.nodup_nil, fun P hP => by simp at hP, fun v hv => by simp at hv, by simp⟩ ?_ ?_
  · rintro done v rest e _ ⟨Ps, a, b, rfl, h1, h2, h3, h4⟩ F hF
    have hvm : v ∈ ms := by rw [e]; simp
    have hv := hm v hvm
    have hlen := congrArg List.length e
    rw [List.length_append, List.length_cons] at hlen
    simp_all only [g_parts_of_2, w_parts_of_2]
    refine ⟨sl_le (by rw [List.length_map]; omega), ?_⟩
    refine lcL_filt (fun P : List Int => v ∈ P) tI (fun P hP Rn Ry hn' hy => ?_) ?_
    · simp_all only [g_parts_of_1, c_parts_of_1, e_parts_of_1, tI]
      refine ⟨emb_int.sh _, emb_int.shT P, ?_⟩
      rw [emb_int.any]
      by_cases q : v ∈ P
      · simp_all only [q]
        exact hy q _ trivial rfl
      · simp_all only [q]
        exact hn' q
    simp_all only [true_and]
    by_cases q : ∀ P ∈ Ps, v ∉ P
    · have e1 : (List.map tI (Ps.filter fun P => decide (v ∈ P))).isEmpty = true := (isEmpty_filter_map tI _ Ps).mpr fun P hP => by simpa using q P hP
      rw [if_pos (by rw [e1]; rfl)]
      refine ⟨n, L, v, ms, rfl, hg, hn, hv.1, hv.2, hm, fun P hP => ?_⟩
      simp_all only [tI, List.length_map]
      refine ⟨sl_lt (by omega), hF _ ⟨Ps ++ [P], _, _, (by first | rfl | (simp [gD, tI] <;> repeat' (first | rfl | apply And.intro))), ?_, fun P' hP' => ?_, fun u hu => ?_, by simp; omega⟩⟩
      · rw [List.nodup_append]
        refine ⟨h1, by simp, fun x hx y hy e => ?_⟩
        rw [List.mem_singleton.mp hy] at e
        exact q x hx (e ▸ parts_self hP)
      · rcases List.mem_append.mp hP' with hP' | hP'
        · obtain ⟨u, hu, hi⟩ := h2 P' hP'
          exact ⟨u, List.mem_append_left _ hu, hi⟩
        · rw [List.mem_singleton.mp hP']
          exact ⟨v, by simp, hP⟩
      · rcases List.mem_append.mp hu with hu | hu
        · obtain ⟨P', hP', hi⟩ := h3 u hu
          exact ⟨P', List.mem_append_left _ hP', hi⟩
        · rw [List.mem_singleton.mp hu]
          exact ⟨P, by simp, parts_self hP⟩
    · have q2 : ∃ P ∈ Ps, v ∈ P := by
        apply Classical.byContradiction
        intro hno
        exact q fun P hP hv => hno ⟨P, hP, hv⟩
      have e1 : (List.map tI (Ps.filter fun P => decide (v ∈ P))).isEmpty = false := by
        cases z : (List.map tI (Ps.filter fun P => decide (v ∈ P))).isEmpty with
        | false => rfl
        | true =>
          obtain ⟨P, hP, hv⟩ := q2
          have := (isEmpty_filter_map tI _ Ps).mp z P hP
          simp [hv] at this
      rw [if_neg (by rw [e1]; simp)]
      refine hF _ ⟨Ps, _, _, rfl, h1, fun P hP => ?_, fun u hu => ?_, by simp; omega⟩
      · obtain ⟨u, hu, hi⟩ := h2 P hP
        exact ⟨u, List.mem_append_left _ hu, hi⟩
      · rcases List.mem_append.mp hu with hu | hu
        · exact h3 u hu
        · rw [List.mem_singleton.mp hu]; exact q2
  · rintro τ ⟨Ps, a, b, rfl, h1, h2, h3, h4⟩
    simp_all only [emb_row.imAll]
    refine ⟨sok_rows Ps fun P hP e => ?_, ?_⟩
    · obtain ⟨v, hv, hi⟩ := h2 P hP
      have := parts_self hi
      rw [e] at this; simp at this
    rw [emb_row.map_sort]
    simp_all only [emb_row.imAll]
    refine h _ ⟨emb_row.asc h1, fun P => ?_⟩
    rw [emb_row.mem]
    constructor
    · exact h2 P
    · rintro ⟨v, hv, hi⟩
      obtain ⟨P', hP', hv'⟩ := h3 v hv
      obtain ⟨u, hu, hi'⟩ := h2 P' hP'
      rw [hi.uniq (parts_move hu hi' hv')]; exact hP'
theorem r_components : ∀ (ds : List D) (Qt : D → Prop) (Et : WQ), ds.length = 1 → S_components ds Qt Et → t_components { nx := fun _ => Qt .none, rt := fun d _ => Qt d } (fun nm _ => Et nm) (ent false 1 ds) := by
  rintro ds Qt Et - ⟨n, L, rfl, hg, n0, hn, h⟩
  simp_all only [t_components]
  refine ⟨by omega, by omega, n, L, rg 0 n, rfl, hg, hn, by rw [rg_len]; omega, fun w hw => mem_rg.mp hw, fun Ps hPs => ?_⟩
  simp_all only [emb_row.imAll]
  exact h Ps hPs
theorem parts_one {L : List (Int × Int)} {ms : List Int} {n : Int} {Ps : List (List Int)} (hm : ∀ w ∈ ms, 0 ≤ w ∧ w < n) (h : IsParts L ms Ps) : Ps.length = 1 ↔ Conn L ms := by
  constructor
  · intro hl
    obtain ⟨P, rfl⟩ := List.length_eq_one_iff.mp hl
    obtain ⟨v, hv, hi⟩ := (h.2 P).mp (by simp)
    refine conn_head hv fun w hw => ?_
    obtain ⟨P', hi'⟩ := part_ex (R := Adj L) (ms := ms) (hm w hw) hm
    have : P' ∈ [P] := (h.2 P').mpr ⟨w, hw, hi'⟩
    rw [List.mem_singleton.mp this] at hi'
    exact (hi.2 w).mp (parts_self hi')
  · rintro ⟨hne, hc⟩
    obtain ⟨v, hv⟩ := List.exists_mem_of_ne_nil ms hne
    obtain ⟨P, hi⟩ := part_ex (R := Adj L) (ms := ms) (hm v hv) hm
    have hP : P ∈ Ps := (h.2 P).mpr ⟨v, hv, hi⟩
    have all : ∀ P' ∈ Ps, P' = P := fun P' hP' => by
      obtain ⟨u, hu, hi'⟩ := (h.2 P').mp hP'
      exact hi'.uniq (parts_move hv hi ((hi.2 u).mpr (hc v hv u hu)))
    have hn := asc_nodup emb_row h.1
    have := nodup_len (l := Ps) (m := [P]) hn fun x hx => by rw [all x hx]; simp
    have := List.length_pos_of_mem hP
    simp at *; omega
theorem r_is_connected : ∀ (ds : List D) (Qt : D → Prop) (Et : WQ), ds.length = 2 → S_is_connected ds Qt Et → t_is_connected { nx := fun _ => Qt .none, rt := fun d _ => Qt d } (fun nm _ => Et nm) (ent false 2 ds) := by
  rintro ds Qt Et - ⟨n, L, ms, rfl, hg, hn, hl, hm, h⟩
  simp_all only [t_is_connected]
  refine ⟨n, L, ms, rfl, hg, hn, hl, hm, fun Ps hPs => ?_⟩
  simp_all only [List.length_map]
  refine h _ ?_
  rw [decide_eq_true_eq, ← parts_one hm hPs]
  omega
/-- one round of the law's reaching -/
theorem reach_end {R : Int → Int → Prop} {ms F : List Int} {v : Int} (hv : v ∈ F) (hn : F.Nodup) (hr : ∀ w ∈ F, Rch R ms v w) (hc : Clo R ms F ∨ ms.length + 1 ≤ F.length) : ∀ w, w ∈ F ↔ Rch R ms v w := fun w => by
  refine ⟨hr w, fun h => ?_⟩
  rcases hc with hc | hc
  · exact h.inClo hc hv
  · rcases h.mem with e | e
    · rw [e]; exact hv
    · refine nodup_full (l := F) (m := v :: ms) hn (fun x hx => ?_) (by rw [List.length_cons]; exact hc) w (List.mem_cons_of_mem _ e)
      rcases (hr x hx).mem with e | e
      · rw [e]; exact List.mem_cons_self
      · exact List.mem_cons_of_mem _ e
theorem r__law_reach : ∀ (ds : List D) (Qt : D → Prop) (Et : WQ), ds.length = 3 → S__law_reach ds Qt Et → t__law_reach { nx := fun _ => Qt .none, rt := fun d _ => Qt d } (fun nm _ => Et nm) (ent false 7 ds) := by
  rintro ds Qt Et - ⟨n, L, v, ms, rfl, hnd, hl, hL, h⟩
  have size : ∀ F : List Int, F.Nodup → (∀ w ∈ F, Rch (Adj L) ms v w) → F.length ≤ 1001 := fun F h1 h2 => by
    have := nodup_len (l := F) (m := v :: ms) h1 fun w hw => by
      rcases (h2 w hw).mem with e | e
      · rw [e]; exact List.mem_cons_self
      · exact List.mem_cons_of_mem _ e
    rw [List.length_cons] at this; omega
  simp_all only [t__law_reach, List.length_map]
  refine ⟨by omega, by omega, ?_⟩
  refine forL_inv (fun done τ => ∃ (F : List Int) (a b c : Option Sl), τ = [some (.fz (gD n L) false), some (.fz (.int (v)) false), some (.fz (.list (ms.map PyData.int)) false), some (.own (List.map PyData.int (F)) true), a, b, c] ∧ F.Nodup ∧ v ∈ F ∧ (∀ w ∈ F, Rch (Adj L) ms v w) ∧ (Clo (Adj L) ms F ∨ done.length + 1 ≤ F.length))
    ⟨[v], none, none, none, rfl, by simp, by simp, fun w hw => by rw [List.mem_singleton.mp hw]; exact .base, .inr (by simp)⟩ ?_ ?_
  · rintro done k rest e _ ⟨F0, a, b, c, rfl, h1, h2, h3, h4⟩ F hF
    simp_all only [g__law_reach_3, w__law_reach_3]
    refine forL_inv (fun dn τ => ∃ (N : List Int) (b c : Option Sl), τ = [some (.fz (gD n L) false), some (.fz (.int (v)) false), some (.fz (.list (ms.map PyData.int)) false), some (.own (List.map PyData.int (F0 ++ N)) true), some (.fz (.int (k)) true), b, c] ∧ (F0 ++ N).Nodup ∧ (∀ w ∈ N, Rch (Adj L) ms v w) ∧ (∀ u ∈ dn, ∀ w ∈ ms, Adj L u w → w ∈ F0 ++ N))
      ⟨[], b, c, (by first | rfl | (simp [gD] <;> repeat' (first | rfl | apply And.intro))), by simpa using h1, fun w hw => by simp at hw, fun w hw => by simp at hw⟩ ?_ ?_
    · rintro dn u rest' e' _ ⟨N, b, c, rfl, n1, n2, n3⟩ F' hF'
      have huF : u ∈ F0 := by rw [e']; simp
      have hs := size _ n1 fun x hx => (List.mem_append.mp hx).elim (h3 x) (n2 x)
      simp_all only [g__law_reach_2, w__law_reach_2]
      refine ⟨sl_le (by rw [List.length_map]; omega), ?_⟩
      refine lcL_filt (fun w : Int => w ∉ F0 ++ N ∧ Adj L u w) PyData.int (fun w hw Rn Ry hn' hy => ?_) ?_
      · simp_all only [g__law_reach_1, c__law_reach_1, e__law_reach_1]
        refine ⟨emb_int.sh _, emb_int.shL _, ?_⟩
        rw [emb_int.any]
        by_cases q : w ∈ F0 ++ N
        · simp_all only [q]
          exact hn' fun z => z.1 q
        · simp_all only [q]
          refine ⟨n, L, u, w, rfl, by omega, ?_⟩
          simp_all only [true_and]
          by_cases q2 : nrm (u, w) ∈ L
          · simp_all only [q2]
            exact hy ⟨q, q2⟩ _ trivial rfl
          · simp_all only [q2]
            exact hn' fun z => q2 z.2
      have hlf := List.length_filter_le (fun w => decide (w ∉ F0 ++ N ∧ Adj L u w)) ms
      simp_all only [List.length_map]
      refine ⟨sl_le (by omega), hF' _ ⟨N ++ ms.filter (fun w => decide (w ∉ F0 ++ N ∧ Adj L u w)), _, _, (by first | rfl | (simp [gD] <;> repeat' (first | rfl | apply And.intro))), ?_, fun w hw => ?_, fun x hx w hw hr => ?_⟩⟩
      · rw [← List.append_assoc, List.nodup_append]
        refine ⟨n1, List.Pairwise.sublist List.filter_sublist hnd, fun x hx y hy e => ?_⟩
        rw [List.mem_filter, decide_eq_true_eq] at hy
        exact hy.2.1 (e ▸ hx)
      · rcases List.mem_append.mp hw with hw | hw
        · exact n2 w hw
        · rw [List.mem_filter, decide_eq_true_eq] at hw
          exact .step (h3 u huF) hw.1 hw.2.2
      · rw [← List.append_assoc, List.mem_append]
        rcases List.mem_append.mp hx with hx | hx
        · exact .inl (n3 x hx w hw hr)
        · rw [List.mem_singleton.mp hx] at hr
          by_cases q : w ∈ F0 ++ N
          · exact .inl q
          · exact .inr (List.mem_filter.mpr ⟨hw, decide_eq_true ⟨q, hr⟩⟩)
    · rintro τ ⟨N, b, c, rfl, n1, n2, n3⟩
      refine hF _ ⟨F0 ++ N, _, _, _, rfl, n1, List.mem_append_left _ h2, fun x hx => (List.mem_append.mp hx).elim (h3 x) (n2 x), ?_⟩
      rcases h4 with h4 | h4
      · left
        have : N = [] := by
          cases N with
          | nil => rfl
          | cons x N =>
            have hx := (n2 x (by simp)).inClo h4 h2
            rw [List.nodup_append] at n1
            exact (n1.2.2 x hx x (by simp) rfl).elim
        subst this
        rw [List.append_nil]; exact h4
      · cases N with
        | nil =>
          left
          rw [List.append_nil] at n3 ⊢
          exact n3
        | cons x N =>
          right
          simp; omega
  · rintro τ ⟨F, a, b, c, rfl, h1, h2, h3, h4⟩
    have hs := size F h1 h3
    rw [rg_len] at h4
    simp_all only [true_and]
    refine ⟨Int, PyData.int, _, emb_int, F, rfl, sok_ints F, by omega, fun P hP hm => ?_⟩
    simp_all only [true_and]
    refine h P ⟨hP, fun w => ?_⟩
    rw [hm]
    exact reach_end h2 h1 h3 (h4.imp id fun z => by omega) w
theorem r__law_joined : ∀ (ds : List D) (Qt : D → Prop) (Et : WQ), ds.length = 2 → S__law_joined ds Qt Et → t__law_joined { nx := fun _ => Qt .none, rt := fun d _ => Qt d } (fun nm _ => Et nm) (ent false 2 ds) := by
  rintro ds Qt Et - ⟨n, L, ms, rfl, hnd, hl, hL, h⟩
  simp_all only [t__law_joined, List.length_map]
  cases ms with
  | nil =>
    simp_all only [true_and]
    exact h false ⟨fun z => by simp at z, fun z => (z.1 rfl).elim⟩
  | cons v ms =>
    simp_all only [true_and]
    rw [if_pos (by omega)]
    refine ⟨n, L, v, v :: ms, rfl, hnd, hl, hL, fun P hP => ?_⟩
    simp_all only [tI, List.length_map]
    refine h _ ?_
    rw [decide_eq_true_eq]
    have sub : ∀ w ∈ P, w ∈ v :: ms := fun w hw => by
      rcases ((hP.2 w).mp hw).mem with e | e
      · rw [e]; exact List.mem_cons_self
      · exact e
    constructor
    · intro e
      have := nodup_full (asc_nodup emb_int hP.1) sub (by simp only [List.length_cons]; omega)
      exact conn_head List.mem_cons_self fun w hw => (hP.2 w).mp (this w hw)
    · rintro ⟨_, hc⟩
      have a := nodup_len (asc_nodup emb_int hP.1) sub
      have b := nodup_len hnd fun w hw => (hP.2 w).mpr (hc v List.mem_cons_self w hw)
      simp only [List.length_cons] at a b ⊢
      omega
end LW

set_option maxHeartbeats 1000000
namespace LW
open PySem PySem.Spec PyProof.Rows L2 TL
local macro_rules | `(tactic| simp_all only [$xs:simpLemma,*]) => `(tactic| (try simp only [$xs,*, sSeq, sNext, sIf, sRet, sRetN, sSet, sApp, sSetL, sFor, sDrop, sRaise, sTry, sPut, sNewK, sNewT, sBreak, sCont, sUnp, gT, gTru, fTru, gNot, gAndB, gOrB, gAndV, gOrV, gNotV, gIf, gCh, TL.gTup, TL.gLst, gSl, gNoP, gP, gCall, gIsi, fIsi, tyD, gFn, gDIn, gDGet, gSortT, TL.gCons, TL.gNil, gBin, gUn, fNeg, gC, gV, rdSl, asB, asI, fAdd, fMul, fI0, fI2, fLt, fMin2, fMax2, fLen, fTuple, fList, fInt, fSorted, fIx_l, fIx_t, isOw_fz, isOw_nw, isOw_res, ex_own, ex_dK, ex_dT, String.reduceBEq, Bool.or_false, Bool.or_self, Bool.and_false, Bool.false_and, Bool.true_or, Bool.or_true, Bool.false_or, fIsN, iSeq, itD, iRg, fRg1, fRg2, tN, tTupG, tsCons, tsNil, gYes, setSl, appSl, setAt, putSl, getSl, retOk_res, retOk_int, retOk_bool, retOk_str, retOk_non, retOk_nw, retOk_ow, retOk_tupT, retOk_tup, kb_fz, kb_nw, kb_ow, kb_res, no_fz, no_nw, no_res, res_int, res_bool, res_str, res_non, res_tup, res_lst, frOk, TL.allB, ent, frzA, List.map_cons, List.map_nil, List.getElem?_cons_zero, List.getElem?_cons_succ, List.set_cons_zero, List.set_cons_succ, decide_eq_true_eq, Bool.and_true, Bool.true_and, Bool.and_self, true_and, and_true, List.cons_append, List.nil_append, List.append_nil, List.length_cons, List.length_nil, Bool.false_eq_true, Bool.not_true, Bool.not_false, reduceIte, true_or, or_true, false_or, or_false, false_and, and_false, List.replicate_succ, List.replicate_zero, reduceCtorEq, ne_eq, not_false_eq_true, implies_true, Bool.not_eq_true', decide_eq_false_iff_not, decide_true, decide_false, Nat.reduceAdd, Nat.reduceSub, Nat.reduceLT, Nat.reduceLeDiff, gLc, gLc2, wipeT, im, fMM, fLR, gIndex, sAppPop, sSetPop, sSetPop0, sMB, gMB, sSetMB, sLcPop, Bool.false_bne, Bool.false_xor, Bool.true_xor, fEq_ii, fEq_bb, fEq_ss, fEq_ll, fEq_tt, fNe_ii, fNe_bb, fNe_ss, fNe_ll, fNe_tt, fIn_l, fIn_t, fSl_l, fSl_t, cut1, fSrt, fMinD, gNotT, frOk_fz, allB_fzt, fst_fz, len_fz, sFrz, frzT, sExt, extSl, sRem, remSl, sAugI, sAug, gStar, starD, gTupS, gLstS, iEn, iEn2, itE, sDc, dcL, gDead, sTryAs, gIsE, sIns, insSl, sRev, sPopX, iRg3, fRg3, iZp, zipD, sNew1, gSortK, gCh3, toKey, getSl, iDs, im_pD, im_tI, im.imAll, im_pairs, imAll_ints, atQ0, atQ1, atQ2, atQ3, gD, popSl, sAppPop, sRetO, gFnO]))
/-! ### all subsets of a list -/
def subs {α : Type} (is : List α) : List (List α) := is.foldl (fun acc i => acc ++ acc.map fun x => x ++ [i]) [[]]
theorem subs_concat {α : Type} (is : List α) (i : α) : subs (is ++ [i]) = subs is ++ (subs is).map fun x => x ++ [i] := by
  unfold subs
  rw [List.foldl_append]; rfl
theorem mem_subs {α : Type} {is X : List α} : X ∈ subs is ↔ X.Sublist is := by
  suffices H : ∀ (js : List α) (X : List α), X ∈ subs js.reverse ↔ X.Sublist js.reverse by
    have := H is.reverse X
    rwa [List.reverse_reverse] at this
  intro js
  induction js with
  | nil => intro X; simp [subs]
  | cons j js ih =>
    intro X
    rw [List.reverse_cons, subs_concat, List.mem_append, List.mem_map, ih, List.sublist_append_iff]
    constructor
    · rintro (h | ⟨Y, hY, rfl⟩)
      · exact ⟨X, [], by simp, h, List.nil_sublist _⟩
      · exact ⟨Y, [j], rfl, (ih Y).mp hY, List.Sublist.refl _⟩
    · rintro ⟨A, B, rfl, hA, hB⟩
      cases hB with
      | cons _ h =>
        cases h
        left; simpa using hA
      | cons_cons _ h =>
        cases h
        exact .inr ⟨A, (ih A).mpr hA, rfl⟩
theorem subs_len {α : Type} (is : List α) : (subs is).length = 2 ^ is.length := by
  suffices H : ∀ js : List α, (subs js.reverse).length = 2 ^ js.length by
    have := H is.reverse
    rwa [List.reverse_reverse, List.length_reverse] at this
  intro js
  induction js with
  | nil => rfl
  | cons j js ih => rw [List.reverse_cons, subs_concat, List.length_append, List.length_map, ih, List.length_cons, Nat.pow_succ]; omega
theorem subs_len12 {α : Type} {is : List α} (h : is.length ≤ 12) : (subs is).length ≤ 4096 := by
  rw [subs_len]
  exact Nat.le_trans (Nat.pow_le_pow_right (by decide) h) (by decide)
def Hits (ms : List Int) (Bs : List (List Int)) : Prop := ∀ B ∈ Bs, ∃ v ∈ B, v ∈ ms
instance (ms : List Int) (Bs : List (List Int)) : Decidable (Hits ms Bs) := by unfold Hits; infer_instance
def Touch (L : List (Int × Int)) (a b : List Int) : Prop := ∃ u ∈ a, ∃ v ∈ b, u = v ∨ nrm (u, v) ∈ L
instance (L : List (Int × Int)) (a b : List Int) : Decidable (Touch L a b) := by unfold Touch; infer_instance
theorem Touch.symm {L : List (Int × Int)} {a b : List Int} (h : Touch L a b) : Touch L b a := by
  obtain ⟨u, hu, v, hv, h⟩ := h
  exact ⟨v, hv, u, hu, h.imp Eq.symm fun h => Adj.symm h⟩
structure Bramble (n : Int) (L : List (Int × Int)) (Bs : List (List Int)) : Prop where
  len : Bs.length ≤ 12
  part : ∀ B ∈ Bs, B.Sublist (rg 0 n) ∧ Conn L B
  touch : ∀ A ∈ Bs, ∀ B ∈ Bs, Touch L A B
def S_hits : FSp := fun ds Q _ => ∃ (ms : List Int) (Bs : List (List Int)), ds = [tI ms, .tuple (Bs.map tI)] ∧ ms.length ≤ 1000 ∧ Bs.length ≤ 1000 ∧ Q (.bool (decide (Hits ms Bs)))
def S__law_hits : FSp := fun ds Q _ => ∃ (ms : List Int) (Bs : List (List Int)), ds = [tI ms, .tuple (Bs.map tI)] ∧ Bs.length ≤ 1000 ∧ (∀ B ∈ Bs, B.length ≤ 1000) ∧ Q (.bool (decide (Hits ms Bs)))
def S_touch : FSp := fun ds Q _ => ∃ (n : Int) (L : List (Int × Int)) (a b : List Int), ds = [gD n L, tI a, tI b] ∧ Gr n L ∧ n ≤ 60 ∧ (∀ u ∈ a, 0 ≤ u ∧ u < n) ∧ (∀ u ∈ b, 0 ≤ u ∧ u < n) ∧ Q (.bool (decide (Touch L a b)))
def S__law_touch : FSp := fun ds Q _ => ∃ (n : Int) (L : List (Int × Int)) (a b : List Int), ds = [gD n L, tI a, tI b] ∧ L.length ≤ 100000 ∧ b.length ≤ 1000 ∧ Q (.bool (decide (Touch L a b)))
def S__law_subsets : FSp := fun ds Q _ => ∃ is : List Int, ds = [.list (iDs is)] ∧ is.length ≤ 12 ∧ Q (.list ((subs is).map tI))
def S__law_drawn_bramble : FSp := fun ds Q _ => ∃ (n : Int) (L : List (Int × Int)), ds = [gD n L] ∧ Gr n L ∧ 1 ≤ n ∧ n ≤ 12 ∧ ∀ Bs, Bramble n L Bs → Q (.tuple (Bs.map tI))
/- hits: 0 members, 1 bramble, 2 v, 3 part -/
def g_hits_1 : TGt := tN 2
def e_hits_1 : TX := gV 2
def c_hits_1 : TXb := gT (gBin (fIn false) (gV 2) (gV 3))
def g_hits_2 : TGt := tN 3
def e_hits_2 : TX := gBin fNe (gLc (iSeq (gV 0)) g_hits_1 c_hits_1 e_hits_1 [2]) (gLst (gNil))
def t_hits : TSt := sRet (gCall fAll (gCons (gLc (iSeq (gV 1)) g_hits_2 gYes e_hits_2 [3]) (gNil)))
/- _law_hits: 0 _law_members, 1 _law_bramble, 2 _law_part, 3 _law_v -/
def g__law_hits_1 : TGt := tN 3
def e__law_hits_1 : TX := gV 3
def c__law_hits_1 : TXb := gT (gBin (fIn false) (gV 3) (gV 0))
def g__law_hits_2 : TGt := tN 2
def e__law_hits_2 : TX := gV 2
def c__law_hits_2 : TXb := gT (gBin fEq (gCall fLen (gCons (gLc (iSeq (gV 2)) g__law_hits_1 c__law_hits_1 e__law_hits_1 [3]) (gNil))) (gC (.int 0)))
def t__law_hits : TSt := sRet (gBin fEq (gCall fLen (gCons (gLc (iSeq (gV 1)) g__law_hits_2 c__law_hits_2 e__law_hits_2 [2]) (gNil))) (gC (.int 0)))
/- touch: 0 graph, 1 first, 2 second, 3 u, 4 v -/
def g_touch_1 : TGt := tN 4
def e_touch_1 : TX := gV 4
def c_touch_1 : TXb := gT (gBin (fIn false) (gV 4) (gV 2))
def g_touch_2 : TGt := tN 3
def w_touch_2 : TSt := sIf (gOrB (gT (gBin (fIn false) (gV 3) (gV 2))) (gTru (gLc (iSeq (gFn S_neighbours (gCons (gV 0) (gCons (gV 3) (gNil))))) g_touch_1 c_touch_1 e_touch_1 [4]))) (sRet (gC (.bool true))) (sNext)
def t_touch : TSt := sSeq (sFor (iSeq (gV 1)) g_touch_2 w_touch_2) (sRet (gC (.bool false)))
/- _law_touch: 0 _law_graph_here, 1 _law_one, 2 _law_two, 3 _law_u, 4 _law_v -/
def g__law_touch_1 : TGt := tN 4
def e__law_touch_1 : TX := gV 4
def c__law_touch_1 : TXb := gOrB (gT (gBin fEq (gV 3) (gV 4))) (gTru (gFn S__law_met (gCons (gV 0) (gCons (gV 3) (gCons (gV 4) (gNil))))))
def g__law_touch_2 : TGt := tN 3
def w__law_touch_2 : TSt := sIf (gT (gBin fGt (gCall fLen (gCons (gLc (iSeq (gV 2)) g__law_touch_1 c__law_touch_1 e__law_touch_1 [4]) (gNil))) (gC (.int 0)))) (sRet (gC (.bool true))) (sNext)
def t__law_touch : TSt := sSeq (sFor (iSeq (gV 1)) g__law_touch_2 w__law_touch_2) (sRet (gC (.bool false)))
/- _law_subsets: 0 _law_items, 1 _law_found, 2 _law_item, 3 _law_one -/
def g__law_subsets_1 : TGt := tN 3
def e__law_subsets_1 : TX := gBin fAdd (gV 3) (gTup (gCons (gV 2) (gNil)))
def g__law_subsets_2 : TGt := tN 2
def w__law_subsets_2 : TSt := sSet 1 (gBin fAdd (gV 1) (gLc (iSeq (gV 1)) g__law_subsets_1 gYes e__law_subsets_1 [3]))
def t__law_subsets : TSt := sSeq (sSet 1 (gLst (gCons (gTup (gNil)) (gNil)))) (sSeq (sFor (iSeq (gV 0)) g__law_subsets_2 w__law_subsets_2) (sRet (gV 1)))
/- _law_drawn_bramble: 0 _law_pool_here, 1 _law_graph_here, 2 _law_parts, 3 _law_one, 4 _law_found, 5 _law_k, 6 _law_part -/
def g__law_drawn_bramble_1 : TGt := tN 3
def e__law_drawn_bramble_1 : TX := gV 3
def c__law_drawn_bramble_1 : TXb := gTru (gFn S__law_joined (gCons (gV 1) (gCons (gV 3) (gNil))))
def g__law_drawn_bramble_2 : TGt := tN 3
def e__law_drawn_bramble_2 : TX := gV 3
def c__law_drawn_bramble_2 : TXb := gNot (gTru (gFn S__law_touch (gCons (gV 1) (gCons (gV 3) (gCons (gV 6) (gNil))))))
def g__law_drawn_bramble_3 : TGt := tN 5
def w__law_drawn_bramble_3 : TSt := sSeq (sSet 6 (gBin fIx (gV 2) (gFn S__law_draw (gCons (gCall fLen (gCons (gV 2) (gNil))) (gNil))))) (sIf (gAndB (gT (gBin (fIn true) (gV 6) (gV 4))) (gT (gBin fEq (gCall fLen (gCons (gLc (iSeq (gV 4)) g__law_drawn_bramble_2 c__law_drawn_bramble_2 e__law_drawn_bramble_2 [3]) (gNil))) (gC (.int 0))))) (sApp 4 (gV 6)) (sNext))
def t__law_drawn_bramble : TSt := sSeq (sSet 2 (gLc (iSeq (gFn S__law_subsets (gCons (gCall fLR (gCons (gBin fIx (gV 1) (gC (.int 0))) gNil)) (gNil)))) g__law_drawn_bramble_1 c__law_drawn_bramble_1 e__law_drawn_bramble_1 [3])) (sSeq (sSet 4 (gLst (gNil))) (sSeq (sFor (iRg (gCons (gC (.int 12)) (gNil))) g__law_drawn_bramble_3 w__law_drawn_bramble_3) (sRet (gCall fTuple (gCons (gV 4) (gNil))))))
theorem filter_pos {α : Type} {p : α → Bool} {l : List α} : 0 < (l.filter p).length ↔ ∃ x ∈ l, p x = true := by
  rw [List.length_pos_iff_exists_mem]
  simp only [List.mem_filter]
theorem filter_zero {α : Type} {p : α → Bool} {l : List α} : (l.filter p).length = 0 ↔ ∀ x ∈ l, p x = false := by
  rw [List.length_eq_zero_iff, List.filter_eq_nil_iff]
  constructor
  · intro h x hx
    have := h x hx
    cases q : p x with
    | false => rfl
    | true => exact (this q).elim
  · intro h x hx e
    rw [h x hx] at e; cases e
theorem eqv_nil (l : List D) : PyData.eqv (.list l) (.list []) = l.isEmpty := by
  cases l <;> simp [PyData.eqv, PyData.eqvAll]
theorem all_map_decide {α : Type} {p : α → Prop} [DecidablePred p] {l : List α} [Decidable (∀ x ∈ l, p x)] : (l.map fun x => decide (p x)).all id = decide (∀ x ∈ l, p x) := by
  rw [Bool.eq_iff_iff, List.all_map, List.all_eq_true, decide_eq_true_eq]
  simp
theorem r_hits : ∀ (ds : List D) (Qt : D → Prop) (Et : WQ), ds.length = 2 → S_hits ds Qt Et → t_hits { nx := fun _ => Qt .none, rt := fun d _ => Qt d } (fun nm _ => Et nm) (ent false 4 ds) := by
  rintro ds Qt Et - ⟨ms, Bs, rfl, hml, hl, h⟩
  simp_all only [t_hits]
  refine ⟨sl_le (by rw [List.length_map]; omega), ?_⟩
  refine lcL_map (f := fun B : List Int => PyData.bool (decide (∃ v ∈ B, v ∈ ms))) (fun B hB Ry hy => ?_) ?_
  · simp_all only [g_hits_2, e_hits_2, tI]
    refine ⟨sl_le (by rw [List.length_map]; omega), ?_⟩
    refine lcL_filt (fun v : Int => v ∈ B) PyData.int (fun v hv Rn Ry' hn' hy' => ?_) ?_
    · simp_all only [g_hits_1, c_hits_1, e_hits_1]
      refine ⟨emb_int.sh _, emb_int.shT B, ?_⟩
      rw [emb_int.any]
      by_cases q : v ∈ B
      · simp_all only [q]
        exact hy' q _ trivial rfl
      · simp_all only [q]
        exact hn' q
    simp_all only [true_and]
    refine ⟨emb_int.shL _, emb_int.shL [], ?_⟩
    have e : (!(PyData.list (List.map PyData.int (ms.filter fun v => decide (v ∈ B)))).eqv (PyData.list [])) = decide (∃ v ∈ B, v ∈ ms) := by
      rw [eqv_nil, List.isEmpty_map, Bool.eq_iff_iff, decide_eq_true_eq, Bool.not_eq_true', List.isEmpty_eq_false_iff]
      constructor
      · intro hne
        obtain ⟨x, hx⟩ := List.exists_mem_of_ne_nil _ hne
        rw [List.mem_filter, decide_eq_true_eq] at hx
        exact ⟨x, hx.2, hx.1⟩
      · rintro ⟨x, hx, hm⟩ e
        have : x ∈ ms.filter fun v => decide (v ∈ B) := List.mem_filter.mpr ⟨hm, decide_eq_true hx⟩
        rw [e] at this; simp at this
    rw [e]
    exact hy _ trivial rfl
  simp_all only [true_and]
  refine ⟨Bs.map fun B => decide (∃ v ∈ B, v ∈ ms), by simp [Function.comp_def], ?_⟩
  rw [all_map_decide]
  simp_all only [true_and]
  exact h
theorem r__law_hits : ∀ (ds : List D) (Qt : D → Prop) (Et : WQ), ds.length = 2 → S__law_hits ds Qt Et → t__law_hits { nx := fun _ => Qt .none, rt := fun d _ => Qt d } (fun nm _ => Et nm) (ent false 4 ds) := by
  rintro ds Qt Et - ⟨ms, Bs, rfl, hl, hbl, h⟩
  simp_all only [t__law_hits]
  refine ⟨sl_le (by rw [List.length_map]; omega), ?_⟩
  refine lcL_filt (fun B : List Int => ¬ ∃ v ∈ B, v ∈ ms) tI (fun B hB Rn Ry hn hy => ?_) ?_
  · simp_all only [g__law_hits_2, c__law_hits_2, e__law_hits_2, tI]
    have := hbl B hB
    refine ⟨sl_le (by rw [List.length_map]; omega), ?_⟩
    refine lcL_filt (fun v : Int => v ∈ ms) PyData.int (fun v hv Rn' Ry' hn' hy' => ?_) ?_
    · simp_all only [g__law_hits_1, c__law_hits_1, e__law_hits_1]
      refine ⟨emb_int.sh _, emb_int.shT ms, ?_⟩
      rw [emb_int.any]
      by_cases q : v ∈ ms
      · simp_all only [q]
        exact hy' q _ trivial rfl
      · simp_all only [q]
        exact hn' q
    simp_all only [List.length_map]
    split
    · rename_i e
      have e : (B.filter fun v => decide (v ∈ ms)).length = 0 := by omega
      rw [filter_zero] at e
      exact hy (fun ⟨v, hv, hm⟩ => by simpa [hm] using e v hv) _ trivial rfl
    · rename_i e
      refine hn fun q => e ?_
      have : (B.filter fun v => decide (v ∈ ms)).length = 0 := by
        rw [filter_zero]
        intro v hv
        exact decide_eq_false fun hm => q ⟨v, hv, hm⟩
      omega
  simp_all only [List.length_map]
  have e : decide (((Bs.filter fun B => decide (¬ ∃ v ∈ B, v ∈ ms)).length : Int) = 0) = decide (Hits ms Bs) := by
    rw [decide_eq_decide]
    have z : ((Bs.filter fun B => decide (¬ ∃ v ∈ B, v ∈ ms)).length : Int) = 0 ↔ (Bs.filter fun B => decide (¬ ∃ v ∈ B, v ∈ ms)).length = 0 := by omega
    rw [z, filter_zero]
    unfold Hits
    constructor
    · intro h B hB
      have := h B hB
      rw [decide_eq_false_iff_not] at this
      exact Classical.not_not.mp this
    · intro h B hB
      rw [decide_eq_false_iff_not]
      exact fun q => q (h B hB)
  rw [e]
  exact h
theorem r_touch : ∀ (ds : List D) (Qt : D → Prop) (Et : WQ), ds.length = 3 → S_touch ds Qt Et → t_touch { nx := fun _ => Qt .none, rt := fun d _ => Qt d } (fun nm _ => Et nm) (ent false 5 ds) := by
  rintro ds Qt Et - ⟨n, L, a, b, rfl, hg, hn, ha, hb, h⟩
  simp_all only [t_touch, tI]
  refine forL_inv (fun done τ => ∃ (x y : Option Sl), τ = [some (.fz (gD n L) false), some (.fz (.tuple (a.map PyData.int)) false), some (.fz (.tuple (b.map PyData.int)) false), x, y] ∧ ¬ ∃ u ∈ done, ∃ v ∈ b, u = v ∨ nrm (u, v) ∈ L) ⟨none, none, rfl, by simp⟩ ?_ ?_
  · rintro done u rest e _ ⟨x, y, rfl, hd⟩ F hF
    have hu := ha u (by rw [e]; simp)
    have ht : (∃ v ∈ b, u = v ∨ nrm (u, v) ∈ L) → Qt (.bool true) := fun ⟨v, hv, q⟩ => by
      have : Touch L a b := ⟨u, by rw [e]; simp, v, hv, q⟩
      simpa [this] using h
    have hf : (¬ ∃ v ∈ b, u = v ∨ nrm (u, v) ∈ L) → ∀ x y, F [some (.fz (gD n L) false), some (.fz (.tuple (a.map PyData.int)) false), some (.fz (.tuple (b.map PyData.int)) false), x, y] := fun q x y => hF _ ⟨x, y, rfl, fun ⟨w, hw, v, hv, z⟩ => by
      rcases List.mem_append.mp hw with hw | hw
      · exact hd ⟨w, hw, v, hv, z⟩
      · rw [List.mem_singleton.mp hw] at z
        exact q ⟨v, hv, z⟩⟩
    simp_all only [g_touch_2, w_touch_2]
    refine ⟨emb_int.sh _, emb_int.shT b, ?_⟩
    rw [emb_int.any]
    by_cases q : u ∈ b
    · simp_all only [q]
      exact ht ⟨u, q, .inl rfl⟩
    · simp_all only [q]
      refine ⟨n, L, u, rfl, hg, hu.1, hu.2, by omega, ?_⟩
      have hnb := nbs_len n L u
      simp_all only [true_and]
      refine ⟨sl_le (by rw [List.length_map]; omega), ?_⟩
      refine lcL_filt (fun v : Int => v ∈ b) PyData.int (fun v hv Rn' Ry' hn' hy' => ?_) ?_
      · simp_all only [g_touch_1, c_touch_1, e_touch_1]
        refine ⟨emb_int.sh _, emb_int.shT b, ?_⟩
        rw [emb_int.any]
        by_cases q : v ∈ b
        · simp_all only [q]
          exact hy' q _ trivial rfl
        · simp_all only [q]
          exact hn' q
      simp_all only [List.isEmpty_map]
      by_cases q2 : ∃ v ∈ b, nrm (u, v) ∈ L
      · rw [if_pos]
        · obtain ⟨v, hv, z⟩ := q2
          exact ht ⟨v, hv, .inr z⟩
        · obtain ⟨v, hv, z⟩ := q2
          rw [List.isEmpty_eq_false_iff]
          intro e
          have hvu : v ≠ u := fun e => by
            have := hg.2 _ z
            rw [e] at this
            unfold nrm at this; simp only at this; omega
          have : v ∈ (nbs n L u).filter fun v => decide (v ∈ b) := List.mem_filter.mpr ⟨mem_nbs.mpr ⟨hb v hv, hvu, Adj.symm z⟩, decide_eq_true hv⟩
          rw [e] at this; simp at this
      · rw [if_neg]
        · exact hf (fun ⟨v, hv, z⟩ => by
            rcases z with rfl | z
            · exact q hv
            · exact q2 ⟨v, hv, z⟩) _ _
        · rw [List.isEmpty_eq_false_iff]
          intro hne
          obtain ⟨v, hv⟩ := List.exists_mem_of_ne_nil _ hne
          rw [List.mem_filter, decide_eq_true_eq, mem_nbs] at hv
          exact q2 ⟨v, hv.2, Adj.symm hv.1.2.2⟩
  · rintro τ ⟨x, y, rfl, hd⟩
    simp_all only [true_and]
    have : ¬ Touch L a b := hd
    simpa [this] using h
theorem r__law_touch : ∀ (ds : List D) (Qt : D → Prop) (Et : WQ), ds.length = 3 → S__law_touch ds Qt Et → t__law_touch { nx := fun _ => Qt .none, rt := fun d _ => Qt d } (fun nm _ => Et nm) (ent false 5 ds) := by
  rintro ds Qt Et - ⟨n, L, a, b, rfl, hL, hbl, h⟩
  simp_all only [t__law_touch, tI]
  refine forL_inv (fun done τ => ∃ (x y : Option Sl), τ = [some (.fz (gD n L) false), some (.fz (.tuple (a.map PyData.int)) false), some (.fz (.tuple (b.map PyData.int)) false), x, y] ∧ ¬ ∃ u ∈ done, ∃ v ∈ b, u = v ∨ nrm (u, v) ∈ L) ⟨none, none, rfl, by simp⟩ ?_ ?_
  · rintro done u rest e _ ⟨x, y, rfl, hd⟩ F hF
    simp_all only [g__law_touch_2, w__law_touch_2]
    refine ⟨sl_le (by rw [List.length_map]; omega), ?_⟩
    refine lcL_filt (fun v : Int => u = v ∨ nrm (u, v) ∈ L) PyData.int (fun v hv Rn' Ry' hn' hy' => ?_) ?_
    · simp_all only [g__law_touch_1, c__law_touch_1, e__law_touch_1]
      by_cases q : u = v
      · rw [if_pos q]
        exact hy' (.inl q) _ trivial rfl
      · rw [if_neg q]
        refine ⟨n, L, u, v, rfl, hL, ?_⟩
        simp_all only [true_and]
        by_cases q2 : nrm (u, v) ∈ L
        · simp_all only [q2]
          exact hy' (.inr q2) _ trivial rfl
        · simp_all only [q2]
          exact hn' fun z => z.elim q q2
    simp_all only [List.length_map]
    split
    · rename_i hgt
      have hgt : 0 < (b.filter fun v => decide (u = v ∨ nrm (u, v) ∈ L)).length := by omega
      obtain ⟨v, hv, z⟩ := filter_pos.mp hgt
      have : Touch L a b := ⟨u, by rw [e]; simp, v, hv, of_decide_eq_true z⟩
      simpa [this] using h
    · rename_i hgt
      refine hF _ ⟨_, _, rfl, fun ⟨w, hw, v, hv, z⟩ => ?_⟩
      rcases List.mem_append.mp hw with hw | hw
      · exact hd ⟨w, hw, v, hv, z⟩
      · rw [List.mem_singleton.mp hw] at z
        refine hgt ?_
        have : 0 < (b.filter fun v => decide (u = v ∨ nrm (u, v) ∈ L)).length := filter_pos.mpr ⟨v, hv, decide_eq_true z⟩
        omega
  · rintro τ ⟨x, y, rfl, hd⟩
    simp_all only [true_and]
    have : ¬ Touch L a b := hd
    simpa [this] using h
theorem r__law_subsets : ∀ (ds : List D) (Qt : D → Prop) (Et : WQ), ds.length = 1 → S__law_subsets ds Qt Et → t__law_subsets { nx := fun _ => Qt .none, rt := fun d _ => Qt d } (fun nm _ => Et nm) (ent false 4 ds) := by
  rintro ds Qt Et - ⟨is, rfl, hl, h⟩
  simp_all only [t__law_subsets]
  refine forL_inv (fun done τ => ∃ (x y : Option Sl), τ = [some (.fz (.list (is.map PyData.int)) false), some (.own ((subs done).map tI) true), x, y]) ⟨none, none, by simp [subs, tI]⟩ ?_ ?_
  · rintro done i rest e _ ⟨x, y, rfl⟩ F hF
    have hdl : done.length ≤ 11 := by
      have := congrArg List.length e
      rw [List.length_append, List.length_cons] at this; omega
    have hs := subs_len12 (is := done) (by omega)
    have hs2 := subs_len12 (is := done ++ [i]) (by simp; omega)
    rw [subs_concat, List.length_append, List.length_map] at hs2
    simp_all only [g__law_subsets_2, w__law_subsets_2]
    refine ⟨sl_le (by rw [List.length_map]; omega), ?_⟩
    refine lcL_map (f := fun X : List Int => tI (X ++ [i])) (fun X hX Ry hy => ?_) ?_
    · have hXl := (mem_subs.mp hX).length_le
      simp_all only [g__law_subsets_1, e__law_subsets_1, tI, List.length_map]
      refine ⟨sl_le (by omega), ?_⟩
      have := hy (.fz true) trivial rfl
      simpa [tI] using this
    simp_all only [List.length_map]
    refine ⟨sl_le (by omega), hF _ ⟨_, _, (by first | rfl | (simp [gD, subs_concat, Function.comp_def] <;> repeat' (first | rfl | apply And.intro)))⟩⟩
  · rintro τ ⟨x, y, rfl⟩
    simp_all only [emb_row.imAll]
    exact h
theorem r__law_drawn_bramble : ∀ (ds : List D) (Qt : D → Prop) (Et : WQ), ds.length = 1 → S__law_drawn_bramble ds Qt Et → t__law_drawn_bramble { nx := fun _ => Qt .none, rt := fun d _ => Qt d } (fun nm _ => Et nm) (ent true 7 ds) := by
  rintro ds Qt Et - ⟨n, L, rfl, hg, n1, n2, h⟩
  have hl := gr_len hg (by omega)
  simp_all only [t__law_drawn_bramble]
  have hr : (rg 0 n).length ≤ 12 := by rw [rg_len]; omega
  refine ⟨by omega, by omega, rg 0 n, rfl, hr, ?_⟩
  have hs := subs_len12 hr
  simp_all only [true_and]
  refine ⟨sl_le (by rw [List.length_map]; omega), ?_⟩
  classical
  refine lcL_filt (fun X : List Int => Conn L X) tI (fun X hX Rn Ry hn hy => ?_) ?_
  · have hX := mem_subs.mp hX
    have hXl := hX.length_le
    simp_all only [g__law_drawn_bramble_1, c__law_drawn_bramble_1, e__law_drawn_bramble_1]
    refine ⟨n, L, X, rfl, List.Pairwise.sublist hX (asc_nodup emb_int rg_pair), by omega, by omega, fun b hb => ?_⟩
    simp_all only [true_and]
    cases b with
    | true =>
      simp_all only [true_and]
      exact hy (hb.mp rfl) _ trivial rfl
    | false =>
      simp_all only [true_and]
      exact hn fun z => by have := hb.mpr z; simp at this
  generalize hC : ((subs (rg 0 n)).filter fun X => decide (Conn L X)) = C
  have hCm : ∀ X, X ∈ C ↔ X.Sublist (rg 0 n) ∧ Conn L X := fun X => by rw [← hC, List.mem_filter, decide_eq_true_eq, mem_subs]
  have hCl : C.length ≤ 4096 := by rw [← hC]; exact Nat.le_trans (List.length_filter_le _ _) hs
  have hC0 : 0 < C.length := List.length_pos_of_mem (a := [0]) ((hCm [0]).mpr ⟨by
    rw [List.singleton_sublist, mem_rg]; omega, by simp, fun v hv w hw => by
      rw [List.mem_singleton.mp hv, List.mem_singleton.mp hw]; exact .base⟩)
  simp_all only [true_and]
  refine ⟨by decide, by decide, ?_⟩
  refine forL_inv (fun done τ => ∃ (Bs : List (List Int)) (x y z : Option Sl), τ = [none, some (.fz (gD n L) false), some (.own (C.map tI) true), x, some (.own (Bs.map tI) true), y, z] ∧ Bs.length ≤ done.length ∧ (∀ B ∈ Bs, B ∈ C) ∧ ∀ A ∈ Bs, ∀ B ∈ Bs, Touch L A B)
    ⟨[], _, _, _, rfl, by simp, fun B hB => by simp at hB, fun A hA => by simp at hA⟩ ?_ ?_
  · rintro done k rest e _ ⟨Bs, x, y, z, rfl, h1, h2, h3⟩ F hF
    have hdl := congrArg List.length e
    rw [rg_len, List.length_append, List.length_cons] at hdl
    simp_all only [g__law_drawn_bramble_3, w__law_drawn_bramble_3, List.length_map]
    refine ⟨_, rfl, by omega, by omega, fun r r0 r1 => ?_⟩
    simp_all only [true_and]
    refine atQ_map r0 r1 fun P hP => ?_
    have hPC := List.mem_of_getElem? hP
    obtain ⟨hPs, hPc⟩ := (hCm P).mp hPC
    have hPl := hPs.length_le
    simp_all only [true_and]
    refine ⟨emb_row.sh _, emb_row.shL _, ?_⟩
    rw [emb_row.any]
    by_cases q : P ∈ Bs
    · simp_all only [q]
      exact hF _ ⟨Bs, _, _, _, rfl, by simp; omega, h2, h3⟩
    · simp_all only [q]
      refine ⟨sl_le (by omega), ?_⟩
      refine lcL_filt (fun B : List Int => ¬ Touch L B P) tI (fun B hB Rn Ry hn hy => ?_) ?_
      · simp_all only [g__law_drawn_bramble_2, c__law_drawn_bramble_2, e__law_drawn_bramble_2]
        refine ⟨n, L, B, P, rfl, by omega, by omega, ?_⟩
        simp_all only [true_and]
        by_cases t : Touch L B P
        · simp_all only [t]
          exact hn fun z => z t
        · simp_all only [t]
          exact hy t _ trivial rfl
      simp_all only [List.length_map]
      split
      · rename_i e0
        have e0 : (Bs.filter fun B => decide (¬ Touch L B P)).length = 0 := by omega
        rw [filter_zero] at e0
        have ht : ∀ B ∈ Bs, Touch L B P := fun B hB => Classical.not_not.mp (of_decide_eq_false (e0 B hB))
        have hPP : Touch L P P := by
          obtain ⟨v, hv⟩ := List.exists_mem_of_ne_nil _ hPc.1
          exact ⟨v, hv, v, hv, .inl rfl⟩
        refine ⟨sl_lt (by omega), hF _ ⟨Bs ++ [P], _, _, _, (by first | rfl | (simp [gD] <;> repeat' (first | rfl | apply And.intro))), by simp; omega, fun B hB => ?_, fun A hA B hB => ?_⟩⟩
        · rcases List.mem_append.mp hB with hB | hB
          · exact h2 B hB
          · rw [List.mem_singleton.mp hB]; exact hPC
        · rcases List.mem_append.mp hA with hA | hA <;> rcases List.mem_append.mp hB with hB | hB
          · exact h3 A hA B hB
          · rw [List.mem_singleton.mp hB]; exact ht A hA
          · rw [List.mem_singleton.mp hA]; exact (ht B hB).symm
          · rw [List.mem_singleton.mp hA, List.mem_singleton.mp hB]; exact hPP
      · exact hF _ ⟨Bs, _, _, _, rfl, by simp; omega, h2, h3⟩
  · rintro τ ⟨Bs, x, y, z, rfl, h1, h2, h3⟩
    rw [rg_len] at h1
    simp_all only [emb_row.imAll]
    exact h Bs ⟨by omega, fun B hB => (hCm B).mp (h2 B hB), h3⟩
end LW

set_option maxHeartbeats 2000000
namespace LS.QK
open PySem PySem.Spec PyProof.Rows L2 TL LW
local macro_rules | `(tactic| simp_all only [$xs:simpLemma,*]) => `(tactic| (try simp only [$xs,*, sSeq, sNext, sIf, sRet, sRetN, sSet, sApp, sSetL, sFor, sDrop, sRaise, sTry, sPut, sNewK, sNewT, sBreak, sCont, sUnp, gT, gTru, fTru, gNot, gAndB, gOrB, gAndV, gOrV, gNotV, gIf, gCh, TL.gTup, TL.gLst, gSl, gNoP, gP, gCall, gIsi, fIsi, tyD, gFn, gDIn, gDGet, gSortT, TL.gCons, TL.gNil, gBin, gUn, fNeg, gC, gV, rdSl, asB, asI, fAdd, fMul, fI0, fI2, fLt, fMin2, fMax2, fLen, fTuple, fList, fInt, fSorted, fIx_l, fIx_t, isOw_fz, isOw_nw, isOw_res, ex_own, ex_dK, ex_dT, String.reduceBEq, Bool.or_false, Bool.or_self, Bool.and_false, Bool.false_and, Bool.true_or, Bool.or_true, Bool.false_or, fIsN, iSeq, itD, iRg, fRg1, fRg2, tN, tTupG, tsCons, tsNil, gYes, setSl, appSl, setAt, putSl, getSl, retOk_res, retOk_int, retOk_bool, retOk_str, retOk_non, retOk_nw, retOk_ow, retOk_tupT, retOk_tup, kb_fz, kb_nw, kb_ow, kb_res, no_fz, no_nw, no_res, res_int, res_bool, res_str, res_non, res_tup, res_lst, frOk, TL.allB, ent, frzA, List.map_cons, List.map_nil, List.getElem?_cons_zero, List.getElem?_cons_succ, List.set_cons_zero, List.set_cons_succ, decide_eq_true_eq, Bool.and_true, Bool.true_and, Bool.and_self, true_and, and_true, List.cons_append, List.nil_append, List.append_nil, List.length_cons, List.length_nil, Bool.false_eq_true, Bool.not_true, Bool.not_false, reduceIte, true_or, or_true, false_or, or_false, false_and, and_false, List.replicate_succ, List.replicate_zero, reduceCtorEq, ne_eq, not_false_eq_true, implies_true, Bool.not_eq_true', decide_eq_false_iff_not, decide_true, decide_false, Nat.reduceAdd, Nat.reduceSub, Nat.reduceLT, Nat.reduceLeDiff, gLc, gLc2, wipeT, im, fMM, fLR, gIndex, sAppPop, sSetPop, sSetPop0, sMB, gMB, sSetMB, sLcPop, Bool.false_bne, Bool.false_xor, Bool.true_xor, fEq_ii, fEq_bb, fEq_ss, fEq_ll, fEq_tt, fNe_ii, fNe_bb, fNe_ss, fNe_ll, fNe_tt, fIn_l, fIn_t, fSl_l, fSl_t, cut1, fSrt, fMinD, gNotT, frOk_fz, allB_fzt, fst_fz, len_fz, sFrz, frzT, sExt, extSl, sRem, remSl, sAugI, sAug, gStar, starD, gTupS, gLstS, iEn, iEn2, itE, sDc, dcL, gDead, sTryAs, gIsE, sIns, insSl, sRev, sPopX, iRg3, fRg3, iZp, zipD, sNew1, gSortK, gCh3, toKey, getSl, iDs, im_pD, im_tI, im.imAll, im_pairs, imAll_ints, atQ0, atQ1, atQ2, atQ3, gD, popSl, sAppPop, sRetO, gFnO]))
/- law: 0 _law_script, 1 _law_pool_here, 2 _law_graph_here, 3 _law_k, 4 _law_kind, 5 _law_value, 6 _law_j -/
def g_law_1 : TGt := tN 6
def w_law_1 : TSt := sSet 5 (gFnO (S__law_spoilt 10) (gCons (gV 5) (gCons (gC (.int 8)) (gNil))))
def z_law_2 : TSt := sSeq (sFor (iRg (gCons (gFn S__law_draw (gCons (gC (.int 3)) (gNil))) (gNil))) g_law_1 w_law_1) (sIf (gNot (gTru (gFn (S__law_same 8) (gCons (gFn S_is_question (gCons (gV 2) (gCons (gV 5) (gNil)))) (gCons (gFn S__law_due (gCons (gV 2) (gCons (gV 5) (gNil)))) (gNil)))))) (sRet (gC (.bool false))) (sNext))
def z_law_3 : TSt := sSeq (sIf (gT (gBin fEq (gV 4) (gC (.str "isomorphic")))) (sSet 5 (gTup (gCons (gV 4) (gCons (gFn S__law_graph (gCons (gC (.int 5)) (gNil))) (gNil))))) (sNext)) (z_law_2)
def z_law_4 : TSt := sSeq (sIf (gT (gBin fEq (gV 4) (gC (.str "linked")))) (sSet 5 (gTup (gCons (gV 4) (gCons (gFn S__law_draw (gCons (gBin fIx (gV 2) (gC (.int 0))) (gNil))) (gCons (gFn S__law_draw (gCons (gBin fIx (gV 2) (gC (.int 0))) (gNil))) (gCons (gFn S__law_draw (gCons (gC (.int 5)) (gNil))) (gNil))))))) (sNext)) (z_law_3)
def g_law_5 : TGt := tN 3
def w_law_5 : TSt := sSeq (sSet 4 (gBin fIx (gFn S__law_kinds (gNil)) (gFn S__law_draw (gCons (gC (.int 22)) (gNil))))) (sSeq (sSet 5 (gTup (gCons (gV 4) (gNil)))) (sSeq (sIf (gT (gBin (fIn false) (gV 4) (gSl (gFn S__law_kinds (gNil)) (gP (gC (.int 12))) (gP (gC (.int 20)))))) (sSet 5 (gTup (gCons (gV 4) (gCons (gBin fIx (gLst (gCons (gFn S__law_draw (gCons (gC (.int 9)) (gNil))) (gCons (gBin fPow (gC (.int 10)) (gC (.int 20))) (gCons (gC (.int 0)) (gNil))))) (gFn S__law_draw (gCons (gC (.int 3)) (gNil)))) (gNil))))) (sNext)) (z_law_4)))
def t_law : TSt := sSeq (sSet 2 (gFn S__law_graph (gCons (gC (.int 8)) (gNil)))) (sSeq (sIf (gNot (gTru (gFn S__law_sameM (gCons (gCall fTuple (gCons (gFn S__law_kinds (gNil)) (gNil))) (gNil))))) (sRet (gC (.bool false))) (sNext)) (sSeq (sFor (iRg (gCons (gC (.int 4)) (gNil))) g_law_5 w_law_5) (sRet (gC (.bool true)))))
theorem kind_ok : ∀ s ∈ kindQ, PyData.strOk s = true := by decide +kernel
theorem sv_str {m d : Nat} {s : Str} (h : s ∈ kindQ) : Sv m d (.str s) := sv_at (show At1 (.str s) from kind_ok s h)
theorem sv_one {m d : Nat} {s : Str} (h : s ∈ kindQ) (hm : 1 ≤ m) : Sv m (d + 1) (.tuple [.str s]) := sv_t (by simpa using hm) fun x hx => by rw [List.mem_singleton.mp hx]; exact sv_str h
theorem sv_gD {m d : Nat} {n : Int} {L : List (Int × Int)} (h : L.length ≤ m) (hm : 2 ≤ m) : Sv m (d + 3) (gD n L) := by
  refine sv_t (by simpa using hm) fun x hx => ?_
  simp only [List.mem_cons, List.not_mem_nil, or_false] at hx
  rcases hx with rfl | rfl
  · exact sv_at (show At1 (.int n) from trivial)
  · refine sv_t (by rw [List.length_map]; exact h) fun y hy => ?_
    obtain ⟨p, _, rfl⟩ := List.mem_map.mp hy
    refine sv_t (by simpa using hm) fun z hz => ?_
    simp only [List.mem_cons, List.not_mem_nil, or_false] at hz
    rcases hz with rfl | rfl
    · exact sv_at (show At1 (.int p.1) from trivial)
    · exact sv_at (show At1 (.int p.2) from trivial)
theorem lp_2 {De : EndsT} {wq : WS} {n : Int} {L : List (Int × Int)} {v : D} {b5 : Bool} {x3 x4 x6 : Option Sl} (hv : Sv 16 4 v) (hN : ∀ x5 x6, De.nx [none, none, some (.fz (gD n L) true), x3, x4, x5, x6]) : z_law_2 De wq [none, none, some (.fz (gD n L) true), x3, x4, some (.fz v b5), x6] := by
  simp_all only [z_law_2]
  refine ⟨3, rfl, by decide, by decide, fun q q0 q1 => ?_⟩
  simp_all only [true_and]
  refine ⟨by omega, by omega, ?_⟩
  refine forL_inv (fun done τ => ∃ (v : D) (m d : Nat) (b5 : Bool) (x6 : Option Sl), τ = [none, none, some (.fz (gD n L) true), x3, x4, some (.fz v b5), x6] ∧ Sv m d v ∧ m = 16 * 2 ^ done.length ∧ d = 4 + 2 * done.length) ⟨v, 16, 4, _, _, (by first | rfl | (simp [gD, gD] <;> repeat' (first | rfl | apply And.intro))), hv, rfl, rfl⟩ ?_ ?_
  · rintro done k rest eL _ ⟨v, m, d, b5, x6, rfl, hv, hm, hd⟩ F hF
    have hlen : done.length ≤ 1 := by
      have := congrArg List.length eL
      rw [rg_len, List.length_append, List.length_cons] at this; omega
    have hm2 : m ≤ 32 := by
      rcases Nat.le_one_iff_eq_zero_or_eq_one.mp hlen with e | e <;> rw [e] at hm <;> omega
    simp_all only [g_law_1, w_law_1, gD]
    refine ⟨v, m, 16 * 2 ^ (done.length + 1), d, 8, rfl, hv, by rw [Nat.pow_succ]; omega, by have := Nat.pow_pos (n := done.length + 1) (show 0 < 2 by decide); omega, show d ≤ (9 : Nat) by omega, by omega, by decide, by decide, fun v' hv' => ?_⟩
    simp_all only [true_and]
    refine hF _ ⟨v', _, _, _, _, (by first | rfl | (simp [gD, gD] <;> repeat' (first | rfl | apply And.intro))), hv', ?_, ?_⟩
    · rw [List.length_append, List.length_singleton]
    · rw [List.length_append, List.length_singleton]; omega
  · rintro τ ⟨v, m, d, b5, x6, rfl, hv, hm, hd⟩
    rw [rg_len] at hm
    have hm2 : m ≤ 64 := by
      have : (2 : Nat) ^ (q - 0).toNat ≤ 2 ^ 2 := Nat.pow_le_pow_right (by decide) (by omega)
      omega
    simp_all only [gD]
    refine ⟨n, _, v, m, d, rfl, hv, by omega, fun b1 h1 => ?_⟩
    simp_all only [true_and]
    refine ⟨n, _, v, m, d, rfl, hv, by omega, fun b2 h2 => ?_⟩
    have e12 : b1 = b2 := by
      have : b1 = true ↔ b2 = true := h1.trans h2.symm
      cases b1 <;> cases b2 <;> simp_all
    subst e12
    simp_all only [true_and]
    refine ⟨.bool b1, rfl, rfl, ?_⟩
    simp_all only [true_and]
    have := hN (some (.fz v b5)) x6
    simpa [gD] using this
theorem r_law : t_law { nx := fun _ => False, rt := fun d _ => d = .bool true } (fun _ _ => False) (List.replicate 7 none) := by
  simp_all only [t_law, List.replicate]
  refine ⟨8, rfl, by decide, by decide, fun n n1 n2 L hg => ?_⟩
  simp_all only [true_and]
  refine ⟨rfl, ?_⟩
  simp_all only [true_and]
  refine ⟨rfl, ?_⟩
  simp_all only [true_and]
  refine ⟨by decide, by decide, ?_⟩
  refine forL_inv (fun done τ => ∃ (x3 x4 x5 x6 : Option Sl), τ = [none, none, some (.fz (gD n L) true), x3, x4, x5, x6]) ⟨_, _, _, _, (by first | rfl | (simp [gD, gD] <;> repeat' (first | rfl | apply And.intro)))⟩ ?_ ?_
  · rintro done k rest e _ ⟨x3, x4, x5, x6, rfl⟩ F hF
    have fin : ∀ x3 x4 x5 x6, F [none, none, some (.fz (gD n L) true), x3, x4, x5, x6] := fun _ _ _ _ => hF _ ⟨_, _, _, _, rfl⟩
    clear hF e
    simp_all only [g_law_5, w_law_5, gD]
    refine ⟨rfl, 22, rfl, by decide, by decide, fun r r0 r1 => ?_⟩
    simp_all only [true_and]
    refine atQ_map (inj := PyData.str) (l := kindQ) r0 (by show r < ((22 : Nat) : Int); omega) fun s hs => ?_
    have hsk : s ∈ kindQ := List.mem_of_getElem? hs
    clear hs r0 r1
    simp_all only [true_and]
    refine ⟨rfl, ?_⟩
    simp_all only [k20]
    refine ⟨str_sh (kind_ok s hsk), shl_num, ?_⟩
    rw [str_any]
    by_cases p2 : s ∈ numQ
    · have d1 : ¬ s = "linked" := fun e => by subst e; exact absurd p2 (by decide +kernel)
      have d2 : ¬ s = "isomorphic" := fun e => by subst e; exact absurd p2 (by decide +kernel)
      rw [decide_eq_true p2]
      simp_all only [true_and]
      refine ⟨9, rfl, by decide, by decide, fun a a0 a1 => ?_⟩
      simp_all only [true_and]
      refine ⟨by unfold CPow; decide, 3, rfl, by decide, by decide, fun q q0 q1 => ?_⟩
      simp_all only [true_and]
      refine atQ_mem q0 (by simpa using q1) fun o ho => ?_
      obtain ⟨w, rfl⟩ : ∃ w : Int, o = .int w := by
        simp only [List.mem_cons, List.not_mem_nil, or_false] at ho
        rcases ho with rfl | rfl | rfl <;> exact ⟨_, rfl⟩
      clear ho
      simp_all only [frOk, z_law_4]
      rw [if_neg d1]
      simp_all only [z_law_3]
      rw [if_neg d2]
      refine lp_2 ?_ (fun x5 x6 => fin _ _ _ _)
      refine sv_t (by simp) fun x hx => ?_
      simp only [List.mem_cons, List.not_mem_nil, or_false] at hx
      rcases hx with rfl | rfl
      · exact sv_str hsk
      · exact sv_at (show At1 (.int w) from trivial)
    · rw [decide_eq_false p2]
      simp_all only [z_law_4]
      by_cases d1 : s = "linked"
      · have d2 : ¬ s = "isomorphic" := fun e => by rw [d1] at e; exact absurd e (by decide +kernel)
        rw [if_pos d1]
        refine ⟨n, rfl, by omega, by omega, fun a a0 a1 => ?_⟩
        simp_all only [true_and]
        refine ⟨n, rfl, by omega, by omega, fun b b0 b1 => ?_⟩
        simp_all only [true_and]
        refine ⟨5, rfl, by decide, by decide, fun c c0 c1 => ?_⟩
        simp_all only [frOk, z_law_3]
        rw [if_neg d2]
        refine lp_2 ?_ (fun x5 x6 => fin _ _ _ _)
        refine sv_t (by simp) fun x hx => ?_
        simp only [List.mem_cons, List.not_mem_nil, or_false] at hx
        rcases hx with rfl | rfl | rfl | rfl
        · exact sv_str hsk
        · exact sv_at (show At1 (.int a) from trivial)
        · exact sv_at (show At1 (.int b) from trivial)
        · exact sv_at (show At1 (.int c) from trivial)
      · rw [if_neg d1]
        simp_all only [z_law_3]
        by_cases d2 : s = "isomorphic"
        · rw [if_pos d2]
          refine ⟨5, rfl, by decide, by decide, fun n3 n4 n5 L2 hg2 => ?_⟩
          simp_all only [frOk]
          have hl2 : L2.length ≤ 10 := by
            have := nodup_len (l := L2) (m := fullE 5) (asc_nodup emb_pair hg2.1) fun p hp => full_mem.mpr (by have := hg2.2 p hp; omega)
            have e : (fullE 5).length = 10 := by decide +kernel
            omega
          refine lp_2 ?_ (fun x5 x6 => fin _ _ _ _)
          refine sv_t (by simp) fun x hx => ?_
          simp only [List.mem_cons, List.not_mem_nil, or_false] at hx
          rcases hx with rfl | rfl
          · exact sv_str hsk
          · exact sv_gD (d := 0) (by omega) (by decide)
        · rw [if_neg d2]
          refine lp_2 ?_ (fun x5 x6 => fin _ _ _ _)
          exact sv_one (d := 3) hsk (by decide)
  · rintro τ ⟨x3, x4, x5, x6, rfl⟩
    simp_all only [true_and]
end LS.QK

set_option maxHeartbeats 0
namespace HD
open PySem PySem.Spec PyProof.Rows L2 TL
def top (i : Nat) : Stmt := PySem.Challenge.pw_trellis_k13_questions.main.body.getD i (.Pass ⟨0, 0, 0, 0⟩)
def d2 : He.DefD := ⟨("is_integer", none), "is_integer", "is_integer", defArgs (top 2), defBody (top 2), defScope (top 2), [], []⟩
def d3 : He.DefD := ⟨("is_integer_tuple", none), "is_integer_tuple", "is_integer_tuple", defArgs (top 3), defBody (top 3), defScope (top 3), [], []⟩
def d4 : He.DefD := ⟨("is_ascending", none), "is_ascending", "is_ascending", defArgs (top 4), defBody (top 4), defScope (top 4), [], []⟩
def d5 : He.DefD := ⟨("is_graph", none), "is_graph", "is_graph", defArgs (top 5), defBody (top 5), defScope (top 5), [], []⟩
def d10 : He.DefD := ⟨("is_number", none), "is_number", "is_number", defArgs (top 10), defBody (top 10), defScope (top 10), [], []⟩
def d11 : He.DefD := ⟨("is_vertex", none), "is_vertex", "is_vertex", defArgs (top 11), defBody (top 11), defScope (top 11), [], []⟩
def d12 : He.DefD := ⟨("is_question", none), "is_question", "is_question", defArgs (top 12), defBody (top 12), defScope (top 12), [], []⟩
def d14 : He.DefD := ⟨("_law_pool", none), "_law_pool", "_law_pool", defArgs (top 14), defBody (top 14), defScope (top 14), [], []⟩
def d15 : He.DefD := ⟨("_law_spread", none), "_law_spread", "_law_spread", defArgs (top 15), defBody (top 15), defScope (top 15), [], []⟩
def d16 : He.DefD := ⟨("_law_draw", none), "_law_draw", "_law_draw", defArgs (top 16), defBody (top 16), defScope (top 16), [], []⟩
def d17 : He.DefD := ⟨("_law_same", none), "_law_same", "_law_same", defArgs (top 17), defBody (top 17), defScope (top 17), [], []⟩
def d18 : He.DefD := ⟨("_law_is_int", none), "_law_is_int", "_law_is_int", defArgs (top 18), defBody (top 18), defScope (top 18), [], []⟩
def d19 : He.DefD := ⟨("_law_distinct", none), "_law_distinct", "_law_distinct", defArgs (top 19), defBody (top 19), defScope (top 19), [], []⟩
def d20 : He.DefD := ⟨("_law_pairs", none), "_law_pairs", "_law_pairs", defArgs (top 20), defBody (top 20), defScope (top 20), [], []⟩
def d21 : He.DefD := ⟨("_law_of", none), "_law_of", "_law_of", defArgs (top 21), defBody (top 21), defScope (top 21), [], []⟩
def d22 : He.DefD := ⟨("_law_shuffled", none), "_law_shuffled", "_law_shuffled", defArgs (top 22), defBody (top 22), defScope (top 22), [], []⟩
def d23 : He.DefD := ⟨("_law_moved", none), "_law_moved", "_law_moved", defArgs (top 23), defBody (top 23), defScope (top 23), [], []⟩
def d24 : He.DefD := ⟨("_law_other", none), "_law_other", "_law_other", defArgs (top 24), defBody (top 24), defScope (top 24), [], []⟩
def d25 : He.DefD := ⟨("_law_random_graph", none), "_law_random_graph", "_law_random_graph", defArgs (top 25), defBody (top 25), defScope (top 25), [], []⟩
def d26 : He.DefD := ⟨("_law_interval_rows", none), "_law_interval_rows", "_law_interval_rows", defArgs (top 26), defBody (top 26), defScope (top 26), [], []⟩
def d27 : He.DefD := ⟨("_law_interval_graph", none), "_law_interval_graph", "_law_interval_graph", defArgs (top 27), defBody (top 27), defScope (top 27), [], []⟩
def d28 : He.DefD := ⟨("_law_turned_graph", none), "_law_turned_graph", "_law_turned_graph", defArgs (top 28), defBody (top 28), defScope (top 28), [], []⟩
def d29 : He.DefD := ⟨("_law_ordered_graph", none), "_law_ordered_graph", "_law_ordered_graph", defArgs (top 29), defBody (top 29), defScope (top 29), [], []⟩
def d30 : He.DefD := ⟨("_law_clique_graph", none), "_law_clique_graph", "_law_clique_graph", defArgs (top 30), defBody (top 30), defScope (top 30), [], []⟩
def d31 : He.DefD := ⟨("_law_drawn_tree", none), "_law_drawn_tree", "_law_drawn_tree", defArgs (top 31), defBody (top 31), defScope (top 31), [], []⟩
def d32 : He.DefD := ⟨("_law_leaves", none), "_law_leaves", "_law_leaves", defArgs (top 32), defBody (top 32), defScope (top 32), [], []⟩
def d33 : He.DefD := ⟨("_law_tree_pairs", none), "_law_tree_pairs", "_law_tree_pairs", defArgs (top 33), defBody (top 33), defScope (top 33), [], []⟩
def d34 : He.DefD := ⟨("_law_graph", none), "_law_graph", "_law_graph", defArgs (top 34), defBody (top 34), defScope (top 34), [], []⟩
def d35 : He.DefD := ⟨("_law_strange", none), "_law_strange", "_law_strange", defArgs (top 35), defBody (top 35), defScope (top 35), [], []⟩
def d36 : He.DefD := ⟨("_law_spoilt", none), "_law_spoilt", "_law_spoilt", defArgs (top 36), defBody (top 36), defScope (top 36), [], []⟩
def d37 : He.DefD := ⟨("_law_kinds", none), "_law_kinds", "_law_kinds", defArgs (top 37), defBody (top 37), defScope (top 37), [], []⟩
def d38 : He.DefD := ⟨("_law_ringed", none), "_law_ringed", "_law_ringed", defArgs (top 38), defBody (top 38), defScope (top 38), [], []⟩
def d39 : He.DefD := ⟨("_law_is_graph", none), "_law_is_graph", "_law_is_graph", defArgs (top 39), defBody (top 39), defScope (top 39), [], []⟩
def d40 : He.DefD := ⟨("_law_due", none), "_law_due", "_law_due", defArgs (top 40), defBody (top 40), defScope (top 40), [], []⟩
def d41 : He.DefD := ⟨("law", none), "law", "law", defArgs (top 41), defBody (top 41), defScope (top 41), [], []⟩
def fn : List He.DefD := [d2, d3, d4, d5, d10, d11, d12, d14, d15, d16, d17, d18, d19, d20, d21, d22, d23, d24, d25, d26, d27, d28, d29, d30, d31, d32, d33, d34, d35, d36, d37, d38, d39, d40, d41]
def fa : List He.Fa := [.glo "is_integer", .glo "is_integer_tuple", .glo "is_ascending", .glo "is_graph", .glo "is_number", .glo "is_vertex", .glo "is_question", .glo "_law_pool", .glo "_law_spread", .glo "_law_draw", .glo "_law_same", .glo "_law_is_int", .glo "_law_distinct", .glo "_law_pairs", .glo "_law_of", .glo "_law_shuffled", .glo "_law_moved", .glo "_law_other", .glo "_law_random_graph", .glo "_law_interval_rows", .glo "_law_interval_graph", .glo "_law_turned_graph", .glo "_law_ordered_graph", .glo "_law_clique_graph", .glo "_law_drawn_tree", .glo "_law_leaves", .glo "_law_tree_pairs", .glo "_law_graph", .glo "_law_strange", .glo "_law_spoilt", .glo "_law_kinds", .glo "_law_ringed", .glo "_law_is_graph", .glo "_law_due", .glo "law", .free "all", .free "bool", .free "int", .free "isinstance", .free "len", .free "list", .free "max", .free "min", .free "range", .free "sorted", .free "str", .free "tuple", .free "zip", .int "MOST_VERTICES" 60, .glo "KINDS", .glo "NUMBER_KINDS", .glo "PLAIN_KINDS"]
def exl (K : PySem.W.Frag) : List Bool := [tupB K "KINDS" [("connected" : Str), ("bipartite" : Str), ("forest" : Str), ("block" : Str), ("chordal" : Str), ("interval" : Str), ("cograph" : Str), ("comparability" : Str), ("permutation" : Str), ("prime" : Str), ("planar" : Str), ("outerplanar" : Str), ("degenerate" : Str), ("indegree" : Str), ("forests" : Str), ("trees" : Str), ("width" : Str), ("colours" : Str), ("independent" : Str), ("matching" : Str), ("linked" : Str), ("isomorphic" : Str)], tupB K "NUMBER_KINDS" [("degenerate" : Str), ("indegree" : Str), ("forests" : Str), ("trees" : Str), ("width" : Str), ("colours" : Str), ("independent" : Str), ("matching" : Str)], tupB K "PLAIN_KINDS" [("connected" : Str), ("bipartite" : Str), ("forest" : Str), ("block" : Str), ("chordal" : Str), ("interval" : Str), ("cograph" : Str), ("comparability" : Str), ("permutation" : Str), ("prime" : Str), ("planar" : Str), ("outerplanar" : Str)]]
def exF (K : PySem.W.Frag) : Bool := (exl K).all id
structure Ev (K : PySem.W.Frag) (mg : Str → Option Value) : Prop where
  ok : ∃ h, K.In h ∧ h.Ns mainGlobals mg ∧ He.SaysD fa fn K
  ex : exF K = true
section
variable {K : PySem.W.Frag} {mg : Str → Option Value}
theorem Ev.exAt (V : Ev K mg) (i : Nat) {b : Bool} (h : (exl K)[i]? = some b) : b = true := List.all_eq_true.mp V.ex b (List.mem_of_getElem? h)
theorem Ev.t_KINDS (V : Ev K mg) : tupB K "KINDS" [("connected" : Str), ("bipartite" : Str), ("forest" : Str), ("block" : Str), ("chordal" : Str), ("interval" : Str), ("cograph" : Str), ("comparability" : Str), ("permutation" : Str), ("prime" : Str), ("planar" : Str), ("outerplanar" : Str), ("degenerate" : Str), ("indegree" : Str), ("forests" : Str), ("trees" : Str), ("width" : Str), ("colours" : Str), ("independent" : Str), ("matching" : Str), ("linked" : Str), ("isomorphic" : Str)] = true := V.exAt 0 rfl
theorem Ev.t_NUMBER_KINDS (V : Ev K mg) : tupB K "NUMBER_KINDS" [("degenerate" : Str), ("indegree" : Str), ("forests" : Str), ("trees" : Str), ("width" : Str), ("colours" : Str), ("independent" : Str), ("matching" : Str)] = true := V.exAt 1 rfl
theorem Ev.t_PLAIN_KINDS (V : Ev K mg) : tupB K "PLAIN_KINDS" [("connected" : Str), ("bipartite" : Str), ("forest" : Str), ("block" : Str), ("chordal" : Str), ("interval" : Str), ("cograph" : Str), ("comparability" : Str), ("permutation" : Str), ("prime" : Str), ("planar" : Str), ("outerplanar" : Str)] = true := V.exAt 2 rfl
theorem Ev.g_is_integer (V : Ev K mg) : mg "is_integer" = some (.ref (He.ga K "is_integer")) := by obtain ⟨h, X, G, c⟩ := V.ok; exact He.glo_ok X G (c.fact 0 (f := .glo "is_integer") rfl)
theorem Ev.g_is_integer_tuple (V : Ev K mg) : mg "is_integer_tuple" = some (.ref (He.ga K "is_integer_tuple")) := by obtain ⟨h, X, G, c⟩ := V.ok; exact He.glo_ok X G (c.fact 1 (f := .glo "is_integer_tuple") rfl)
theorem Ev.g_is_ascending (V : Ev K mg) : mg "is_ascending" = some (.ref (He.ga K "is_ascending")) := by obtain ⟨h, X, G, c⟩ := V.ok; exact He.glo_ok X G (c.fact 2 (f := .glo "is_ascending") rfl)
theorem Ev.g_is_graph (V : Ev K mg) : mg "is_graph" = some (.ref (He.ga K "is_graph")) := by obtain ⟨h, X, G, c⟩ := V.ok; exact He.glo_ok X G (c.fact 3 (f := .glo "is_graph") rfl)
theorem Ev.g_is_number (V : Ev K mg) : mg "is_number" = some (.ref (He.ga K "is_number")) := by obtain ⟨h, X, G, c⟩ := V.ok; exact He.glo_ok X G (c.fact 4 (f := .glo "is_number") rfl)
theorem Ev.g_is_vertex (V : Ev K mg) : mg "is_vertex" = some (.ref (He.ga K "is_vertex")) := by obtain ⟨h, X, G, c⟩ := V.ok; exact He.glo_ok X G (c.fact 5 (f := .glo "is_vertex") rfl)
theorem Ev.g_is_question (V : Ev K mg) : mg "is_question" = some (.ref (He.ga K "is_question")) := by obtain ⟨h, X, G, c⟩ := V.ok; exact He.glo_ok X G (c.fact 6 (f := .glo "is_question") rfl)
theorem Ev.g__law_pool (V : Ev K mg) : mg "_law_pool" = some (.ref (He.ga K "_law_pool")) := by obtain ⟨h, X, G, c⟩ := V.ok; exact He.glo_ok X G (c.fact 7 (f := .glo "_law_pool") rfl)
theorem Ev.g__law_spread (V : Ev K mg) : mg "_law_spread" = some (.ref (He.ga K "_law_spread")) := by obtain ⟨h, X, G, c⟩ := V.ok; exact He.glo_ok X G (c.fact 8 (f := .glo "_law_spread") rfl)
theorem Ev.g__law_draw (V : Ev K mg) : mg "_law_draw" = some (.ref (He.ga K "_law_draw")) := by obtain ⟨h, X, G, c⟩ := V.ok; exact He.glo_ok X G (c.fact 9 (f := .glo "_law_draw") rfl)
theorem Ev.g__law_same (V : Ev K mg) : mg "_law_same" = some (.ref (He.ga K "_law_same")) := by obtain ⟨h, X, G, c⟩ := V.ok; exact He.glo_ok X G (c.fact 10 (f := .glo "_law_same") rfl)
theorem Ev.g__law_is_int (V : Ev K mg) : mg "_law_is_int" = some (.ref (He.ga K "_law_is_int")) := by obtain ⟨h, X, G, c⟩ := V.ok; exact He.glo_ok X G (c.fact 11 (f := .glo "_law_is_int") rfl)
theorem Ev.g__law_distinct (V : Ev K mg) : mg "_law_distinct" = some (.ref (He.ga K "_law_distinct")) := by obtain ⟨h, X, G, c⟩ := V.ok; exact He.glo_ok X G (c.fact 12 (f := .glo "_law_distinct") rfl)
theorem Ev.g__law_pairs (V : Ev K mg) : mg "_law_pairs" = some (.ref (He.ga K "_law_pairs")) := by obtain ⟨h, X, G, c⟩ := V.ok; exact He.glo_ok X G (c.fact 13 (f := .glo "_law_pairs") rfl)
theorem Ev.g__law_of (V : Ev K mg) : mg "_law_of" = some (.ref (He.ga K "_law_of")) := by obtain ⟨h, X, G, c⟩ := V.ok; exact He.glo_ok X G (c.fact 14 (f := .glo "_law_of") rfl)
theorem Ev.g__law_shuffled (V : Ev K mg) : mg "_law_shuffled" = some (.ref (He.ga K "_law_shuffled")) := by obtain ⟨h, X, G, c⟩ := V.ok; exact He.glo_ok X G (c.fact 15 (f := .glo "_law_shuffled") rfl)
theorem Ev.g__law_moved (V : Ev K mg) : mg "_law_moved" = some (.ref (He.ga K "_law_moved")) := by obtain ⟨h, X, G, c⟩ := V.ok; exact He.glo_ok X G (c.fact 16 (f := .glo "_law_moved") rfl)
theorem Ev.g__law_other (V : Ev K mg) : mg "_law_other" = some (.ref (He.ga K "_law_other")) := by obtain ⟨h, X, G, c⟩ := V.ok; exact He.glo_ok X G (c.fact 17 (f := .glo "_law_other") rfl)
theorem Ev.g__law_random_graph (V : Ev K mg) : mg "_law_random_graph" = some (.ref (He.ga K "_law_random_graph")) := by obtain ⟨h, X, G, c⟩ := V.ok; exact He.glo_ok X G (c.fact 18 (f := .glo "_law_random_graph") rfl)
theorem Ev.g__law_interval_rows (V : Ev K mg) : mg "_law_interval_rows" = some (.ref (He.ga K "_law_interval_rows")) := by obtain ⟨h, X, G, c⟩ := V.ok; exact He.glo_ok X G (c.fact 19 (f := .glo "_law_interval_rows") rfl)
theorem Ev.g__law_interval_graph (V : Ev K mg) : mg "_law_interval_graph" = some (.ref (He.ga K "_law_interval_graph")) := by obtain ⟨h, X, G, c⟩ := V.ok; exact He.glo_ok X G (c.fact 20 (f := .glo "_law_interval_graph") rfl)
theorem Ev.g__law_turned_graph (V : Ev K mg) : mg "_law_turned_graph" = some (.ref (He.ga K "_law_turned_graph")) := by obtain ⟨h, X, G, c⟩ := V.ok; exact He.glo_ok X G (c.fact 21 (f := .glo "_law_turned_graph") rfl)
theorem Ev.g__law_ordered_graph (V : Ev K mg) : mg "_law_ordered_graph" = some (.ref (He.ga K "_law_ordered_graph")) := by obtain ⟨h, X, G, c⟩ := V.ok; exact He.glo_ok X G (c.fact 22 (f := .glo "_law_ordered_graph") rfl)
theorem Ev.g__law_clique_graph (V : Ev K mg) : mg "_law_clique_graph" = some (.ref (He.ga K "_law_clique_graph")) := by obtain ⟨h, X, G, c⟩ := V.ok; exact He.glo_ok X G (c.fact 23 (f := .glo "_law_clique_graph") rfl)
theorem Ev.g__law_drawn_tree (V : Ev K mg) : mg "_law_drawn_tree" = some (.ref (He.ga K "_law_drawn_tree")) := by obtain ⟨h, X, G, c⟩ := V.ok; exact He.glo_ok X G (c.fact 24 (f := .glo "_law_drawn_tree") rfl)
theorem Ev.g__law_leaves (V : Ev K mg) : mg "_law_leaves" = some (.ref (He.ga K "_law_leaves")) := by obtain ⟨h, X, G, c⟩ := V.ok; exact He.glo_ok X G (c.fact 25 (f := .glo "_law_leaves") rfl)
theorem Ev.g__law_tree_pairs (V : Ev K mg) : mg "_law_tree_pairs" = some (.ref (He.ga K "_law_tree_pairs")) := by obtain ⟨h, X, G, c⟩ := V.ok; exact He.glo_ok X G (c.fact 26 (f := .glo "_law_tree_pairs") rfl)
theorem Ev.g__law_graph (V : Ev K mg) : mg "_law_graph" = some (.ref (He.ga K "_law_graph")) := by obtain ⟨h, X, G, c⟩ := V.ok; exact He.glo_ok X G (c.fact 27 (f := .glo "_law_graph") rfl)
theorem Ev.g__law_strange (V : Ev K mg) : mg "_law_strange" = some (.ref (He.ga K "_law_strange")) := by obtain ⟨h, X, G, c⟩ := V.ok; exact He.glo_ok X G (c.fact 28 (f := .glo "_law_strange") rfl)
theorem Ev.g__law_spoilt (V : Ev K mg) : mg "_law_spoilt" = some (.ref (He.ga K "_law_spoilt")) := by obtain ⟨h, X, G, c⟩ := V.ok; exact He.glo_ok X G (c.fact 29 (f := .glo "_law_spoilt") rfl)
theorem Ev.g__law_kinds (V : Ev K mg) : mg "_law_kinds" = some (.ref (He.ga K "_law_kinds")) := by obtain ⟨h, X, G, c⟩ := V.ok; exact He.glo_ok X G (c.fact 30 (f := .glo "_law_kinds") rfl)
theorem Ev.g__law_ringed (V : Ev K mg) : mg "_law_ringed" = some (.ref (He.ga K "_law_ringed")) := by obtain ⟨h, X, G, c⟩ := V.ok; exact He.glo_ok X G (c.fact 31 (f := .glo "_law_ringed") rfl)
theorem Ev.g__law_is_graph (V : Ev K mg) : mg "_law_is_graph" = some (.ref (He.ga K "_law_is_graph")) := by obtain ⟨h, X, G, c⟩ := V.ok; exact He.glo_ok X G (c.fact 32 (f := .glo "_law_is_graph") rfl)
theorem Ev.g__law_due (V : Ev K mg) : mg "_law_due" = some (.ref (He.ga K "_law_due")) := by obtain ⟨h, X, G, c⟩ := V.ok; exact He.glo_ok X G (c.fact 33 (f := .glo "_law_due") rfl)
theorem Ev.g_law (V : Ev K mg) : mg "law" = some (.ref (He.ga K "law")) := by obtain ⟨h, X, G, c⟩ := V.ok; exact He.glo_ok X G (c.fact 34 (f := .glo "law") rfl)
theorem Ev.f_all (V : Ev K mg) : mg "all" = none := by obtain ⟨h, X, G, c⟩ := V.ok; exact He.free_ok X G (c.fact 35 (f := .free "all") rfl)
theorem Ev.f_bool (V : Ev K mg) : mg "bool" = none := by obtain ⟨h, X, G, c⟩ := V.ok; exact He.free_ok X G (c.fact 36 (f := .free "bool") rfl)
theorem Ev.f_int (V : Ev K mg) : mg "int" = none := by obtain ⟨h, X, G, c⟩ := V.ok; exact He.free_ok X G (c.fact 37 (f := .free "int") rfl)
theorem Ev.f_isinstance (V : Ev K mg) : mg "isinstance" = none := by obtain ⟨h, X, G, c⟩ := V.ok; exact He.free_ok X G (c.fact 38 (f := .free "isinstance") rfl)
theorem Ev.f_len (V : Ev K mg) : mg "len" = none := by obtain ⟨h, X, G, c⟩ := V.ok; exact He.free_ok X G (c.fact 39 (f := .free "len") rfl)
theorem Ev.f_list (V : Ev K mg) : mg "list" = none := by obtain ⟨h, X, G, c⟩ := V.ok; exact He.free_ok X G (c.fact 40 (f := .free "list") rfl)
theorem Ev.f_max (V : Ev K mg) : mg "max" = none := by obtain ⟨h, X, G, c⟩ := V.ok; exact He.free_ok X G (c.fact 41 (f := .free "max") rfl)
theorem Ev.f_min (V : Ev K mg) : mg "min" = none := by obtain ⟨h, X, G, c⟩ := V.ok; exact He.free_ok X G (c.fact 42 (f := .free "min") rfl)
theorem Ev.f_range (V : Ev K mg) : mg "range" = none := by obtain ⟨h, X, G, c⟩ := V.ok; exact He.free_ok X G (c.fact 43 (f := .free "range") rfl)
theorem Ev.f_sorted (V : Ev K mg) : mg "sorted" = none := by obtain ⟨h, X, G, c⟩ := V.ok; exact He.free_ok X G (c.fact 44 (f := .free "sorted") rfl)
theorem Ev.f_str (V : Ev K mg) : mg "str" = none := by obtain ⟨h, X, G, c⟩ := V.ok; exact He.free_ok X G (c.fact 45 (f := .free "str") rfl)
theorem Ev.f_tuple (V : Ev K mg) : mg "tuple" = none := by obtain ⟨h, X, G, c⟩ := V.ok; exact He.free_ok X G (c.fact 46 (f := .free "tuple") rfl)
theorem Ev.f_zip (V : Ev K mg) : mg "zip" = none := by obtain ⟨h, X, G, c⟩ := V.ok; exact He.free_ok X G (c.fact 47 (f := .free "zip") rfl)
theorem Ev.c_MOST_VERTICES (V : Ev K mg) : ∃ t, mg "MOST_VERTICES" = some (.int 60 t) := by obtain ⟨h, X, G, c⟩ := V.ok; exact He.int_ok X G (c.fact 48 (f := .int "MOST_VERTICES" 60) rfl)
theorem Ev.g_KINDS (V : Ev K mg) : mg "KINDS" = some (.ref (He.ga K "KINDS")) := by obtain ⟨h, X, G, c⟩ := V.ok; exact He.glo_ok X G (c.fact 49 (f := .glo "KINDS") rfl)
theorem Ev.g_NUMBER_KINDS (V : Ev K mg) : mg "NUMBER_KINDS" = some (.ref (He.ga K "NUMBER_KINDS")) := by obtain ⟨h, X, G, c⟩ := V.ok; exact He.glo_ok X G (c.fact 50 (f := .glo "NUMBER_KINDS") rfl)
theorem Ev.g_PLAIN_KINDS (V : Ev K mg) : mg "PLAIN_KINDS" = some (.ref (He.ga K "PLAIN_KINDS")) := by obtain ⟨h, X, G, c⟩ := V.ok; exact He.glo_ok X G (c.fact 51 (f := .glo "PLAIN_KINDS") rfl)
end
abbrev N2 : List Str := ["value"]
theorem sc2 : FnScope N2 ["value"] (defScope (top 2)) := ⟨rfl, rfl, rfl, by decide +kernel, rfl, by decide +kernel, by decide +kernel⟩
abbrev N3 : List Str := ["value", "item"]
theorem sc3 : FnScope N3 ["value"] (defScope (top 3)) := ⟨rfl, rfl, rfl, by decide +kernel, rfl, by decide +kernel, by decide +kernel⟩
abbrev N4 : List Str := ["items", "first", "second"]
theorem sc4 : FnScope N4 ["items"] (defScope (top 4)) := ⟨rfl, rfl, rfl, by decide +kernel, rfl, by decide +kernel, by decide +kernel⟩
abbrev N5 : List Str := ["value", "n", "edges", "edge"]
theorem sc5 : FnScope N5 ["value"] (defScope (top 5)) := ⟨rfl, rfl, rfl, by decide +kernel, rfl, by decide +kernel, by decide +kernel⟩
abbrev N10 : List Str := ["value"]
theorem sc10 : FnScope N10 ["value"] (defScope (top 10)) := ⟨rfl, rfl, rfl, by decide +kernel, rfl, by decide +kernel, by decide +kernel⟩
abbrev N11 : List Str := ["graph", "value"]
theorem sc11 : FnScope N11 ["graph", "value"] (defScope (top 11)) := ⟨rfl, rfl, rfl, by decide +kernel, rfl, by decide +kernel, by decide +kernel⟩
abbrev N12 : List Str := ["graph", "value", "kind", "_", "s", "t", "k"]
theorem sc12 : FnScope N12 ["graph", "value"] (defScope (top 12)) := ⟨rfl, rfl, rfl, by decide +kernel, rfl, by decide +kernel, by decide +kernel⟩
abbrev N14 : List Str := ["_law_script", "_law_salt", "_law_cell"]
abbrev N15 : List Str := ["_law_cell", "_law_mixed", "_law_total", "_law_k"]
theorem sc15 : FnScope N15 ["_law_cell"] (defScope (top 15)) := ⟨rfl, rfl, rfl, by decide +kernel, rfl, by decide +kernel, by decide +kernel⟩
abbrev N16 : List Str := ["_law_pool_here", "_law_many", "_law_cell", "_law_mixed", "_law_value"]
theorem sc16 : FnScope N16 ["_law_pool_here", "_law_many"] (defScope (top 16)) := ⟨rfl, rfl, rfl, by decide +kernel, rfl, by decide +kernel, by decide +kernel⟩
abbrev N17 : List Str := ["_law_actual", "_law_due_here", "_law_k"]
theorem sc17 : FnScope N17 ["_law_actual", "_law_due_here"] (defScope (top 17)) := ⟨rfl, rfl, rfl, by decide +kernel, rfl, by decide +kernel, by decide +kernel⟩
abbrev N18 : List Str := ["_law_x"]
theorem sc18 : FnScope N18 ["_law_x"] (defScope (top 18)) := ⟨rfl, rfl, rfl, by decide +kernel, rfl, by decide +kernel, by decide +kernel⟩
abbrev N19 : List Str := ["_law_rows", "_law_found", "_law_row"]
theorem sc19 : FnScope N19 ["_law_rows"] (defScope (top 19)) := ⟨rfl, rfl, rfl, by decide +kernel, rfl, by decide +kernel, by decide +kernel⟩
abbrev N20 : List Str := ["_law_n", "_law_found", "_law_u", "_law_v"]
theorem sc20 : FnScope N20 ["_law_n"] (defScope (top 20)) := ⟨rfl, rfl, rfl, by decide +kernel, rfl, by decide +kernel, by decide +kernel⟩
abbrev N21 : List Str := ["_law_n", "_law_pairs_here", "_law_pair"]
theorem sc21 : FnScope N21 ["_law_n", "_law_pairs_here"] (defScope (top 21)) := ⟨rfl, rfl, rfl, by decide +kernel, rfl, by decide +kernel, by decide +kernel⟩
abbrev N22 : List Str := ["_law_pool_here", "_law_items", "_law_rest", "_law_found", "_law_k"]
theorem sc22 : FnScope N22 ["_law_pool_here", "_law_items"] (defScope (top 22)) := ⟨rfl, rfl, rfl, by decide +kernel, rfl, by decide +kernel, by decide +kernel⟩
abbrev N23 : List Str := ["_law_graph_here", "_law_order", "_law_pair"]
theorem sc23 : FnScope N23 ["_law_graph_here", "_law_order"] (defScope (top 23)) := ⟨rfl, rfl, rfl, by decide +kernel, rfl, by decide +kernel, by decide +kernel⟩
abbrev N24 : List Str := ["_law_graph_here", "_law_pair"]
theorem sc24 : FnScope N24 ["_law_graph_here"] (defScope (top 24)) := ⟨rfl, rfl, rfl, by decide +kernel, rfl, by decide +kernel, by decide +kernel⟩
abbrev N25 : List Str := ["_law_pool_here", "_law_most", "_law_n", "_law_dense", "_law_pair"]
theorem sc25 : FnScope N25 ["_law_pool_here", "_law_most"] (defScope (top 25)) := ⟨rfl, rfl, rfl, by decide +kernel, rfl, by decide +kernel, by decide +kernel⟩
abbrev N26 : List Str := ["_law_pool_here", "_law_n", "_law_rows", "_law_k", "_law_start"]
theorem sc26 : FnScope N26 ["_law_pool_here", "_law_n"] (defScope (top 26)) := ⟨rfl, rfl, rfl, by decide +kernel, rfl, by decide +kernel, by decide +kernel⟩
abbrev N27 : List Str := ["_law_rows", "_law_pair"]
theorem sc27 : FnScope N27 ["_law_rows"] (defScope (top 27)) := ⟨rfl, rfl, rfl, by decide +kernel, rfl, by decide +kernel, by decide +kernel⟩
abbrev N28 : List Str := ["_law_one", "_law_two", "_law_first", "_law_second", "_law_found", "_law_u", "_law_v"]
theorem sc28 : FnScope N28 ["_law_one", "_law_two"] (defScope (top 28)) := ⟨rfl, rfl, rfl, by decide +kernel, rfl, by decide +kernel, by decide +kernel⟩
abbrev N29 : List Str := ["_law_pool_here", "_law_n", "_law_above", "_law_v", "_law_u", "_law_w", "_law_pair"]
theorem sc29 : FnScope N29 ["_law_pool_here", "_law_n"] (defScope (top 29)) := ⟨rfl, rfl, rfl, by decide +kernel, rfl, by decide +kernel, by decide +kernel⟩
abbrev N30 : List Str := ["_law_pool_here", "_law_n", "_law_cliques", "_law_pairs_here", "_law_v", "_law_base", "_law_kept", "_law_u"]
theorem sc30 : FnScope N30 ["_law_pool_here", "_law_n"] (defScope (top 30)) := ⟨rfl, rfl, rfl, by decide +kernel, rfl, by decide +kernel, by decide +kernel⟩
abbrev N31 : List Str := ["_law_pool_here", "_law_leaves_here", "_law_trees", "_law_k", "_law_many", "_law_parts", "_law_j"]
theorem sc31 : FnScope N31 ["_law_pool_here", "_law_leaves_here"] (defScope (top 31)) := ⟨rfl, rfl, rfl, by decide +kernel, rfl, by decide +kernel, by decide +kernel⟩
abbrev N32 : List Str := ["_law_tree", "_law_found", "_law_part"]
theorem sc32 : FnScope N32 ["_law_tree"] (defScope (top 32)) := ⟨rfl, rfl, rfl, by decide +kernel, rfl, by decide +kernel, by decide +kernel⟩
abbrev N33 : List Str := ["_law_tree", "_law_found", "_law_before", "_law_part", "_law_leaves_here", "_law_u", "_law_v"]
theorem sc33 : FnScope N33 ["_law_tree"] (defScope (top 33)) := ⟨rfl, rfl, rfl, by decide +kernel, rfl, by decide +kernel, by decide +kernel⟩
abbrev N34 : List Str := ["_law_pool_here", "_law_most", "_law_way", "_law_n", "_law_graph_here"]
theorem sc34 : FnScope N34 ["_law_pool_here", "_law_most"] (defScope (top 34)) := ⟨rfl, rfl, rfl, by decide +kernel, rfl, by decide +kernel, by decide +kernel⟩
abbrev N35 : List Str := ["_law_pool_here", "_law_value", "_law_n", "_law_rows"]
theorem sc35 : FnScope N35 ["_law_pool_here", "_law_value", "_law_n"] (defScope (top 35)) := ⟨rfl, rfl, rfl, by decide +kernel, rfl, by decide +kernel, by decide +kernel⟩
abbrev N36 : List Str := ["_law_pool_here", "_law_value", "_law_n", "_law_at", "_law_way"]
theorem sc36 : FnScope N36 ["_law_pool_here", "_law_value", "_law_n"] (defScope (top 36)) := ⟨rfl, rfl, rfl, by decide +kernel, rfl, by decide +kernel, by decide +kernel⟩
abbrev N37 : List Str := ["_law_found"]
theorem sc37 : FnScope N37 [] (defScope (top 37)) := ⟨rfl, rfl, rfl, by decide +kernel, rfl, by decide +kernel, by decide +kernel⟩
abbrev N38 : List Str := ["_law_pool_here", "_law_n", "_law_m", "_law_pairs_here", "_law_k", "_law_v", "_law_u"]
theorem sc38 : FnScope N38 ["_law_pool_here", "_law_n"] (defScope (top 38)) := ⟨rfl, rfl, rfl, by decide +kernel, rfl, by decide +kernel, by decide +kernel⟩
abbrev N39 : List Str := ["_law_value", "_law_pair"]
theorem sc39 : FnScope N39 ["_law_value"] (defScope (top 39)) := ⟨rfl, rfl, rfl, by decide +kernel, rfl, by decide +kernel, by decide +kernel⟩
abbrev N40 : List Str := ["_law_graph_here", "_law_value", "_law_item"]
theorem sc40 : FnScope N40 ["_law_graph_here", "_law_value"] (defScope (top 40)) := ⟨rfl, rfl, rfl, by decide +kernel, rfl, by decide +kernel, by decide +kernel⟩
abbrev N41 : List Str := ["_law_script", "_law_pool_here", "_law_graph_here", "_law_k", "_law_kind", "_law_value", "_law_j"]
theorem sc41 : FnScope N41 ["_law_script"] (defScope (top 41)) := ⟨rfl, rfl, rfl, by decide +kernel, rfl, by decide +kernel, by decide +kernel⟩
theorem sc14 : FnScope poolN ["_law_script"] (defScope (top 14)) := ⟨rfl, rfl, rfl, by decide +kernel, rfl, by decide +kernel, by decide +kernel⟩
end HD

set_option maxHeartbeats 0
namespace LS.QK
open PySem PySem.Spec PyProof.Rows L2 TL LW HD
theorem b_is_integer {P : Program} {w : World} {K : PySem.W.Frag} {mg : Str → Option Value} {base : Heap} {f : Addr} {cd : Value} {A : Around} {outer : List Env} {s : Shared} {H : Hp} {E : XK} {p pq : Addr} (V : HD.Ev K mg) (hr : Room 0 (A.deeper (envOfC "is_integer" (defScope (top 2)) s.heap.objs.size f cd))) :
    GSs (cxD P w K mg base N2 "is_integer" (defScope (top 2)) f cd A outer s H E) ⟨H, none, 0, pq, fun a => (none : Option Addr) ≠ some a, RR K H⟩ (WD E) (defBody (top 2)) t_is_integer := by
  have hu := HU.of hr
  have Sc := sc2
  have tk : Takes (cxD P w K mg base N2 "is_integer" (defScope (top 2)) f cd A outer s H E) (WD E) := takesD
  have hpo := poD (P := P) (w := w) (K := K) (mg := mg) (base := base) (N := N2) (qual := "is_integer") (scope := defScope (top 2)) (f := f) (cd := cd) (A := A) (outer := outer) (s := s) (H := H) (E := E)
  exact (gss_one (gs_ret (ge_and' (ge_isi kit_int V.f_isinstance V.f_int (by decide +kernel) (ge_var 0)) (ge_one (ge_not (ge_isi kit_bool V.f_isinstance V.f_bool (by decide +kernel) (ge_var 0)))))))
theorem b_is_integer_tuple {P : Program} {w : World} {K : PySem.W.Frag} {mg : Str → Option Value} {base : Heap} {f : Addr} {cd : Value} {A : Around} {outer : List Env} {s : Shared} {H : Hp} {E : XK} {p pq : Addr} (V : HD.Ev K mg) (hr : Room 1 (A.deeper (envOfC "is_integer_tuple" (defScope (top 3)) s.heap.objs.size f cd))) (h_is_integer : Pr P w K mg base 1 "is_integer" 1 false S_is_integer) :
    GSs (cxD P w K mg base N3 "is_integer_tuple" (defScope (top 3)) f cd A outer s H E) ⟨H, none, 0, pq, fun a => (none : Option Addr) ≠ some a, RR K H⟩ (WD E) (defBody (top 3)) t_is_integer_tuple := by
  have hu := HU.of hr
  have Sc := sc3
  have tk : Takes (cxD P w K mg base N3 "is_integer_tuple" (defScope (top 3)) f cd A outer s H E) (WD E) := takesD
  have hpo := poD (P := P) (w := w) (K := K) (mg := mg) (base := base) (N := N3) (qual := "is_integer_tuple") (scope := defScope (top 3)) (f := f) (cd := cd) (A := A) (outer := outer) (s := s) (H := H) (E := E)
  exact (gss_one (gs_ret (ge_and' (ge_isi kit_tuple V.f_isinstance V.f_tuple (by decide +kernel) (ge_var 0)) (ge_one (ge_all rfl V.f_all (ga_cons (ge_lc (own := [("item", 1)]) rfl Sc.nd (gi_seq (ge_var 0)) (blkOk_by (by kernel_rfl)) (.inl rfl) (fun _ => (gg_name 1 Sc.nd (.inl rfl))) (fun _ => gts_nil) (fun _ => (ge_call h_is_integer (hr.mono (by decide)) takes0 (ga_cons (ge_var 1) ga_nil))) (by decide)) ga_nil))))))
theorem b_is_ascending {P : Program} {w : World} {K : PySem.W.Frag} {mg : Str → Option Value} {base : Heap} {f : Addr} {cd : Value} {A : Around} {outer : List Env} {s : Shared} {H : Hp} {E : XK} {p pq : Addr} (V : HD.Ev K mg) (hr : Room 0 (A.deeper (envOfC "is_ascending" (defScope (top 4)) s.heap.objs.size f cd))) :
    GSs (cxD P w K mg base N4 "is_ascending" (defScope (top 4)) f cd A outer s H E) ⟨H, none, 0, pq, fun a => (none : Option Addr) ≠ some a, RR K H⟩ (WD E) (defBody (top 4)) t_is_ascending := by
  have hu := HU.of hr
  have Sc := sc4
  have tk : Takes (cxD P w K mg base N4 "is_ascending" (defScope (top 4)) f cd A outer s H E) (WD E) := takesD
  have hpo := poD (P := P) (w := w) (K := K) (mg := mg) (base := base) (N := N4) (qual := "is_ascending") (scope := defScope (top 4)) (f := f) (cd := cd) (A := A) (outer := outer) (s := s) (H := H) (E := E)
  exact (gss_one (gs_ret (ge_all rfl V.f_all (ga_cons (ge_lc (own := [("first", 1), ("second", 2)]) rfl Sc.nd (gi_zip V.f_zip (ge_var 0) (ge_sl (ge_var 0) (go_some ge_int) go_none)) (blkOk_by (by kernel_rfl)) (.inl rfl) (fun _ => (gg_tup 2 rfl (ggs_cons (gg_name 1 Sc.nd (.inl rfl)) (ggs_cons (gg_name 2 Sc.nd (.inl rfl)) ggs_nil)))) (fun _ => gts_nil) (fun _ => (ge_cmp (op_ltA hu.a0) og_lt (ge_var 1) (ge_var 2))) (by decide)) ga_nil))))
theorem b_is_graph {P : Program} {w : World} {K : PySem.W.Frag} {mg : Str → Option Value} {base : Heap} {f : Addr} {cd : Value} {A : Around} {outer : List Env} {s : Shared} {H : Hp} {E : XK} {p pq : Addr} (V : HD.Ev K mg) (hr : Room 2 (A.deeper (envOfC "is_graph" (defScope (top 5)) s.heap.objs.size f cd))) (h_is_ascending : Pr P w K mg base 1 "is_ascending" 1 false S_is_ascending) (h_is_integer : Pr P w K mg base 1 "is_integer" 1 false S_is_integer) (h_is_integer_tuple : Pr P w K mg base 2 "is_integer_tuple" 1 false S_is_integer_tuple) :
    GSs (cxD P w K mg base N5 "is_graph" (defScope (top 5)) f cd A outer s H E) ⟨H, none, 0, pq, fun a => (none : Option Addr) ≠ some a, RR K H⟩ (WD E) (defBody (top 5)) t_is_graph := by
  have hu := HU.of hr
  have Sc := sc5
  have tk : Takes (cxD P w K mg base N5 "is_graph" (defScope (top 5)) f cd A outer s H E) (WD E) := takesD
  have hpo := poD (P := P) (w := w) (K := K) (mg := mg) (base := base) (N := N5) (qual := "is_graph") (scope := defScope (top 5)) (f := f) (cd := cd) (A := A) (outer := outer) (s := s) (H := H) (E := E)
  exact (gss_cons (gs_if (GW.gb (gw_or (gb_not (gb_truth (ge_isi kit_tuple V.f_isinstance V.f_tuple (by decide +kernel) (ge_var 0)))) (gw_or1 (gb_cmp (op_neA hu.a64) og_ne (ge_len V.f_len (ga_cons (ge_var 0) ga_nil)) ge_int)))) (gss_one (gs_ret ge_bl)) gss_nil) (gss_cons (gs_unp (ge_var 0) (gg_tup 2 rfl (ggs_cons (gg_name 1 Sc.nd (.inl rfl)) (ggs_cons (gg_name 2 Sc.nd (.inl rfl)) ggs_nil)))) (gss_cons (gs_if (GW.gb (gw_or (gb_not (gb_truth (ge_call h_is_integer (hr.mono (by decide)) tk (ga_cons (ge_var 1) ga_nil)))) (gw_or (gb_cmp (op_ltA hu.a0) og_lt (ge_var 1) ge_int) (gw_or (gb_cmp op_gt og_gt (ge_var 1) (ge_globInt rfl V.c_MOST_VERTICES)) (gw_or1 (gb_not (gb_truth (ge_isi kit_tuple V.f_isinstance V.f_tuple (by decide +kernel) (ge_var 2))))))))) (gss_one (gs_ret ge_bl)) gss_nil) (gss_cons (gs_frz 2 (gs_for hpo rfl (gi_seq (ge_var 2)) (gg_name 3 Sc.nd (.inl rfl)) (gss_one (gs_if (GW.gb (gw_or (gb_not (gb_truth (ge_call h_is_integer_tuple (hr.mono (by decide)) tk (ga_cons (ge_var 3) ga_nil)))) (gw_or (gb_cmp (op_neA hu.a64) og_ne (ge_len V.f_len (ga_cons (ge_var 3) ga_nil)) ge_int) (gw_or1 (gb_not (gb_ch3 op_le og_le (op_ltA hu.a0) og_lt (op_ltA hu.a0) og_lt ge_int (ge_ix (ge_var 3) ge_int) (ge_ix (ge_var 3) ge_int) (ge_var 1))))))) (gss_one (gs_ret ge_bl)) gss_nil)))) (gss_one (gs_ret (ge_call h_is_ascending (hr.mono (by decide)) tk (ga_cons (ge_var 2) ga_nil))))))))
theorem b_is_number {P : Program} {w : World} {K : PySem.W.Frag} {mg : Str → Option Value} {base : Heap} {f : Addr} {cd : Value} {A : Around} {outer : List Env} {s : Shared} {H : Hp} {E : XK} {p pq : Addr} (V : HD.Ev K mg) (hr : Room 1 (A.deeper (envOfC "is_number" (defScope (top 10)) s.heap.objs.size f cd))) (h_is_integer : Pr P w K mg base 1 "is_integer" 1 false S_is_integer) :
    GSs (cxD P w K mg base N10 "is_number" (defScope (top 10)) f cd A outer s H E) ⟨H, none, 0, pq, fun a => (none : Option Addr) ≠ some a, RR K H⟩ (WD E) (defBody (top 10)) t_is_number := by
  have hu := HU.of hr
  have Sc := sc10
  have tk : Takes (cxD P w K mg base N10 "is_number" (defScope (top 10)) f cd A outer s H E) (WD E) := takesD
  have hpo := poD (P := P) (w := w) (K := K) (mg := mg) (base := base) (N := N10) (qual := "is_number") (scope := defScope (top 10)) (f := f) (cd := cd) (A := A) (outer := outer) (s := s) (H := H) (E := E)
  exact (gss_one (gs_ret (ge_and' (ge_call h_is_integer (hr.mono (by decide)) tk (ga_cons (ge_var 0) ga_nil)) (ge_one (ge_cmp op_ge og_ge (ge_var 0) ge_int)))))
theorem b_is_vertex {P : Program} {w : World} {K : PySem.W.Frag} {mg : Str → Option Value} {base : Heap} {f : Addr} {cd : Value} {A : Around} {outer : List Env} {s : Shared} {H : Hp} {E : XK} {p pq : Addr} (V : HD.Ev K mg) (hr : Room 2 (A.deeper (envOfC "is_vertex" (defScope (top 11)) s.heap.objs.size f cd))) (h_is_number : Pr P w K mg base 2 "is_number" 1 false S_is_number) :
    GSs (cxD P w K mg base N11 "is_vertex" (defScope (top 11)) f cd A outer s H E) ⟨H, none, 0, pq, fun a => (none : Option Addr) ≠ some a, RR K H⟩ (WD E) (defBody (top 11)) t_is_vertex := by
  have hu := HU.of hr
  have Sc := sc11
  have tk : Takes (cxD P w K mg base N11 "is_vertex" (defScope (top 11)) f cd A outer s H E) (WD E) := takesD
  have hpo := poD (P := P) (w := w) (K := K) (mg := mg) (base := base) (N := N11) (qual := "is_vertex") (scope := defScope (top 11)) (f := f) (cd := cd) (A := A) (outer := outer) (s := s) (H := H) (E := E)
  exact (gss_one (gs_ret (ge_and' (ge_call h_is_number (hr.mono (by decide)) tk (ga_cons (ge_var 1) ga_nil)) (ge_one (ge_cmp (op_ltA hu.a0) og_lt (ge_var 1) (ge_ix (ge_var 0) ge_int))))))
theorem b_is_question {P : Program} {w : World} {K : PySem.W.Frag} {mg : Str → Option Value} {base : Heap} {f : Addr} {cd : Value} {A : Around} {outer : List Env} {s : Shared} {H : Hp} {E : XK} {p pq : Addr} (V : HD.Ev K mg) (hr : Room 3 (A.deeper (envOfC "is_question" (defScope (top 12)) s.heap.objs.size f cd))) (h_is_graph : Pr P w K mg base 3 "is_graph" 1 false S_is_graph) (h_is_number : Pr P w K mg base 2 "is_number" 1 false S_is_number) (h_is_vertex : Pr P w K mg base 3 "is_vertex" 2 false S_is_vertex) :
    GSs (cxD P w K mg base N12 "is_question" (defScope (top 12)) f cd A outer s H E) ⟨H, none, 0, pq, fun a => (none : Option Addr) ≠ some a, RR K H⟩ (WD E) (defBody (top 12)) t_is_question := by
  have hu := HU.of hr
  have Sc := sc12
  have tk : Takes (cxD P w K mg base N12 "is_question" (defScope (top 12)) f cd A outer s H E) (WD E) := takesD
  have hpo := poD (P := P) (w := w) (K := K) (mg := mg) (base := base) (N := N12) (qual := "is_question") (scope := defScope (top 12)) (f := f) (cd := cd) (A := A) (outer := outer) (s := s) (H := H) (E := E)
  exact (gss_cons (gs_if (GW.gb (gw_or (gb_not (gb_truth (ge_isi kit_tuple V.f_isinstance V.f_tuple (by decide +kernel) (ge_var 1)))) (gw_or (gb_cmp (op_eqA hu.a64) og_eq (ge_len V.f_len (ga_cons (ge_var 1) ga_nil)) ge_int) (gw_or1 (gb_not (gb_truth (ge_isi kit_str V.f_isinstance V.f_str (by decide +kernel) (ge_ix (ge_var 1) ge_int)))))))) (gss_one (gs_ret ge_bl)) gss_nil) (gss_cons (gs_set (k := 2) Sc.nd (ge_ix (ge_var 1) ge_int) (.inl rfl)) (gss_cons (gs_if (gb_inK hu.a65 (ge_var 2) V.g_PLAIN_KINDS V.t_PLAIN_KINDS) (gss_one (gs_ret (ge_cmp (op_eqA hu.a64) og_eq (ge_len V.f_len (ga_cons (ge_var 1) ga_nil)) ge_int))) gss_nil) (gss_cons (gs_if (gb_inK hu.a65 (ge_var 2) V.g_NUMBER_KINDS V.t_NUMBER_KINDS) (gss_one (gs_ret (ge_and' (ge_cmp (op_eqA hu.a64) og_eq (ge_len V.f_len (ga_cons (ge_var 1) ga_nil)) ge_int) (ge_one (ge_call h_is_number (hr.mono (by decide)) tk (ga_cons (ge_ix (ge_var 1) ge_int) ga_nil)))))) gss_nil) (gss_cons (gs_if (gb_cmp (op_eqA hu.a64) og_eq (ge_var 2) ge_str) (gss_one (gs_ret (ge_and' (ge_cmp (op_eqA hu.a64) og_eq (ge_len V.f_len (ga_cons (ge_var 1) ga_nil)) ge_int) (ge_one (ge_call h_is_graph (hr.mono (by decide)) tk (ga_cons (ge_ix (ge_var 1) ge_int) ga_nil)))))) gss_nil) (gss_cons (gs_if (GW.gb (gw_or (gb_cmp (op_neA hu.a64) og_ne (ge_var 2) ge_str) (gw_or1 (gb_cmp (op_neA hu.a64) og_ne (ge_len V.f_len (ga_cons (ge_var 1) ga_nil)) ge_int)))) (gss_one (gs_ret ge_bl)) gss_nil) (gss_cons (gs_unp (ge_var 1) (gg_tup 4 rfl (ggs_cons (gg_name 3 Sc.nd (.inl rfl)) (ggs_cons (gg_name 4 Sc.nd (.inl rfl)) (ggs_cons (gg_name 5 Sc.nd (.inl rfl)) (ggs_cons (gg_name 6 Sc.nd (.inl rfl)) ggs_nil)))))) (gss_one (gs_ret (ge_and' (ge_call h_is_vertex (hr.mono (by decide)) tk (ga_cons (ge_var 0) (ga_cons (ge_var 4) ga_nil))) (ge_and' (ge_call h_is_vertex (hr.mono (by decide)) tk (ga_cons (ge_var 0) (ga_cons (ge_var 5) ga_nil))) (ge_and' (ge_cmp (op_neA hu.a64) og_ne (ge_var 4) (ge_var 5)) (ge_one (ge_call h_is_number (hr.mono (by decide)) tk (ga_cons (ge_var 6) ga_nil)))))))))))))))
theorem b__law_spread {P : Program} {w : World} {K : PySem.W.Frag} {mg : Str → Option Value} {base : Heap} {f : Addr} {cd : Value} {A : Around} {outer : List Env} {s : Shared} {H : Hp} {E : XK} {p pq : Addr} (V : HD.Ev K mg) (hr : Room 0 (A.deeper (envOfC "_law_spread" (defScope (top 15)) s.heap.objs.size f cd))) :
    GSs (cxD P w K mg base N15 "_law_spread" (defScope (top 15)) f cd A outer s H E) ⟨H, none, 0, pq, fun a => (none : Option Addr) ≠ some a, RR K H⟩ (WD E) (defBody (top 15)) t__law_spread := by
  have hu := HU.of hr
  have Sc := sc15
  have tk : Takes (cxD P w K mg base N15 "_law_spread" (defScope (top 15)) f cd A outer s H E) (WD E) := takesD
  have hpo := poD (P := P) (w := w) (K := K) (mg := mg) (base := base) (N := N15) (qual := "_law_spread") (scope := defScope (top 15)) (f := f) (cd := cd) (A := A) (outer := outer) (s := s) (H := H) (E := E)
  exact (gss_cons (gs_set (k := 1) Sc.nd (ge_mod (ge_toInt V.f_int (ga_cons (ge_var 0) ga_nil)) ge_int) (.inl rfl)) (gss_cons (gs_set (k := 2) Sc.nd ge_int (.inl rfl)) (gss_cons (gs_for hpo rfl (gi_range1 V.f_range (ga_cons ge_int ga_nil)) (gg_name 3 Sc.nd (.inl rfl)) (gss_cons (gs_set (k := 1) Sc.nd (ge_mod (ge_toInt V.f_int (ga_cons (ge_add (ge_add (ge_mul (ge_var 1) ge_int) ge_int) (ge_var 3)) ga_nil)) ge_int) (.inl rfl)) (gss_one (gs_set (k := 2) Sc.nd (ge_add (ge_mul (ge_var 2) ge_int) (ge_var 1)) (.inl rfl))))) (gss_one (gs_ret (ge_var 2))))))
theorem bM__law_same {P : Program} {w : World} {K : PySem.W.Frag} {mg : Str → Option Value} {base : Heap} {f : Addr} {cd : Value} {A : Around} {outer : List Env} {s : Shared} {H : Hp} {E : XK} {pq : Addr} (V : HD.Ev K mg) (hr : Room 8 (A.deeper (envOfC "_law_same" (defScope (top 17)) s.heap.objs.size f cd))) (h__law_same : Pr P w K mg base 8 "_law_same" 2 false (S__law_same 8)) :
    GSs (cxD P w K mg base N17 "_law_same" (defScope (top 17)) f cd A outer s H E) ⟨H, none, 0, pq, fun a => (none : Option Addr) ≠ some a, RR K H⟩ (WD E) (defBody (top 17)) (tM__law_same (He.ga K "KINDS")) := by
  have hu := HU.of hr
  have Sc := sc17
  have tk : Takes (cxD P w K mg base N17 "_law_same" (defScope (top 17)) f cd A outer s H E) (WD E) := takesD
  have hpo := poD (P := P) (w := w) (K := K) (mg := mg) (base := base) (N := N17) (qual := "_law_same") (scope := defScope (top 17)) (f := f) (cd := cd) (A := A) (outer := outer) (s := s) (H := H) (E := E)
  have M : ModT K (He.ga K "KINDS") strsM := modT_ok V.t_KINDS
  exact (gss_cons (gs_if (GW.gb (gw_or (gb_truth (ge_isi kit_tuple V.f_isinstance V.f_tuple (by decide +kernel) (ge_var 1))) (gw_or1 (gb_truth (ge_isi kit_list V.f_isinstance V.f_list (by decide +kernel) (ge_var 1)))))) (gss_cons (gs_if (GW.gb (gw_or (gb_cmp (op_neA hu.a64) og_ne (ge_isi kit_tuple V.f_isinstance V.f_tuple (by decide +kernel) (ge_var 1)) (ge_isM M 0 (b := true) kit_tuple rfl V.f_isinstance V.f_tuple (by decide +kernel))) (gw_or1 (gb_cmp (op_neA hu.a64) og_ne (ge_isi kit_list V.f_isinstance V.f_list (by decide +kernel) (ge_var 1)) (ge_isM M 0 (b := false) kit_list rfl V.f_isinstance V.f_list (by decide +kernel)))))) (gss_one (gs_ret ge_bl)) gss_nil) (gss_cons (gs_if (gb_cmp (op_neA hu.a64) og_ne (ge_lenM M 0 rfl V.f_len) (ge_len V.f_len (ga_cons (ge_var 1) ga_nil))) (gss_one (gs_ret ge_bl)) gss_nil) (gss_cons (gs_for hpo rfl (gi_range1 V.f_range (ga_cons (ge_len V.f_len (ga_cons (ge_var 1) ga_nil)) ga_nil)) (gg_name 2 Sc.nd (.inl rfl)) (gss_one (gs_if (gb_not (gb_truth (ge_call h__law_same (hr.mono (by decide)) tk (ga_cons (ge_ixM M 0 (ge_var 2)) (ga_cons (ge_ix (ge_var 1) (ge_var 2)) ga_nil))))) (gss_one (gs_ret ge_bl)) gss_nil))) (gss_one (gs_ret ge_bl))))) gss_nil) (gss_cons (gs_if (gb_cmp op_isN og_isN (ge_var 1) ge_non) (gss_one (gs_ret (ge_cmp op_isN og_isN ge_dead ge_non))) gss_nil) (gss_cons (gs_if (gb_truth (ge_isi kit_bool V.f_isinstance V.f_bool (by decide +kernel) (ge_var 1))) (gss_one (gs_ret (ge_and' (ge_isM M 0 (b := false) kit_bool rfl V.f_isinstance V.f_bool (by decide +kernel)) (ge_one (ge_cmp (op_eqA hu.a64) og_eq ge_dead (ge_var 1)))))) gss_nil) (gss_cons (gs_if (gb_truth (ge_isi kit_int V.f_isinstance V.f_int (by decide +kernel) (ge_var 1))) (gss_one (gs_ret (ge_and' (ge_isM M 0 (b := false) kit_int rfl V.f_isinstance V.f_int (by decide +kernel)) (ge_and' (ge_not (ge_isM M 0 (b := false) kit_bool rfl V.f_isinstance V.f_bool (by decide +kernel))) (ge_one (ge_cmp (op_eqA hu.a64) og_eq ge_dead (ge_var 1))))))) gss_nil) (gss_one (gs_ret (ge_and' (ge_isM M 0 (b := false) kit_str rfl V.f_isinstance V.f_str (by decide +kernel)) (ge_one (ge_cmp (op_eqA hu.a64) og_eq ge_dead (ge_var 1))))))))))
theorem b__law_same {P : Program} {w : World} {K : PySem.W.Frag} {mg : Str → Option Value} {base : Heap} {f : Addr} {cd : Value} {A : Around} {outer : List Env} {s : Shared} {H : Hp} {E : XK} {p pq : Addr} {n : Nat} (V : HD.Ev K mg) (hr : Room (0 + n) (A.deeper (envOfC "_law_same" (defScope (top 17)) s.heap.objs.size f cd))) (h__law_same : Pr P w K mg base (0 + n) "_law_same" 2 false (S__law_same n)) :
    GSs (cxD P w K mg base N17 "_law_same" (defScope (top 17)) f cd A outer s H E) ⟨H, none, 0, pq, fun a => (none : Option Addr) ≠ some a, RR K H⟩ (WD E) (defBody (top 17)) (t__law_same n) := by
  have hu := HU.of hr
  have Sc := sc17
  have tk : Takes (cxD P w K mg base N17 "_law_same" (defScope (top 17)) f cd A outer s H E) (WD E) := takesD
  have hpo := poD (P := P) (w := w) (K := K) (mg := mg) (base := base) (N := N17) (qual := "_law_same") (scope := defScope (top 17)) (f := f) (cd := cd) (A := A) (outer := outer) (s := s) (H := H) (E := E)
  exact (gss_cons (gs_if (GW.gb (gw_or (gb_truth (ge_isi kit_tuple V.f_isinstance V.f_tuple (by decide +kernel) (ge_var 1))) (gw_or1 (gb_truth (ge_isi kit_list V.f_isinstance V.f_list (by decide +kernel) (ge_var 1)))))) (gss_cons (gs_if (GW.gb (gw_or (gb_cmp (op_neA hu.a64) og_ne (ge_isi kit_tuple V.f_isinstance V.f_tuple (by decide +kernel) (ge_var 1)) (ge_isi kit_tuple V.f_isinstance V.f_tuple (by decide +kernel) (ge_var 0))) (gw_or1 (gb_cmp (op_neA hu.a64) og_ne (ge_isi kit_list V.f_isinstance V.f_list (by decide +kernel) (ge_var 1)) (ge_isi kit_list V.f_isinstance V.f_list (by decide +kernel) (ge_var 0)))))) (gss_one (gs_ret ge_bl)) gss_nil) (gss_cons (gs_if (gb_cmp (op_neA hu.a64) og_ne (ge_len V.f_len (ga_cons (ge_var 0) ga_nil)) (ge_len V.f_len (ga_cons (ge_var 1) ga_nil))) (gss_one (gs_ret ge_bl)) gss_nil) (gss_cons (gs_for hpo rfl (gi_range1 V.f_range (ga_cons (ge_len V.f_len (ga_cons (ge_var 1) ga_nil)) ga_nil)) (gg_name 2 Sc.nd (.inl rfl)) (gss_one (gs_if (gb_not (gb_truth (ge_call h__law_same (hr.mono (by first | decide | omega)) tk (ga_cons (ge_ix (ge_var 0) (ge_var 2)) (ga_cons (ge_ix (ge_var 1) (ge_var 2)) ga_nil))))) (gss_one (gs_ret ge_bl)) gss_nil))) (gss_one (gs_ret ge_bl))))) gss_nil) (gss_cons (gs_if (gb_cmp op_isN og_isN (ge_var 1) ge_non) (gss_one (gs_ret (ge_cmp op_isN og_isN (ge_var 0) ge_non))) gss_nil) (gss_cons (gs_if (gb_truth (ge_isi kit_bool V.f_isinstance V.f_bool (by decide +kernel) (ge_var 1))) (gss_one (gs_ret (ge_and' (ge_isi kit_bool V.f_isinstance V.f_bool (by decide +kernel) (ge_var 0)) (ge_one (ge_cmp (op_eqA hu.a64) og_eq (ge_var 0) (ge_var 1)))))) gss_nil) (gss_cons (gs_if (gb_truth (ge_isi kit_int V.f_isinstance V.f_int (by decide +kernel) (ge_var 1))) (gss_one (gs_ret (ge_and' (ge_isi kit_int V.f_isinstance V.f_int (by decide +kernel) (ge_var 0)) (ge_and' (ge_not (ge_isi kit_bool V.f_isinstance V.f_bool (by decide +kernel) (ge_var 0))) (ge_one (ge_cmp (op_eqA hu.a64) og_eq (ge_var 0) (ge_var 1))))))) gss_nil) (gss_one (gs_ret (ge_and' (ge_isi kit_str V.f_isinstance V.f_str (by decide +kernel) (ge_var 0)) (ge_one (ge_cmp (op_eqA hu.a64) og_eq (ge_var 0) (ge_var 1))))))))))
theorem b__law_is_int {P : Program} {w : World} {K : PySem.W.Frag} {mg : Str → Option Value} {base : Heap} {f : Addr} {cd : Value} {A : Around} {outer : List Env} {s : Shared} {H : Hp} {E : XK} {p pq : Addr} (V : HD.Ev K mg) (hr : Room 0 (A.deeper (envOfC "_law_is_int" (defScope (top 18)) s.heap.objs.size f cd))) :
    GSs (cxD P w K mg base N18 "_law_is_int" (defScope (top 18)) f cd A outer s H E) ⟨H, none, 0, pq, fun a => (none : Option Addr) ≠ some a, RR K H⟩ (WD E) (defBody (top 18)) t__law_is_int := by
  have hu := HU.of hr
  have Sc := sc18
  have tk : Takes (cxD P w K mg base N18 "_law_is_int" (defScope (top 18)) f cd A outer s H E) (WD E) := takesD
  have hpo := poD (P := P) (w := w) (K := K) (mg := mg) (base := base) (N := N18) (qual := "_law_is_int") (scope := defScope (top 18)) (f := f) (cd := cd) (A := A) (outer := outer) (s := s) (H := H) (E := E)
  exact (gss_one (gs_ret (ge_and' (ge_isi kit_int V.f_isinstance V.f_int (by decide +kernel) (ge_var 0)) (ge_one (ge_not (ge_isi kit_bool V.f_isinstance V.f_bool (by decide +kernel) (ge_var 0)))))))
theorem b__law_distinct {P : Program} {w : World} {K : PySem.W.Frag} {mg : Str → Option Value} {base : Heap} {f : Addr} {cd : Value} {A : Around} {outer : List Env} {s : Shared} {H : Hp} {E : XK} {p pq : Addr} (V : HD.Ev K mg) (hr : Room 0 (A.deeper (envOfC "_law_distinct" (defScope (top 19)) s.heap.objs.size f cd))) :
    GSs (cxD P w K mg base N19 "_law_distinct" (defScope (top 19)) f cd A outer s H E) ⟨H, none, 0, pq, fun a => (none : Option Addr) ≠ some a, RR K H⟩ (WD E) (defBody (top 19)) t__law_distinct := by
  have hu := HU.of hr
  have Sc := sc19
  have tk : Takes (cxD P w K mg base N19 "_law_distinct" (defScope (top 19)) f cd A outer s H E) (WD E) := takesD
  have hpo := poD (P := P) (w := w) (K := K) (mg := mg) (base := base) (N := N19) (qual := "_law_distinct") (scope := defScope (top 19)) (f := f) (cd := cd) (A := A) (outer := outer) (s := s) (H := H) (E := E)
  exact (gss_cons (gs_set (k := 1) Sc.nd (ge_lst ga_nil) (.inl rfl)) (gss_cons (gs_for hpo rfl (gi_seq (ge_srt hu.a65 V.f_sorted (ga_cons (ge_var 0) ga_nil))) (gg_name 2 Sc.nd (.inl rfl)) (gss_one (gs_if (GW.gb (gw_or (gb_cmp (op_eqA hu.a64) og_eq (ge_var 1) (ge_lst ga_nil)) (gw_or1 (gb_cmp (op_neA hu.a64) og_ne (ge_ix (ge_var 1) (ge_neg ge_int)) (ge_var 2))))) (gss_one (gs_append 1 (ge_var 2))) gss_nil))) (gss_one (gs_ret (ge_var 1)))))
theorem b__law_pairs {P : Program} {w : World} {K : PySem.W.Frag} {mg : Str → Option Value} {base : Heap} {f : Addr} {cd : Value} {A : Around} {outer : List Env} {s : Shared} {H : Hp} {E : XK} {p pq : Addr} (V : HD.Ev K mg) (hr : Room 0 (A.deeper (envOfC "_law_pairs" (defScope (top 20)) s.heap.objs.size f cd))) :
    GSs (cxD P w K mg base N20 "_law_pairs" (defScope (top 20)) f cd A outer s H E) ⟨H, none, 0, pq, fun a => (none : Option Addr) ≠ some a, RR K H⟩ (WD E) (defBody (top 20)) t__law_pairs := by
  have hu := HU.of hr
  have Sc := sc20
  have tk : Takes (cxD P w K mg base N20 "_law_pairs" (defScope (top 20)) f cd A outer s H E) (WD E) := takesD
  have hpo := poD (P := P) (w := w) (K := K) (mg := mg) (base := base) (N := N20) (qual := "_law_pairs") (scope := defScope (top 20)) (f := f) (cd := cd) (A := A) (outer := outer) (s := s) (H := H) (E := E)
  exact (gss_cons (gs_set (k := 1) Sc.nd (ge_lst ga_nil) (.inl rfl)) (gss_cons (gs_for hpo rfl (gi_range1 V.f_range (ga_cons (ge_var 0) ga_nil)) (gg_name 2 Sc.nd (.inl rfl)) (gss_one (gs_for hpo rfl (gi_range2 V.f_range (ga_cons (ge_add (ge_var 2) ge_int) (ga_cons (ge_var 0) ga_nil))) (gg_name 3 Sc.nd (.inl rfl)) (gss_one (gs_append 1 (ge_tup (ga_cons (ge_var 2) (ga_cons (ge_var 3) ga_nil)))))))) (gss_one (gs_ret (ge_var 1)))))
theorem b__law_of {P : Program} {w : World} {K : PySem.W.Frag} {mg : Str → Option Value} {base : Heap} {f : Addr} {cd : Value} {A : Around} {outer : List Env} {s : Shared} {H : Hp} {E : XK} {p pq : Addr} (V : HD.Ev K mg) (hr : Room 1 (A.deeper (envOfC "_law_of" (defScope (top 21)) s.heap.objs.size f cd))) (h__law_distinct : Pr P w K mg base 1 "_law_distinct" 1 false S__law_distinct) :
    GSs (cxD P w K mg base N21 "_law_of" (defScope (top 21)) f cd A outer s H E) ⟨H, none, 0, pq, fun a => (none : Option Addr) ≠ some a, RR K H⟩ (WD E) (defBody (top 21)) t__law_of := by
  have hu := HU.of hr
  have Sc := sc21
  have tk : Takes (cxD P w K mg base N21 "_law_of" (defScope (top 21)) f cd A outer s H E) (WD E) := takesD
  have hpo := poD (P := P) (w := w) (K := K) (mg := mg) (base := base) (N := N21) (qual := "_law_of") (scope := defScope (top 21)) (f := f) (cd := cd) (A := A) (outer := outer) (s := s) (H := H) (E := E)
  exact (gss_one (gs_ret (ge_tup (ga_cons (ge_var 0) (ga_cons (ge_tuple V.f_tuple (ga_cons (ge_call h__law_distinct (hr.mono (by decide)) tk (ga_cons (ge_lc (own := [("_law_pair", 2)]) rfl Sc.nd (gi_seq (ge_var 1)) (blkOk_by (by kernel_rfl)) (.inl rfl) (fun _ => (gg_name 2 Sc.nd (.inl rfl))) (fun _ => gts_nil) (fun _ => (ge_tup (ga_cons (ge_min1 rfl hu.a64 V.f_min (ga_cons (ge_var 2) ga_nil)) (ga_cons (ge_max1 rfl hu.a64 V.f_max (ga_cons (ge_var 2) ga_nil)) ga_nil)))) (by decide)) ga_nil)) ga_nil)) ga_nil)))))
theorem b__law_shuffled {P : Program} {w : World} {K : PySem.W.Frag} {mg : Str → Option Value} {base : Heap} {f : Addr} {cd : Value} {A : Around} {outer : List Env} {s : Shared} {H : Hp} {E : XK} {p pq : Addr} (V : HD.Ev K mg) (hr : Room 2 (A.deeper (envOfC "_law_shuffled" (defScope (top 22)) s.heap.objs.size f cd))) (h__law_draw : Pr P w K mg base 2 "_law_draw" 1 true S__law_draw) :
    GSs (cxD P w K mg base N22 "_law_shuffled" (defScope (top 22)) f cd A outer s H E) ⟨H, some p, 0, pq, fun a => some p ≠ some a, RR K H⟩ (WD E) (defBody (top 22)) t__law_shuffled := by
  have hu := HU.of hr
  have Sc := sc22
  have tk : Takes (cxD P w K mg base N22 "_law_shuffled" (defScope (top 22)) f cd A outer s H E) (WD E) := takesD
  have hpo := poD (P := P) (w := w) (K := K) (mg := mg) (base := base) (N := N22) (qual := "_law_shuffled") (scope := defScope (top 22)) (f := f) (cd := cd) (A := A) (outer := outer) (s := s) (H := H) (E := E)
  exact (gss_cons (gs_set (k := 2) Sc.nd (ge_list V.f_list (ga_cons (ge_var 1) ga_nil)) (.inr (show (2 : Nat) ≠ 0 by decide))) (gss_cons (gs_set (k := 3) Sc.nd (ge_lst ga_nil) (.inr (show (3 : Nat) ≠ 0 by decide))) (gss_cons (gs_for hpo rfl (gi_range1 V.f_range (ga_cons (ge_len V.f_len (ga_cons (ge_var 2) ga_nil)) ga_nil)) (gg_name 4 Sc.nd (.inr (show (4 : Nat) ≠ 0 by decide))) (gss_one (gs_appPop 3 2 (ge_callP h__law_draw (hr.mono (by decide)) tk ⟨_, rfl⟩ rfl (ga_cons (ge_len V.f_len (ga_cons (ge_var 2) ga_nil)) ga_nil))))) (gss_one (gs_ret (ge_var 3))))))
theorem b__law_moved {P : Program} {w : World} {K : PySem.W.Frag} {mg : Str → Option Value} {base : Heap} {f : Addr} {cd : Value} {A : Around} {outer : List Env} {s : Shared} {H : Hp} {E : XK} {p pq : Addr} (V : HD.Ev K mg) (hr : Room 2 (A.deeper (envOfC "_law_moved" (defScope (top 23)) s.heap.objs.size f cd))) (h__law_of : Pr P w K mg base 2 "_law_of" 2 false S__law_of) :
    GSs (cxD P w K mg base N23 "_law_moved" (defScope (top 23)) f cd A outer s H E) ⟨H, none, 0, pq, fun a => (none : Option Addr) ≠ some a, RR K H⟩ (WD E) (defBody (top 23)) t__law_moved := by
  have hu := HU.of hr
  have Sc := sc23
  have tk : Takes (cxD P w K mg base N23 "_law_moved" (defScope (top 23)) f cd A outer s H E) (WD E) := takesD
  have hpo := poD (P := P) (w := w) (K := K) (mg := mg) (base := base) (N := N23) (qual := "_law_moved") (scope := defScope (top 23)) (f := f) (cd := cd) (A := A) (outer := outer) (s := s) (H := H) (E := E)
  exact (gss_one (gs_ret (ge_call h__law_of (hr.mono (by decide)) tk (ga_cons (ge_ix (ge_var 0) ge_int) (ga_cons (ge_lc (own := [("_law_pair", 2)]) rfl Sc.nd (gi_seq (ge_ix (ge_var 0) ge_int)) (blkOk_by (by kernel_rfl)) (.inl rfl) (fun _ => (gg_name 2 Sc.nd (.inl rfl))) (fun _ => gts_nil) (fun _ => (ge_tup (ga_cons (ge_ix (ge_var 1) (ge_ix (ge_var 2) ge_int)) (ga_cons (ge_ix (ge_var 1) (ge_ix (ge_var 2) ge_int)) ga_nil)))) (by decide)) ga_nil)))))
theorem b__law_other {P : Program} {w : World} {K : PySem.W.Frag} {mg : Str → Option Value} {base : Heap} {f : Addr} {cd : Value} {A : Around} {outer : List Env} {s : Shared} {H : Hp} {E : XK} {p pq : Addr} (V : HD.Ev K mg) (hr : Room 1 (A.deeper (envOfC "_law_other" (defScope (top 24)) s.heap.objs.size f cd))) (h__law_pairs : Pr P w K mg base 1 "_law_pairs" 1 false S__law_pairs) :
    GSs (cxD P w K mg base N24 "_law_other" (defScope (top 24)) f cd A outer s H E) ⟨H, none, 0, pq, fun a => (none : Option Addr) ≠ some a, RR K H⟩ (WD E) (defBody (top 24)) t__law_other := by
  have hu := HU.of hr
  have Sc := sc24
  have tk : Takes (cxD P w K mg base N24 "_law_other" (defScope (top 24)) f cd A outer s H E) (WD E) := takesD
  have hpo := poD (P := P) (w := w) (K := K) (mg := mg) (base := base) (N := N24) (qual := "_law_other") (scope := defScope (top 24)) (f := f) (cd := cd) (A := A) (outer := outer) (s := s) (H := H) (E := E)
  exact (gss_one (gs_ret (ge_tup (ga_cons (ge_ix (ge_var 0) ge_int) (ga_cons (ge_tuple V.f_tuple (ga_cons (ge_lc (own := [("_law_pair", 1)]) rfl Sc.nd (gi_seq (ge_call h__law_pairs (hr.mono (by decide)) tk (ga_cons (ge_ix (ge_var 0) ge_int) ga_nil))) (blkOk_by (by kernel_rfl)) (.inl rfl) (fun _ => (gg_name 1 Sc.nd (.inl rfl))) (fun _ => (gts_one (gb_cmp (op_notInA hu.a65) og_in (ge_var 1) (ge_ix (ge_var 0) ge_int)))) (fun _ => (ge_var 1)) (by decide)) ga_nil)) ga_nil)))))
theorem b__law_random_graph {P : Program} {w : World} {K : PySem.W.Frag} {mg : Str → Option Value} {base : Heap} {f : Addr} {cd : Value} {A : Around} {outer : List Env} {s : Shared} {H : Hp} {E : XK} {p pq : Addr} (V : HD.Ev K mg) (hr : Room 2 (A.deeper (envOfC "_law_random_graph" (defScope (top 25)) s.heap.objs.size f cd))) (h__law_draw : Pr P w K mg base 2 "_law_draw" 1 true S__law_draw) (h__law_pairs : Pr P w K mg base 1 "_law_pairs" 1 false S__law_pairs) :
    GSs (cxD P w K mg base N25 "_law_random_graph" (defScope (top 25)) f cd A outer s H E) ⟨H, some p, 0, pq, fun a => some p ≠ some a, RR K H⟩ (WD E) (defBody (top 25)) t__law_random_graph := by
  have hu := HU.of hr
  have Sc := sc25
  have tk : Takes (cxD P w K mg base N25 "_law_random_graph" (defScope (top 25)) f cd A outer s H E) (WD E) := takesD
  have hpo := poD (P := P) (w := w) (K := K) (mg := mg) (base := base) (N := N25) (qual := "_law_random_graph") (scope := defScope (top 25)) (f := f) (cd := cd) (A := A) (outer := outer) (s := s) (H := H) (E := E)
  exact (gss_cons (gs_set (k := 2) Sc.nd (ge_ix (ge_lst (ga_cons (ge_var 1) (ga_cons (ge_add ge_int (ge_callP h__law_draw (hr.mono (by decide)) tk ⟨_, rfl⟩ rfl (ga_cons (ge_var 1) ga_nil))) ga_nil))) (ge_toInt V.f_int (ga_cons (ge_cmp (op_eqA hu.a64) og_eq (ge_callP h__law_draw (hr.mono (by decide)) tk ⟨_, rfl⟩ rfl (ga_cons ge_int ga_nil)) ge_int) ga_nil))) (.inr (show (2 : Nat) ≠ 0 by decide))) (gss_cons (gs_set (k := 3) Sc.nd (ge_add ge_int (ge_callP h__law_draw (hr.mono (by decide)) tk ⟨_, rfl⟩ rfl (ga_cons ge_int ga_nil))) (.inr (show (3 : Nat) ≠ 0 by decide))) (gss_one (gs_ret (ge_tup (ga_cons (ge_var 2) (ga_cons (ge_tuple V.f_tuple (ga_cons (ge_lc (own := [("_law_pair", 4)]) rfl Sc.nd (gi_seq (ge_call h__law_pairs (hr.mono (by decide)) tk (ga_cons (ge_var 2) ga_nil))) (blkOk_by (by kernel_rfl)) (.inr (show (0 : Nat) ∉ ([4] : List Nat) by decide)) (fun _ => (gg_name 4 Sc.nd (.inr (show (4 : Nat) ≠ 0 by decide)))) (fun _ => (gts_one (gb_cmp (op_ltA hu.a0) og_lt (ge_callP h__law_draw (hr.mono (by decide)) takes0 ⟨_, rfl⟩ rfl (ga_cons ge_int ga_nil)) (ge_var 3)))) (fun _ => (ge_var 4)) (by decide)) ga_nil)) ga_nil)))))))
theorem b__law_interval_rows {P : Program} {w : World} {K : PySem.W.Frag} {mg : Str → Option Value} {base : Heap} {f : Addr} {cd : Value} {A : Around} {outer : List Env} {s : Shared} {H : Hp} {E : XK} {p pq : Addr} (V : HD.Ev K mg) (hr : Room 2 (A.deeper (envOfC "_law_interval_rows" (defScope (top 26)) s.heap.objs.size f cd))) (h__law_draw : Pr P w K mg base 2 "_law_draw" 1 true S__law_draw) :
    GSs (cxD P w K mg base N26 "_law_interval_rows" (defScope (top 26)) f cd A outer s H E) ⟨H, some p, 0, pq, fun a => some p ≠ some a, RR K H⟩ (WD E) (defBody (top 26)) t__law_interval_rows := by
  have hu := HU.of hr
  have Sc := sc26
  have tk : Takes (cxD P w K mg base N26 "_law_interval_rows" (defScope (top 26)) f cd A outer s H E) (WD E) := takesD
  have hpo := poD (P := P) (w := w) (K := K) (mg := mg) (base := base) (N := N26) (qual := "_law_interval_rows") (scope := defScope (top 26)) (f := f) (cd := cd) (A := A) (outer := outer) (s := s) (H := H) (E := E)
  exact (gss_cons (gs_set (k := 2) Sc.nd (ge_lst ga_nil) (.inr (show (2 : Nat) ≠ 0 by decide))) (gss_cons (gs_for hpo rfl (gi_range1 V.f_range (ga_cons (ge_var 1) ga_nil)) (gg_name 3 Sc.nd (.inr (show (3 : Nat) ≠ 0 by decide))) (gss_cons (gs_set (k := 4) Sc.nd (ge_sub (ge_callP h__law_draw (hr.mono (by decide)) tk ⟨_, rfl⟩ rfl (ga_cons ge_int ga_nil)) ge_int) (.inr (show (4 : Nat) ≠ 0 by decide))) (gss_one (gs_append 2 (ge_tup (ga_cons (ge_var 4) (ga_cons (ge_add (ge_var 4) (ge_callP h__law_draw (hr.mono (by decide)) tk ⟨_, rfl⟩ rfl (ga_cons (ge_ix (ge_lst (ga_cons ge_int (ga_cons ge_int (ga_cons ge_int ga_nil)))) (ge_callP h__law_draw (hr.mono (by decide)) tk ⟨_, rfl⟩ rfl (ga_cons ge_int ga_nil))) ga_nil))) ga_nil))))))) (gss_one (gs_ret (ge_var 2)))))
theorem b__law_interval_graph {P : Program} {w : World} {K : PySem.W.Frag} {mg : Str → Option Value} {base : Heap} {f : Addr} {cd : Value} {A : Around} {outer : List Env} {s : Shared} {H : Hp} {E : XK} {p pq : Addr} (V : HD.Ev K mg) (hr : Room 1 (A.deeper (envOfC "_law_interval_graph" (defScope (top 27)) s.heap.objs.size f cd))) (h__law_pairs : Pr P w K mg base 1 "_law_pairs" 1 false S__law_pairs) :
    GSs (cxD P w K mg base N27 "_law_interval_graph" (defScope (top 27)) f cd A outer s H E) ⟨H, none, 0, pq, fun a => (none : Option Addr) ≠ some a, RR K H⟩ (WD E) (defBody (top 27)) t__law_interval_graph := by
  have hu := HU.of hr
  have Sc := sc27
  have tk : Takes (cxD P w K mg base N27 "_law_interval_graph" (defScope (top 27)) f cd A outer s H E) (WD E) := takesD
  have hpo := poD (P := P) (w := w) (K := K) (mg := mg) (base := base) (N := N27) (qual := "_law_interval_graph") (scope := defScope (top 27)) (f := f) (cd := cd) (A := A) (outer := outer) (s := s) (H := H) (E := E)
  exact (gss_one (gs_ret (ge_tup (ga_cons (ge_len V.f_len (ga_cons (ge_var 0) ga_nil)) (ga_cons (ge_tuple V.f_tuple (ga_cons (ge_lc (own := [("_law_pair", 1)]) rfl Sc.nd (gi_seq (ge_call h__law_pairs (hr.mono (by decide)) tk (ga_cons (ge_len V.f_len (ga_cons (ge_var 0) ga_nil)) ga_nil))) (blkOk_by (by kernel_rfl)) (.inl rfl) (fun _ => (gg_name 1 Sc.nd (.inl rfl))) (fun _ => (gts_one (GW.gb (gw_and (gb_cmp op_le og_le (ge_ix (ge_ix (ge_var 0) (ge_ix (ge_var 1) ge_int)) ge_int) (ge_ix (ge_ix (ge_var 0) (ge_ix (ge_var 1) ge_int)) ge_int)) (gw_and1 (gb_cmp op_le og_le (ge_ix (ge_ix (ge_var 0) (ge_ix (ge_var 1) ge_int)) ge_int) (ge_ix (ge_ix (ge_var 0) (ge_ix (ge_var 1) ge_int)) ge_int))))))) (fun _ => (ge_var 1)) (by decide)) ga_nil)) ga_nil)))))
theorem b__law_turned_graph {P : Program} {w : World} {K : PySem.W.Frag} {mg : Str → Option Value} {base : Heap} {f : Addr} {cd : Value} {A : Around} {outer : List Env} {s : Shared} {H : Hp} {E : XK} {p pq : Addr} (V : HD.Ev K mg) (hr : Room 1 (A.deeper (envOfC "_law_turned_graph" (defScope (top 28)) s.heap.objs.size f cd))) (h__law_pairs : Pr P w K mg base 1 "_law_pairs" 1 false S__law_pairs) :
    GSs (cxD P w K mg base N28 "_law_turned_graph" (defScope (top 28)) f cd A outer s H E) ⟨H, none, 0, pq, fun a => (none : Option Addr) ≠ some a, RR K H⟩ (WD E) (defBody (top 28)) t__law_turned_graph := by
  have hu := HU.of hr
  have Sc := sc28
  have tk : Takes (cxD P w K mg base N28 "_law_turned_graph" (defScope (top 28)) f cd A outer s H E) (WD E) := takesD
  have hpo := poD (P := P) (w := w) (K := K) (mg := mg) (base := base) (N := N28) (qual := "_law_turned_graph") (scope := defScope (top 28)) (f := f) (cd := cd) (A := A) (outer := outer) (s := s) (H := H) (E := E)
  exact (gss_cons (gs_set (k := 2) Sc.nd (ge_list V.f_list (ga_cons (ge_var 0) ga_nil)) (.inl rfl)) (gss_cons (gs_set (k := 3) Sc.nd (ge_list V.f_list (ga_cons (ge_var 1) ga_nil)) (.inl rfl)) (gss_cons (gs_set (k := 4) Sc.nd (ge_lst ga_nil) (.inl rfl)) (gss_cons (gs_for hpo rfl (gi_seq (ge_call h__law_pairs (hr.mono (by decide)) tk (ga_cons (ge_len V.f_len (ga_cons (ge_var 2) ga_nil)) ga_nil))) (gg_tup 2 rfl (ggs_cons (gg_name 5 Sc.nd (.inl rfl)) (ggs_cons (gg_name 6 Sc.nd (.inl rfl)) ggs_nil))) (gss_one (gs_if (gb_cmp (op_neA hu.a64) og_ne (ge_cmp (op_ltA hu.a0) og_lt (ge_index hu.a65 (ge_var 2) (ge_var 5)) (ge_index hu.a65 (ge_var 2) (ge_var 6))) (ge_cmp (op_ltA hu.a0) og_lt (ge_index hu.a65 (ge_var 3) (ge_var 5)) (ge_index hu.a65 (ge_var 3) (ge_var 6)))) (gss_one (gs_append 4 (ge_tup (ga_cons (ge_var 5) (ga_cons (ge_var 6) ga_nil))))) gss_nil))) (gss_one (gs_ret (ge_tup (ga_cons (ge_len V.f_len (ga_cons (ge_var 2) ga_nil)) (ga_cons (ge_tuple V.f_tuple (ga_cons (ge_var 4) ga_nil)) ga_nil)))))))))
theorem b__law_ordered_graph {P : Program} {w : World} {K : PySem.W.Frag} {mg : Str → Option Value} {base : Heap} {f : Addr} {cd : Value} {A : Around} {outer : List Env} {s : Shared} {H : Hp} {E : XK} {p pq : Addr} (V : HD.Ev K mg) (hr : Room 2 (A.deeper (envOfC "_law_ordered_graph" (defScope (top 29)) s.heap.objs.size f cd))) (h__law_draw : Pr P w K mg base 2 "_law_draw" 1 true S__law_draw) (h__law_pairs : Pr P w K mg base 1 "_law_pairs" 1 false S__law_pairs) :
    GSs (cxD P w K mg base N29 "_law_ordered_graph" (defScope (top 29)) f cd A outer s H E) ⟨H, some p, 0, pq, fun a => some p ≠ some a, RR K H⟩ (WD E) (defBody (top 29)) t__law_ordered_graph := by
  have hu := HU.of hr
  have Sc := sc29
  have tk : Takes (cxD P w K mg base N29 "_law_ordered_graph" (defScope (top 29)) f cd A outer s H E) (WD E) := takesD
  have hpo := poD (P := P) (w := w) (K := K) (mg := mg) (base := base) (N := N29) (qual := "_law_ordered_graph") (scope := defScope (top 29)) (f := f) (cd := cd) (A := A) (outer := outer) (s := s) (H := H) (E := E)
  exact (gss_cons (gs_newMB (own := [("_law_u", 4)]) 2 rfl Sc.nd (gi_range1 V.f_range (ga_cons (ge_var 1) ga_nil)) (blkOk_by (by kernel_rfl)) (.inr (show (0 : Nat) ∉ ([4] : List Nat) by decide)) (.inr (show (2 : Nat) ≠ 0 by decide)) (fun _ => (gg_name 4 Sc.nd (.inr (show (4 : Nat) ≠ 0 by decide)))) (fun _ => (ge_lc (own := [("_law_v", 3)]) rfl Sc.nd (gi_range1 V.f_range (ga_cons (ge_var 1) ga_nil)) (blkOk_by (by kernel_rfl)) (.inr (show (0 : Nat) ∉ ([3] : List Nat) by decide)) (fun _ => (gg_name 3 Sc.nd (.inr (show (3 : Nat) ≠ 0 by decide)))) (fun _ => gts_nil) (fun _ => (ge_and' (ge_cmp (op_ltA hu.a0) og_lt (ge_var 4) (ge_var 3)) (ge_one (ge_cmp (op_eqA hu.a64) og_eq (ge_callP h__law_draw (hr.mono (by decide)) takes0 ⟨_, rfl⟩ rfl (ga_cons ge_int ga_nil)) ge_int)))) (by decide))) (by decide)) (gss_cons (gs_for hpo rfl (gi_range1 V.f_range (ga_cons (ge_var 1) ga_nil)) (gg_name 5 Sc.nd (.inr (show (5 : Nat) ≠ 0 by decide))) (gss_one (gs_for hpo rfl (gi_range1 V.f_range (ga_cons (ge_var 1) ga_nil)) (gg_name 4 Sc.nd (.inr (show (4 : Nat) ≠ 0 by decide))) (gss_one (gs_for hpo rfl (gi_range1 V.f_range (ga_cons (ge_var 1) ga_nil)) (gg_name 3 Sc.nd (.inr (show (3 : Nat) ≠ 0 by decide))) (gss_one (gs_setMB 2 (ge_or' (ge_mb 2 (ge_var 4) (ge_var 3)) (ge_one (ge_and' (ge_mb 2 (ge_var 4) (ge_var 5)) (ge_one (ge_mb 2 (ge_var 5) (ge_var 3)))))) (ge_var 4) (ge_var 3)))))))) (gss_one (gs_ret (ge_tup (ga_cons (ge_var 1) (ga_cons (ge_tuple V.f_tuple (ga_cons (ge_lc (own := [("_law_pair", 6)]) rfl Sc.nd (gi_seq (ge_call h__law_pairs (hr.mono (by decide)) tk (ga_cons (ge_var 1) ga_nil))) (blkOk_by (by kernel_rfl)) (.inr (show (0 : Nat) ∉ ([6] : List Nat) by decide)) (fun _ => (gg_name 6 Sc.nd (.inr (show (6 : Nat) ≠ 0 by decide)))) (fun _ => (gts_one (gb_truth (ge_mb 2 (ge_ix (ge_var 6) ge_int) (ge_ix (ge_var 6) ge_int))))) (fun _ => (ge_var 6)) (by decide)) ga_nil)) ga_nil)))))))
theorem b__law_clique_graph {P : Program} {w : World} {K : PySem.W.Frag} {mg : Str → Option Value} {base : Heap} {f : Addr} {cd : Value} {A : Around} {outer : List Env} {s : Shared} {H : Hp} {E : XK} {p pq : Addr} (V : HD.Ev K mg) (hr : Room 2 (A.deeper (envOfC "_law_clique_graph" (defScope (top 30)) s.heap.objs.size f cd))) (h__law_draw : Pr P w K mg base 2 "_law_draw" 1 true S__law_draw) :
    GSs (cxD P w K mg base N30 "_law_clique_graph" (defScope (top 30)) f cd A outer s H E) ⟨H, some p, 0, pq, fun a => some p ≠ some a, RR K H⟩ (WD E) (defBody (top 30)) t__law_clique_graph := by
  have hu := HU.of hr
  have Sc := sc30
  have tk : Takes (cxD P w K mg base N30 "_law_clique_graph" (defScope (top 30)) f cd A outer s H E) (WD E) := takesD
  have hpo := poD (P := P) (w := w) (K := K) (mg := mg) (base := base) (N := N30) (qual := "_law_clique_graph") (scope := defScope (top 30)) (f := f) (cd := cd) (A := A) (outer := outer) (s := s) (H := H) (E := E)
  exact (gss_cons (gs_set (k := 2) Sc.nd (ge_lst (ga_cons (ge_lst ga_nil) ga_nil)) (.inr (show (2 : Nat) ≠ 0 by decide))) (gss_cons (gs_set (k := 3) Sc.nd (ge_lst ga_nil) (.inr (show (3 : Nat) ≠ 0 by decide))) (gss_cons (gs_for hpo rfl (gi_range1 V.f_range (ga_cons (ge_var 1) ga_nil)) (gg_name 4 Sc.nd (.inr (show (4 : Nat) ≠ 0 by decide))) (gss_cons (gs_set (k := 5) Sc.nd (ge_ix (ge_var 2) (ge_callP h__law_draw (hr.mono (by decide)) tk ⟨_, rfl⟩ rfl (ga_cons (ge_len V.f_len (ga_cons (ge_var 2) ga_nil)) ga_nil))) (.inr (show (5 : Nat) ≠ 0 by decide))) (gss_cons (gs_setLc (own := [("_law_u", 7)]) 6 rfl Sc.nd (gi_seq (ge_var 5)) (blkOk_by (by kernel_rfl)) (.inr (show (0 : Nat) ∉ ([7] : List Nat) by decide)) (.inr (show (6 : Nat) ≠ 0 by decide)) (fun _ => (gg_name 7 Sc.nd (.inr (show (7 : Nat) ≠ 0 by decide)))) (fun _ => (gts_one (gb_cmp op_gt og_gt (ge_callP h__law_draw (hr.mono (by decide)) takes0 ⟨_, rfl⟩ rfl (ga_cons ge_int ga_nil)) ge_int))) (fun _ => (ge_var 7)) (by decide) (by kernel_rfl)) (gss_cons (gs_set (k := 3) Sc.nd (ge_add (ge_var 3) (ge_lc (own := [("_law_u", 7)]) rfl Sc.nd (gi_seq (ge_var 6)) (blkOk_by (by kernel_rfl)) (.inr (show (0 : Nat) ∉ ([7] : List Nat) by decide)) (fun _ => (gg_name 7 Sc.nd (.inr (show (7 : Nat) ≠ 0 by decide)))) (fun _ => gts_nil) (fun _ => (ge_tup (ga_cons (ge_var 7) (ga_cons (ge_var 4) ga_nil)))) (by decide))) (.inr (show (3 : Nat) ≠ 0 by decide))) (gss_one (gs_append 2 (ge_add (ge_var 6) (ge_lst (ga_cons (ge_var 4) ga_nil))))))))) (gss_one (gs_ret (ge_tup (ga_cons (ge_var 1) (ga_cons (ge_tuple V.f_tuple (ga_cons (ge_srt hu.a65 V.f_sorted (ga_cons (ge_var 3) ga_nil)) ga_nil)) ga_nil))))))))
theorem b__law_drawn_tree {P : Program} {w : World} {K : PySem.W.Frag} {mg : Str → Option Value} {base : Heap} {f : Addr} {cd : Value} {A : Around} {outer : List Env} {s : Shared} {H : Hp} {E : XK} {p pq : Addr} (V : HD.Ev K mg) (hr : Room 2 (A.deeper (envOfC "_law_drawn_tree" (defScope (top 31)) s.heap.objs.size f cd))) (h__law_draw : Pr P w K mg base 2 "_law_draw" 1 true S__law_draw) :
    GSs (cxD P w K mg base N31 "_law_drawn_tree" (defScope (top 31)) f cd A outer s H E) ⟨H, some p, 0, pq, fun a => some p ≠ some a, RR K H⟩ (WD E) (defBody (top 31)) t__law_drawn_tree := by
  have hu := HU.of hr
  have Sc := sc31
  have tk : Takes (cxD P w K mg base N31 "_law_drawn_tree" (defScope (top 31)) f cd A outer s H E) (WD E) := takesD
  have hpo := poD (P := P) (w := w) (K := K) (mg := mg) (base := base) (N := N31) (qual := "_law_drawn_tree") (scope := defScope (top 31)) (f := f) (cd := cd) (A := A) (outer := outer) (s := s) (H := H) (E := E)
  exact (gss_cons (gs_set (k := 2) Sc.nd (ge_list V.f_list (ga_cons (ge_var 1) ga_nil)) (.inr (show (2 : Nat) ≠ 0 by decide))) (gss_cons (gs_for hpo rfl (gi_range1 V.f_range (ga_cons (ge_sub (ge_len V.f_len (ga_cons (ge_var 2) ga_nil)) ge_int) ga_nil)) (gg_name 3 Sc.nd (.inr (show (3 : Nat) ≠ 0 by decide))) (gss_one (gs_if (gb_cmp op_gt og_gt (ge_len V.f_len (ga_cons (ge_var 2) ga_nil)) ge_int) (gss_cons (gs_set (k := 4) Sc.nd (ge_min2 rfl V.f_min (ga_cons (ge_len V.f_len (ga_cons (ge_var 2) ga_nil)) (ga_cons (ge_add ge_int (ge_callP h__law_draw (hr.mono (by decide)) tk ⟨_, rfl⟩ rfl (ga_cons ge_int ga_nil))) ga_nil))) (.inr (show (4 : Nat) ≠ 0 by decide))) (gss_cons (gs_setLcPop (own := [("_law_j", 6)]) 5 2 rfl Sc.nd (gi_range1 V.f_range (ga_cons (ge_var 4) ga_nil)) (blkOk_by (by kernel_rfl)) (.inr (show (0 : Nat) ∉ ([6] : List Nat) by decide)) (.inr (show (5 : Nat) ≠ 0 by decide)) (by decide) (by decide) (fun _ => (gg_name 6 Sc.nd (.inr (show (6 : Nat) ≠ 0 by decide)))) (fun _ => (ge_callP h__law_draw (hr.mono (by decide)) takes0 ⟨_, rfl⟩ rfl (ga_cons (ge_len V.f_len (ga_cons (ge_var 2) ga_nil)) ga_nil))) (by decide) (hsw := by kernel_rfl)) (gss_one (gs_append 2 (ge_add (ge_tup (ga_cons (ge_ix (ge_lst (ga_cons ge_str (ga_cons ge_str ga_nil))) (ge_callP h__law_draw (hr.mono (by decide)) tk ⟨_, rfl⟩ rfl (ga_cons ge_int ga_nil))) ga_nil)) (ge_tuple V.f_tuple (ga_cons (ge_var 5) ga_nil))))))) gss_nil))) (gss_one (gs_ret (ge_ix (ge_var 2) ge_int)))))
theorem b__law_leaves {P : Program} {w : World} {K : PySem.W.Frag} {mg : Str → Option Value} {base : Heap} {f : Addr} {cd : Value} {A : Around} {outer : List Env} {s : Shared} {H : Hp} {E : XK} {p pq : Addr} {n : Nat} (V : HD.Ev K mg) (hr : Room (0 + n) (A.deeper (envOfC "_law_leaves" (defScope (top 32)) s.heap.objs.size f cd))) (h__law_leaves : Pr P w K mg base (0 + n) "_law_leaves" 1 false (S__law_leaves n)) :
    GSs (cxD P w K mg base N32 "_law_leaves" (defScope (top 32)) f cd A outer s H E) ⟨H, none, 0, pq, fun a => (none : Option Addr) ≠ some a, RR K H⟩ (WD E) (defBody (top 32)) (t__law_leaves n) := by
  have hu := HU.of hr
  have Sc := sc32
  have tk : Takes (cxD P w K mg base N32 "_law_leaves" (defScope (top 32)) f cd A outer s H E) (WD E) := takesD
  have hpo := poD (P := P) (w := w) (K := K) (mg := mg) (base := base) (N := N32) (qual := "_law_leaves") (scope := defScope (top 32)) (f := f) (cd := cd) (A := A) (outer := outer) (s := s) (H := H) (E := E)
  exact (gss_cons (gs_if (gb_not (gb_truth (ge_isi kit_tuple V.f_isinstance V.f_tuple (by decide +kernel) (ge_var 0)))) (gss_one (gs_ret (ge_lst (ga_cons (ge_var 0) ga_nil)))) gss_nil) (gss_cons (gs_set (k := 1) Sc.nd (ge_lst ga_nil) (.inl rfl)) (gss_cons (gs_for hpo rfl (gi_seq (ge_sl (ge_var 0) (go_some ge_int) go_none)) (gg_name 2 Sc.nd (.inl rfl)) (gss_one (gs_set (k := 1) Sc.nd (ge_add (ge_var 1) (ge_call h__law_leaves (hr.mono (by first | decide | omega)) tk (ga_cons (ge_var 2) ga_nil))) (.inl rfl)))) (gss_one (gs_ret (ge_var 1))))))
theorem b__law_tree_pairs {P : Program} {w : World} {K : PySem.W.Frag} {mg : Str → Option Value} {base : Heap} {f : Addr} {cd : Value} {A : Around} {outer : List Env} {s : Shared} {H : Hp} {E : XK} {p pq : Addr} {n : Nat} (V : HD.Ev K mg) (hr : Room (12 + n) (A.deeper (envOfC "_law_tree_pairs" (defScope (top 33)) s.heap.objs.size f cd))) (h__law_leaves : Pr P w K mg base 12 "_law_leaves" 1 false (S__law_leaves 12)) (h__law_tree_pairs : Pr P w K mg base (12 + n) "_law_tree_pairs" 1 false (S__law_tree_pairs n)) :
    GSs (cxD P w K mg base N33 "_law_tree_pairs" (defScope (top 33)) f cd A outer s H E) ⟨H, none, 0, pq, fun a => (none : Option Addr) ≠ some a, RR K H⟩ (WD E) (defBody (top 33)) (t__law_tree_pairs n) := by
  have hu := HU.of hr
  have Sc := sc33
  have tk : Takes (cxD P w K mg base N33 "_law_tree_pairs" (defScope (top 33)) f cd A outer s H E) (WD E) := takesD
  have hpo := poD (P := P) (w := w) (K := K) (mg := mg) (base := base) (N := N33) (qual := "_law_tree_pairs") (scope := defScope (top 33)) (f := f) (cd := cd) (A := A) (outer := outer) (s := s) (H := H) (E := E)
  exact (gss_cons (gs_if (gb_not (gb_truth (ge_isi kit_tuple V.f_isinstance V.f_tuple (by decide +kernel) (ge_var 0)))) (gss_one (gs_ret (ge_lst ga_nil))) gss_nil) (gss_cons (gs_set (k := 1) Sc.nd (ge_lst ga_nil) (.inl rfl)) (gss_cons (gs_set (k := 2) Sc.nd (ge_lst ga_nil) (.inl rfl)) (gss_cons (gs_for hpo rfl (gi_seq (ge_sl (ge_var 0) (go_some ge_int) go_none)) (gg_name 3 Sc.nd (.inl rfl)) (gss_cons (gs_set (k := 1) Sc.nd (ge_add (ge_var 1) (ge_call h__law_tree_pairs (hr.mono (by first | decide | omega)) tk (ga_cons (ge_var 3) ga_nil))) (.inl rfl)) (gss_cons (gs_set (k := 4) Sc.nd (ge_call h__law_leaves (hr.mono (by first | decide | omega)) tk (ga_cons (ge_var 3) ga_nil)) (.inl rfl)) (gss_cons (gs_if (gb_cmp (op_eqA hu.a64) og_eq (ge_ix (ge_var 0) ge_int) ge_str) (gss_one (gs_frz 2 (gs_for hpo rfl (gi_seq (ge_var 2)) (gg_name 5 Sc.nd (.inl rfl)) (gss_one (gs_set (k := 1) Sc.nd (ge_add (ge_var 1) (ge_lc (own := [("_law_v", 6)]) rfl Sc.nd (gi_seq (ge_var 4)) (blkOk_by (by kernel_rfl)) (.inl rfl) (fun _ => (gg_name 6 Sc.nd (.inl rfl))) (fun _ => gts_nil) (fun _ => (ge_tup (ga_cons (ge_min2 rfl V.f_min (ga_cons (ge_var 5) (ga_cons (ge_var 6) ga_nil))) (ga_cons (ge_max2 rfl V.f_max (ga_cons (ge_var 5) (ga_cons (ge_var 6) ga_nil))) ga_nil)))) (by first | decide | omega))) (.inl rfl)))))) gss_nil) (gss_one (gs_set (k := 2) Sc.nd (ge_add (ge_var 2) (ge_var 4)) (.inl rfl))))))) (gss_one (gs_ret (ge_var 1)))))))
theorem b__law_graph {P : Program} {w : World} {K : PySem.W.Frag} {mg : Str → Option Value} {base : Heap} {f : Addr} {cd : Value} {A : Around} {outer : List Env} {s : Shared} {H : Hp} {E : XK} {p pq : Addr} (V : HD.Ev K mg) (hr : Room 24 (A.deeper (envOfC "_law_graph" (defScope (top 34)) s.heap.objs.size f cd))) (h__law_clique_graph : Pr P w K mg base 3 "_law_clique_graph" 1 true S__law_clique_graph) (h__law_draw : Pr P w K mg base 2 "_law_draw" 1 true S__law_draw) (h__law_drawn_tree : Pr P w K mg base 3 "_law_drawn_tree" 1 true S__law_drawn_tree) (h__law_interval_graph : Pr P w K mg base 2 "_law_interval_graph" 1 false S__law_interval_graph) (h__law_interval_rows : Pr P w K mg base 3 "_law_interval_rows" 1 true S__law_interval_rows) (h__law_moved : Pr P w K mg base 3 "_law_moved" 2 false S__law_moved) (h__law_of : Pr P w K mg base 2 "_law_of" 2 false S__law_of) (h__law_ordered_graph : Pr P w K mg base 3 "_law_ordered_graph" 1 true S__law_ordered_graph) (h__law_other : Pr P w K mg base 2 "_law_other" 1 false S__law_other) (h__law_random_graph : Pr P w K mg base 3 "_law_random_graph" 1 true S__law_random_graph) (h__law_ringed : Pr P w K mg base 3 "_law_ringed" 1 true S__law_ringed) (h__law_shuffled : Pr P w K mg base 3 "_law_shuffled" 1 true S__law_shuffled) (h__law_tree_pairs : Pr P w K mg base 24 "_law_tree_pairs" 1 false (S__law_tree_pairs 12)) (h__law_turned_graph : Pr P w K mg base 2 "_law_turned_graph" 2 false S__law_turned_graph) :
    GSs (cxD P w K mg base N34 "_law_graph" (defScope (top 34)) f cd A outer s H E) ⟨H, some p, 0, pq, fun a => some p ≠ some a, RR K H⟩ (WD E) (defBody (top 34)) t__law_graph := by
  have hu := HU.of hr
  have Sc := sc34
  have tk : Takes (cxD P w K mg base N34 "_law_graph" (defScope (top 34)) f cd A outer s H E) (WD E) := takesD
  have hpo := poD (P := P) (w := w) (K := K) (mg := mg) (base := base) (N := N34) (qual := "_law_graph") (scope := defScope (top 34)) (f := f) (cd := cd) (A := A) (outer := outer) (s := s) (H := H) (E := E)
  exact (gss_cons (gs_set (k := 2) Sc.nd (ge_callP h__law_draw (hr.mono (by decide)) tk ⟨_, rfl⟩ rfl (ga_cons ge_int ga_nil)) (.inr (show (2 : Nat) ≠ 0 by decide))) (gss_cons (gs_set (k := 3) Sc.nd (ge_ix (ge_lst (ga_cons (ge_var 1) (ga_cons (ge_add ge_int (ge_callP h__law_draw (hr.mono (by decide)) tk ⟨_, rfl⟩ rfl (ga_cons (ge_var 1) ga_nil))) ga_nil))) (ge_toInt V.f_int (ga_cons (ge_cmp (op_eqA hu.a64) og_eq (ge_callP h__law_draw (hr.mono (by decide)) tk ⟨_, rfl⟩ rfl (ga_cons ge_int ga_nil)) ge_int) ga_nil))) (.inr (show (3 : Nat) ≠ 0 by decide))) (gss_cons (gs_if (gb_cmp (op_eqA hu.a64) og_eq (ge_var 2) ge_int) (gss_one (gs_set (k := 4) Sc.nd (ge_call h__law_interval_graph (hr.mono (by decide)) tk (ga_cons (ge_callP h__law_interval_rows (hr.mono (by decide)) tk ⟨_, rfl⟩ rfl (ga_cons (ge_var 3) ga_nil)) ga_nil)) (.inr (show (4 : Nat) ≠ 0 by decide)))) (gss_one (gs_if (gb_cmp (op_eqA hu.a64) og_eq (ge_var 2) ge_int) (gss_one (gs_set (k := 4) Sc.nd (ge_call h__law_turned_graph (hr.mono (by decide)) tk (ga_cons (ge_lr1 rfl V.f_list V.f_range (ge_var 3)) (ga_cons (ge_callP h__law_shuffled (hr.mono (by decide)) tk ⟨_, rfl⟩ rfl (ga_cons (ge_lr1 rfl V.f_list V.f_range (ge_var 3)) ga_nil)) ga_nil))) (.inr (show (4 : Nat) ≠ 0 by decide)))) (gss_one (gs_if (gb_cmp (op_eqA hu.a64) og_eq (ge_var 2) ge_int) (gss_one (gs_set (k := 4) Sc.nd (ge_callP h__law_ordered_graph (hr.mono (by decide)) tk ⟨_, rfl⟩ rfl (ga_cons (ge_var 3) ga_nil)) (.inr (show (4 : Nat) ≠ 0 by decide)))) (gss_one (gs_if (gb_cmp (op_eqA hu.a64) og_eq (ge_var 2) ge_int) (gss_one (gs_set (k := 4) Sc.nd (ge_callP h__law_clique_graph (hr.mono (by decide)) tk ⟨_, rfl⟩ rfl (ga_cons (ge_var 3) ga_nil)) (.inr (show (4 : Nat) ≠ 0 by decide)))) (gss_one (gs_if (gb_cmp (op_eqA hu.a64) og_eq (ge_var 2) ge_int) (gss_one (gs_set (k := 4) Sc.nd (ge_call h__law_of (hr.mono (by decide)) tk (ga_cons (ge_var 3) (ga_cons (ge_call h__law_tree_pairs (hr.mono (by decide)) tk (ga_cons (ge_callP h__law_drawn_tree (hr.mono (by decide)) tk ⟨_, rfl⟩ rfl (ga_cons (ge_lr1 rfl V.f_list V.f_range (ge_var 3)) ga_nil)) ga_nil)) ga_nil))) (.inr (show (4 : Nat) ≠ 0 by decide)))) (gss_one (gs_if (gb_cmp (op_ltA hu.a0) og_lt (ge_var 2) ge_int) (gss_one (gs_set (k := 4) Sc.nd (ge_callP h__law_ringed (hr.mono (by decide)) tk ⟨_, rfl⟩ rfl (ga_cons (ge_var 3) ga_nil)) (.inr (show (4 : Nat) ≠ 0 by decide)))) (gss_one (gs_if (gb_cmp (op_eqA hu.a64) og_eq (ge_var 2) ge_int) (gss_one (gs_set (k := 4) Sc.nd (ge_call h__law_other (hr.mono (by decide)) tk (ga_cons (ge_callP h__law_clique_graph (hr.mono (by decide)) tk ⟨_, rfl⟩ rfl (ga_cons (ge_var 3) ga_nil)) ga_nil)) (.inr (show (4 : Nat) ≠ 0 by decide)))) (gss_one (gs_set (k := 4) Sc.nd (ge_callP h__law_random_graph (hr.mono (by decide)) tk ⟨_, rfl⟩ rfl (ga_cons (ge_var 1) ga_nil)) (.inr (show (4 : Nat) ≠ 0 by decide))))))))))))))))) (gss_cons (gs_if (gb_cmp (op_eqA hu.a64) og_eq (ge_callP h__law_draw (hr.mono (by decide)) tk ⟨_, rfl⟩ rfl (ga_cons ge_int ga_nil)) ge_int) (gss_one (gs_set (k := 4) Sc.nd (ge_call h__law_other (hr.mono (by decide)) tk (ga_cons (ge_var 4) ga_nil)) (.inr (show (4 : Nat) ≠ 0 by decide)))) gss_nil) (gss_cons (gs_if (gb_cmp op_gt og_gt (ge_callP h__law_draw (hr.mono (by decide)) tk ⟨_, rfl⟩ rfl (ga_cons ge_int ga_nil)) ge_int) (gss_one (gs_set (k := 4) Sc.nd (ge_call h__law_moved (hr.mono (by decide)) tk (ga_cons (ge_var 4) (ga_cons (ge_callP h__law_shuffled (hr.mono (by decide)) tk ⟨_, rfl⟩ rfl (ga_cons (ge_lr1 rfl V.f_list V.f_range (ge_ix (ge_var 4) ge_int)) ga_nil)) ga_nil))) (.inr (show (4 : Nat) ≠ 0 by decide)))) gss_nil) (gss_one (gs_ret (ge_var 4))))))))
theorem b__law_strange {P : Program} {w : World} {K : PySem.W.Frag} {mg : Str → Option Value} {base : Heap} {f : Addr} {cd : Value} {A : Around} {outer : List Env} {s : Shared} {H : Hp} {E : XK} {p pq : Addr} {PP : Addr → Prop} (V : HD.Ev K mg) (hr : Room 2 (A.deeper (envOfC "_law_strange" (defScope (top 35)) s.heap.objs.size f cd))) (h__law_draw : Pr P w K mg base 2 "_law_draw" 1 true S__law_draw) (h__law_is_int : Pr P w K mg base 1 "_law_is_int" 1 false S__law_is_int) :
    GSs (cxD P w K mg base N35 "_law_strange" (defScope (top 35)) f cd A outer s H E) ⟨H, some p, 0, pq, PP, RO K H PP⟩ (WD E) (defBody (top 35)) t__law_strange := by
  have hu := HU.of hr
  have Sc := sc35
  have tk : Takes (cxD P w K mg base N35 "_law_strange" (defScope (top 35)) f cd A outer s H E) (WD E) := takesD
  have hpo := poD (P := P) (w := w) (K := K) (mg := mg) (base := base) (N := N35) (qual := "_law_strange") (scope := defScope (top 35)) (f := f) (cd := cd) (A := A) (outer := outer) (s := s) (H := H) (E := E)
  exact (gss_cons (gs_if (GW.gb (gw_and (gb_truth (ge_call h__law_is_int (hr.mono (by decide)) tk (ga_cons (ge_var 1) ga_nil))) (gw_and1 (gb_cmp op_gt og_gt (ge_callP h__law_draw (hr.mono (by decide)) tk ⟨_, rfl⟩ rfl (ga_cons ge_int ga_nil)) ge_int)))) (gss_one (gs_retO (ge_ix (ge_lst (ga_cons (ge_add (ge_var 1) ge_int) (ga_cons (ge_sub (ge_var 1) ge_int) (ga_cons (ge_callP h__law_draw (hr.mono (by decide)) tk ⟨_, rfl⟩ rfl (ga_cons (ge_add (ge_var 2) ge_int) ga_nil)) (ga_cons (ge_neg ge_int) (ga_cons (ge_var 2) ga_nil)))))) (ge_callP h__law_draw (hr.mono (by decide)) tk ⟨_, rfl⟩ rfl (ga_cons ge_int ga_nil))))) gss_nil) (gss_cons (gs_set (k := 3) Sc.nd (ge_lst (ga_cons ge_non (ga_cons ge_bl (ga_cons ge_bl (ga_cons ge_str (ga_cons (ge_tup ga_nil) (ga_cons (ge_lst ga_nil) (ga_cons ge_dic0 (ga_cons ge_int (ga_cons (ge_var 2) (ga_cons (ge_tup (ga_cons ge_int ga_nil)) (ga_cons ge_str (ga_cons (ge_tup (ga_cons (ge_tup ga_nil) ga_nil)) (ga_cons (ge_neg ge_int) ga_nil)))))))))))))) (.inr (show (3 : Nat) ≠ 0 by decide))) (gss_cons (gs_if (gb_truth (ge_isi kit_tuple V.f_isinstance V.f_tuple (by decide +kernel) (ge_var 1))) (gss_one (gs_set (k := 3) Sc.nd (ge_add (ge_var 3) (ge_lst (ga_cons (ge_list V.f_list (ga_cons (ge_var 1) ga_nil)) (ga_cons (ge_add (ge_var 1) (ge_var 1)) (ga_cons (ge_tup (ga_cons (ge_var 1) ga_nil)) (ga_cons (ge_revT (ge_var 1)) ga_nil)))))) (.inr (show (3 : Nat) ≠ 0 by decide)))) (gss_one (gs_set (k := 3) Sc.nd (ge_add (ge_var 3) (ge_lst (ga_cons (ge_tup (ga_cons (ge_var 1) ga_nil)) (ga_cons (ge_lst (ga_cons (ge_var 1) ga_nil)) (ga_cons (ge_cmp (op_eqS hu.a64) og_eqS (ge_var 1) ge_int) (ga_cons (ge_toStr V.f_str (ga_cons (ge_var 2) ga_nil)) ga_nil)))))) (.inr (show (3 : Nat) ≠ 0 by decide))))) (gss_one (gs_retO (ge_ix (ge_var 3) (ge_callP h__law_draw (hr.mono (by decide)) tk ⟨_, rfl⟩ rfl (ga_cons (ge_len V.f_len (ga_cons (ge_var 3) ga_nil)) ga_nil))))))))
theorem b__law_spoilt {P : Program} {w : World} {K : PySem.W.Frag} {mg : Str → Option Value} {base : Heap} {f : Addr} {cd : Value} {A : Around} {outer : List Env} {s : Shared} {H : Hp} {E : XK} {p pq : Addr} {PP : Addr → Prop} {n : Nat} (V : HD.Ev K mg) (hr : Room (3 + n) (A.deeper (envOfC "_law_spoilt" (defScope (top 36)) s.heap.objs.size f cd))) (h__law_draw : Pr P w K mg base 2 "_law_draw" 1 true S__law_draw) (h__law_spoilt : PrO P w K mg base (3 + n) "_law_spoilt" 2 true (S__law_spoilt n)) (h__law_strange : PrO P w K mg base 3 "_law_strange" 2 true S__law_strange) :
    GSs (cxD P w K mg base N36 "_law_spoilt" (defScope (top 36)) f cd A outer s H E) ⟨H, some p, 0, pq, PP, RO K H PP⟩ (WD E) (defBody (top 36)) (t__law_spoilt n) := by
  have hu := HU.of hr
  have Sc := sc36
  have tk : Takes (cxD P w K mg base N36 "_law_spoilt" (defScope (top 36)) f cd A outer s H E) (WD E) := takesD
  have hpo := poD (P := P) (w := w) (K := K) (mg := mg) (base := base) (N := N36) (qual := "_law_spoilt") (scope := defScope (top 36)) (f := f) (cd := cd) (A := A) (outer := outer) (s := s) (H := H) (E := E)
  exact (gss_cons (gs_if (GW.gb (gw_or (gb_not (gb_truth (ge_isi kit_tuple V.f_isinstance V.f_tuple (by decide +kernel) (ge_var 1)))) (gw_or (gb_cmp (op_eqS hu.a64) og_eqS (ge_var 1) (ge_tup ga_nil)) (gw_or1 (gb_cmp (op_eqS hu.a64) og_eqS (ge_callP h__law_draw (hr.mono (by first | decide | omega)) tk ⟨_, rfl⟩ rfl (ga_cons ge_int ga_nil)) ge_int))))) (gss_one (gs_retO (ge_callPO h__law_strange (hr.mono (by first | decide | omega)) tk ⟨_, rfl⟩ rfl (ga_cons (ge_var 1) (ga_cons (ge_var 2) ga_nil))))) gss_nil) (gss_cons (gs_set (k := 3) Sc.nd (ge_callP h__law_draw (hr.mono (by first | decide | omega)) tk ⟨_, rfl⟩ rfl (ga_cons (ge_len V.f_len (ga_cons (ge_var 1) ga_nil)) ga_nil)) (.inr (show (3 : Nat) ≠ 0 by decide))) (gss_cons (gs_set (k := 4) Sc.nd (ge_callP h__law_draw (hr.mono (by first | decide | omega)) tk ⟨_, rfl⟩ rfl (ga_cons ge_int ga_nil)) (.inr (show (4 : Nat) ≠ 0 by decide))) (gss_cons (gs_if (gb_cmp (op_eqS hu.a64) og_eqS (ge_var 4) ge_int) (gss_one (gs_retO (ge_add (ge_sl (ge_var 1) go_none (go_some (ge_var 3))) (ge_sl (ge_var 1) (go_some (ge_add (ge_var 3) ge_int)) go_none)))) gss_nil) (gss_cons (gs_if (gb_cmp (op_eqS hu.a64) og_eqS (ge_var 4) ge_int) (gss_one (gs_retO (ge_add (ge_add (ge_sl (ge_var 1) go_none (go_some (ge_var 3))) (ge_tup (ga_cons (ge_ix (ge_var 1) (ge_var 3)) ga_nil))) (ge_sl (ge_var 1) (go_some (ge_var 3)) go_none)))) gss_nil) (gss_cons (gs_if (gb_cmp (op_eqS hu.a64) og_eqS (ge_var 4) ge_int) (gss_one (gs_retO (ge_add (ge_add (ge_add (ge_sl (ge_var 1) go_none (go_some (ge_var 3))) (ge_sl (ge_var 1) (go_some (ge_add (ge_var 3) ge_int)) (go_some (ge_add (ge_var 3) ge_int)))) (ge_sl (ge_var 1) (go_some (ge_var 3)) (go_some (ge_add (ge_var 3) ge_int)))) (ge_sl (ge_var 1) (go_some (ge_add (ge_var 3) ge_int)) go_none)))) gss_nil) (gss_cons (gs_if (gb_cmp (op_eqS hu.a64) og_eqS (ge_var 4) ge_int) (gss_one (gs_retO (ge_add (ge_var 1) (ge_tup (ga_cons (ge_callP h__law_draw (hr.mono (by first | decide | omega)) tk ⟨_, rfl⟩ rfl (ga_cons (ge_var 2) ga_nil)) ga_nil))))) gss_nil) (gss_one (gs_retO (ge_add (ge_add (ge_sl (ge_var 1) go_none (go_some (ge_var 3))) (ge_tup (ga_cons (ge_callPO h__law_spoilt (hr.mono (by first | decide | omega)) tk ⟨_, rfl⟩ rfl (ga_cons (ge_ix (ge_var 1) (ge_var 3)) (ga_cons (ge_var 2) ga_nil))) ga_nil))) (ge_sl (ge_var 1) (go_some (ge_add (ge_var 3) ge_int)) go_none)))))))))))
theorem b__law_kinds {P : Program} {w : World} {K : PySem.W.Frag} {mg : Str → Option Value} {base : Heap} {f : Addr} {cd : Value} {A : Around} {outer : List Env} {s : Shared} {H : Hp} {E : XK} {p pq : Addr} (V : HD.Ev K mg) (hr : Room 0 (A.deeper (envOfC "_law_kinds" (defScope (top 37)) s.heap.objs.size f cd))) :
    GSs (cxD P w K mg base N37 "_law_kinds" (defScope (top 37)) f cd A outer s H E) ⟨H, none, 0, pq, fun a => (none : Option Addr) ≠ some a, RR K H⟩ (WD E) (defBody (top 37)) t__law_kinds := by
  have hu := HU.of hr
  have Sc := sc37
  have tk : Takes (cxD P w K mg base N37 "_law_kinds" (defScope (top 37)) f cd A outer s H E) (WD E) := takesD
  have hpo := poD (P := P) (w := w) (K := K) (mg := mg) (base := base) (N := N37) (qual := "_law_kinds") (scope := defScope (top 37)) (f := f) (cd := cd) (A := A) (outer := outer) (s := s) (H := H) (E := E)
  exact (gss_cons (gs_set (k := 0) Sc.nd (ge_lst (ga_cons ge_str (ga_cons ge_str (ga_cons ge_str (ga_cons ge_str (ga_cons ge_str (ga_cons ge_str (ga_cons ge_str (ga_cons ge_str (ga_cons ge_str ga_nil)))))))))) (.inl rfl)) (gss_cons (gs_set (k := 0) Sc.nd (ge_add (ge_var 0) (ge_lst (ga_cons ge_str (ga_cons ge_str (ga_cons ge_str (ga_cons ge_str (ga_cons ge_str (ga_cons ge_str (ga_cons ge_str (ga_cons ge_str (ga_cons ge_str ga_nil))))))))))) (.inl rfl)) (gss_one (gs_ret (ge_add (ge_var 0) (ge_lst (ga_cons ge_str (ga_cons ge_str (ga_cons ge_str (ga_cons ge_str ga_nil))))))))))
theorem b__law_ringed {P : Program} {w : World} {K : PySem.W.Frag} {mg : Str → Option Value} {base : Heap} {f : Addr} {cd : Value} {A : Around} {outer : List Env} {s : Shared} {H : Hp} {E : XK} {p pq : Addr} (V : HD.Ev K mg) (hr : Room 2 (A.deeper (envOfC "_law_ringed" (defScope (top 38)) s.heap.objs.size f cd))) (h__law_draw : Pr P w K mg base 2 "_law_draw" 1 true S__law_draw) (h__law_of : Pr P w K mg base 2 "_law_of" 2 false S__law_of) :
    GSs (cxD P w K mg base N38 "_law_ringed" (defScope (top 38)) f cd A outer s H E) ⟨H, some p, 0, pq, fun a => some p ≠ some a, RR K H⟩ (WD E) (defBody (top 38)) t__law_ringed := by
  have hu := HU.of hr
  have Sc := sc38
  have tk : Takes (cxD P w K mg base N38 "_law_ringed" (defScope (top 38)) f cd A outer s H E) (WD E) := takesD
  have hpo := poD (P := P) (w := w) (K := K) (mg := mg) (base := base) (N := N38) (qual := "_law_ringed") (scope := defScope (top 38)) (f := f) (cd := cd) (A := A) (outer := outer) (s := s) (H := H) (E := E)
  exact (gss_cons (gs_set (k := 2) Sc.nd (ge_sub (ge_var 1) (ge_callP h__law_draw (hr.mono (by decide)) tk ⟨_, rfl⟩ rfl (ga_cons (ge_max2 rfl V.f_max (ga_cons ge_int (ga_cons (ge_sub (ge_var 1) ge_int) ga_nil))) ga_nil))) (.inr (show (2 : Nat) ≠ 0 by decide))) (gss_cons (gs_setLc (own := [("_law_k", 4)]) 3 rfl Sc.nd (gi_range1 V.f_range (ga_cons (ge_var 2) ga_nil)) (blkOk_by (by kernel_rfl)) (.inr (show (0 : Nat) ∉ ([4] : List Nat) by decide)) (.inr (show (3 : Nat) ≠ 0 by decide)) (fun _ => (gg_name 4 Sc.nd (.inr (show (4 : Nat) ≠ 0 by decide)))) (fun _ => (gts_one (gb_cmp op_gt og_gt (ge_var 2) ge_int))) (fun _ => (ge_tup (ga_cons (ge_var 4) (ga_cons (ge_mod (ge_add (ge_var 4) ge_int) (ge_var 2)) ga_nil)))) (by decide) (by kernel_rfl)) (gss_cons (gs_for hpo rfl (gi_range2 V.f_range (ga_cons (ge_var 2) (ga_cons (ge_var 1) ga_nil))) (gg_name 5 Sc.nd (.inr (show (5 : Nat) ≠ 0 by decide))) (gss_one (gs_set (k := 3) Sc.nd (ge_add (ge_var 3) (ge_lc (own := [("_law_u", 6)]) rfl Sc.nd (gi_range1 V.f_range (ga_cons (ge_var 5) ga_nil)) (blkOk_by (by kernel_rfl)) (.inr (show (0 : Nat) ∉ ([6] : List Nat) by decide)) (fun _ => (gg_name 6 Sc.nd (.inr (show (6 : Nat) ≠ 0 by decide)))) (fun _ => (gts_one (gb_cmp (op_eqA hu.a64) og_eq (ge_callP h__law_draw (hr.mono (by decide)) takes0 ⟨_, rfl⟩ rfl (ga_cons ge_int ga_nil)) ge_int))) (fun _ => (ge_tup (ga_cons (ge_var 6) (ga_cons (ge_var 5) ga_nil)))) (by decide))) (.inr (show (3 : Nat) ≠ 0 by decide))))) (gss_one (gs_ret (ge_call h__law_of (hr.mono (by decide)) tk (ga_cons (ge_var 1) (ga_cons (ge_var 3) ga_nil))))))))
theorem b__law_is_graph {P : Program} {w : World} {K : PySem.W.Frag} {mg : Str → Option Value} {base : Heap} {f : Addr} {cd : Value} {A : Around} {outer : List Env} {s : Shared} {H : Hp} {E : XK} {p pq : Addr} (V : HD.Ev K mg) (hr : Room 1 (A.deeper (envOfC "_law_is_graph" (defScope (top 39)) s.heap.objs.size f cd))) (h__law_distinct : Pr P w K mg base 1 "_law_distinct" 1 false S__law_distinct) (h__law_is_int : Pr P w K mg base 1 "_law_is_int" 1 false S__law_is_int) :
    GSs (cxD P w K mg base N39 "_law_is_graph" (defScope (top 39)) f cd A outer s H E) ⟨H, none, 0, pq, fun a => (none : Option Addr) ≠ some a, RR K H⟩ (WD E) (defBody (top 39)) t__law_is_graph := by
  have hu := HU.of hr
  have Sc := sc39
  have tk : Takes (cxD P w K mg base N39 "_law_is_graph" (defScope (top 39)) f cd A outer s H E) (WD E) := takesD
  have hpo := poD (P := P) (w := w) (K := K) (mg := mg) (base := base) (N := N39) (qual := "_law_is_graph") (scope := defScope (top 39)) (f := f) (cd := cd) (A := A) (outer := outer) (s := s) (H := H) (E := E)
  exact (gss_cons (gs_if (GW.gb (gw_or (gb_not (gb_truth (ge_isi kit_tuple V.f_isinstance V.f_tuple (by decide +kernel) (ge_var 0)))) (gw_or (gb_cmp (op_neA hu.a64) og_ne (ge_len V.f_len (ga_cons (ge_var 0) ga_nil)) ge_int) (gw_or (gb_not (gb_truth (ge_call h__law_is_int (hr.mono (by decide)) tk (ga_cons (ge_ix (ge_var 0) ge_int) ga_nil)))) (gw_or1 (gb_not (gb_truth (ge_isi kit_tuple V.f_isinstance V.f_tuple (by decide +kernel) (ge_ix (ge_var 0) ge_int))))))))) (gss_one (gs_ret ge_bl)) gss_nil) (gss_cons (gs_for hpo rfl (gi_seq (ge_ix (ge_var 0) ge_int)) (gg_name 1 Sc.nd (.inl rfl)) (gss_cons (gs_if (GW.gb (gw_or (gb_not (gb_truth (ge_isi kit_tuple V.f_isinstance V.f_tuple (by decide +kernel) (ge_var 1)))) (gw_or (gb_cmp (op_neA hu.a64) og_ne (ge_len V.f_len (ga_cons (ge_var 1) ga_nil)) ge_int) (gw_or (gb_not (gb_truth (ge_call h__law_is_int (hr.mono (by decide)) tk (ga_cons (ge_ix (ge_var 1) ge_int) ga_nil)))) (gw_or1 (gb_not (gb_truth (ge_call h__law_is_int (hr.mono (by decide)) tk (ga_cons (ge_ix (ge_var 1) ge_int) ga_nil))))))))) (gss_one (gs_ret ge_bl)) gss_nil) (gss_one (gs_if (gb_not (gb_ch3 op_le og_le (op_ltA hu.a0) og_lt (op_ltA hu.a0) og_lt ge_int (ge_ix (ge_var 1) ge_int) (ge_ix (ge_var 1) ge_int) (ge_ix (ge_var 0) ge_int))) (gss_one (gs_ret ge_bl)) gss_nil)))) (gss_one (gs_ret (ge_and' (ge_ch op_le og_le op_le og_le ge_int (ge_ix (ge_var 0) ge_int) ge_int) (ge_one (ge_cmp (op_eqA hu.a64) og_eq (ge_list V.f_list (ga_cons (ge_ix (ge_var 0) ge_int) ga_nil)) (ge_call h__law_distinct (hr.mono (by decide)) tk (ga_cons (ge_list V.f_list (ga_cons (ge_ix (ge_var 0) ge_int) ga_nil)) ga_nil)))))))))
theorem b__law_due {P : Program} {w : World} {K : PySem.W.Frag} {mg : Str → Option Value} {base : Heap} {f : Addr} {cd : Value} {A : Around} {outer : List Env} {s : Shared} {H : Hp} {E : XK} {p pq : Addr} (V : HD.Ev K mg) (hr : Room 2 (A.deeper (envOfC "_law_due" (defScope (top 40)) s.heap.objs.size f cd))) (h__law_is_graph : Pr P w K mg base 2 "_law_is_graph" 1 false S__law_is_graph) (h__law_is_int : Pr P w K mg base 1 "_law_is_int" 1 false S__law_is_int) (h__law_kinds : Pr P w K mg base 1 "_law_kinds" 0 false S__law_kinds) :
    GSs (cxD P w K mg base N40 "_law_due" (defScope (top 40)) f cd A outer s H E) ⟨H, none, 0, pq, fun a => (none : Option Addr) ≠ some a, RR K H⟩ (WD E) (defBody (top 40)) t__law_due := by
  have hu := HU.of hr
  have Sc := sc40
  have tk : Takes (cxD P w K mg base N40 "_law_due" (defScope (top 40)) f cd A outer s H E) (WD E) := takesD
  have hpo := poD (P := P) (w := w) (K := K) (mg := mg) (base := base) (N := N40) (qual := "_law_due") (scope := defScope (top 40)) (f := f) (cd := cd) (A := A) (outer := outer) (s := s) (H := H) (E := E)
  exact (gss_cons (gs_if (GW.gb (gw_or (gb_not (gb_truth (ge_isi kit_tuple V.f_isinstance V.f_tuple (by decide +kernel) (ge_var 1)))) (gw_or (gb_cmp (op_eqS hu.a64) og_eqS (ge_var 1) (ge_tup ga_nil)) (gw_or1 (gb_not (gb_truth (ge_isi kit_str V.f_isinstance V.f_str (by decide +kernel) (ge_ix (ge_var 1) ge_int)))))))) (gss_one (gs_ret ge_bl)) gss_nil) (gss_cons (gs_if (gb_cmp (op_inA hu.a65) og_in (ge_ix (ge_var 1) ge_int) (ge_sl (ge_call0 h__law_kinds (hr.mono (by decide)) tk) go_none (go_some ge_int))) (gss_one (gs_ret (ge_cmp (op_eqS hu.a64) og_eqS (ge_len V.f_len (ga_cons (ge_var 1) ga_nil)) ge_int))) gss_nil) (gss_cons (gs_if (gb_cmp (op_inA hu.a65) og_in (ge_ix (ge_var 1) ge_int) (ge_sl (ge_call0 h__law_kinds (hr.mono (by decide)) tk) (go_some ge_int) (go_some ge_int))) (gss_one (gs_ret (ge_and' (ge_cmp (op_eqS hu.a64) og_eqS (ge_len V.f_len (ga_cons (ge_var 1) ga_nil)) ge_int) (ge_and' (ge_call h__law_is_int (hr.mono (by decide)) tk (ga_cons (ge_ix (ge_var 1) ge_int) ga_nil)) (ge_one (ge_cmp op_ge og_ge (ge_ix (ge_var 1) ge_int) ge_int)))))) gss_nil) (gss_cons (gs_if (gb_cmp (op_eqA hu.a64) og_eq (ge_ix (ge_var 1) ge_int) ge_str) (gss_one (gs_ret (ge_and' (ge_cmp (op_eqS hu.a64) og_eqS (ge_len V.f_len (ga_cons (ge_var 1) ga_nil)) ge_int) (ge_one (ge_call h__law_is_graph (hr.mono (by decide)) tk (ga_cons (ge_ix (ge_var 1) ge_int) ga_nil)))))) gss_nil) (gss_cons (gs_if (GW.gb (gw_or (gb_cmp (op_neA hu.a64) og_ne (ge_ix (ge_var 1) ge_int) ge_str) (gw_or (gb_cmp (op_neA hu.a64) og_ne (ge_len V.f_len (ga_cons (ge_var 1) ga_nil)) ge_int) (gw_or1 (gb_cmp op_gt og_gt (ge_len V.f_len (ga_cons (ge_lc (own := [("_law_item", 2)]) rfl Sc.nd (gi_seq (ge_sl (ge_var 1) (go_some ge_int) go_none)) (blkOk_by (by kernel_rfl)) (.inl rfl) (fun _ => (gg_name 2 Sc.nd (.inl rfl))) (fun _ => (gts_one (gb_not (gb_truth (ge_call h__law_is_int (hr.mono (by decide)) takes0 (ga_cons (ge_var 2) ga_nil)))))) (fun _ => (ge_var 2)) (by decide)) ga_nil)) ge_int))))) (gss_one (gs_ret ge_bl)) gss_nil) (gss_one (gs_ret (ge_and' (ge_ch op_le og_le (op_ltA hu.a0) og_lt ge_int (ge_ix (ge_var 1) ge_int) (ge_ix (ge_var 0) ge_int)) (ge_and' (ge_ch op_le og_le (op_ltA hu.a0) og_lt ge_int (ge_ix (ge_var 1) ge_int) (ge_ix (ge_var 0) ge_int)) (ge_and' (ge_cmp (op_neA hu.a64) og_ne (ge_ix (ge_var 1) ge_int) (ge_ix (ge_var 1) ge_int)) (ge_one (ge_cmp op_ge og_ge (ge_ix (ge_var 1) ge_int) ge_int))))))))))))
theorem b_law {P : Program} {w : World} {K : PySem.W.Frag} {mg : Str → Option Value} {base : Heap} {f : Addr} {cd : Value} {A : Around} {outer : List Env} {s : Shared} {H : Hp} {E : XK} {p pq : Addr} (V : HD.Ev K mg) (hr : Room 25 (A.deeper (envOfC "law" (defScope (top 41)) s.heap.objs.size f cd))) (h__law_draw : Pr P w K mg base 2 "_law_draw" 1 true S__law_draw) (h__law_due : Pr P w K mg base 3 "_law_due" 2 false S__law_due) (h__law_graph : Pr P w K mg base 25 "_law_graph" 1 true S__law_graph) (h__law_kinds : Pr P w K mg base 1 "_law_kinds" 0 false S__law_kinds) (h__law_same : Pr P w K mg base 8 "_law_same" 2 false (S__law_same 8)) (h__law_spoilt : PrO P w K mg base 13 "_law_spoilt" 2 true (S__law_spoilt 10)) (h_is_question : Pr P w K mg base 4 "is_question" 2 false S_is_question) (hM__law_same : PrM P w K mg base 9 "_law_same" (He.ga K "KINDS") 1 S__law_sameM) :
    GSs (cxD P w K mg base N41 "law" (defScope (top 41)) f cd A outer s H E) ⟨H, some p, 1, pq, fun _ => True, RR K H⟩ (WD E) (defBody (top 41)).tail t_law := by
  have hu := HU.of hr
  have Sc := sc41
  have tk : Takes (cxD P w K mg base N41 "law" (defScope (top 41)) f cd A outer s H E) (WD E) := takesD
  have hpo := poD (P := P) (w := w) (K := K) (mg := mg) (base := base) (N := N41) (qual := "law") (scope := defScope (top 41)) (f := f) (cd := cd) (A := A) (outer := outer) (s := s) (H := H) (E := E)
  exact (gss_cons (gs_set (k := 2) Sc.nd (ge_callP h__law_graph (hr.mono (by decide)) tk ⟨_, rfl⟩ rfl (ga_cons ge_int ga_nil)) (.inr (show (2 : Nat) ≠ 1 by decide))) (gss_cons (gs_if (gb_not (gb_truth (ge_callM hM__law_same (hr.mono (by decide)) tk V.g_KINDS (ga_cons (ge_tuple V.f_tuple (ga_cons (ge_call0 h__law_kinds (hr.mono (by decide)) tk) ga_nil)) ga_nil)))) (gss_one (gs_ret ge_bl)) gss_nil) (gss_cons (gs_for hpo rfl (gi_range1 V.f_range (ga_cons ge_int ga_nil)) (gg_name 3 Sc.nd (.inr (show (3 : Nat) ≠ 1 by decide))) (gss_cons (gs_set (k := 4) Sc.nd (ge_ix (ge_call0 h__law_kinds (hr.mono (by decide)) tk) (ge_callP h__law_draw (hr.mono (by decide)) tk ⟨_, rfl⟩ rfl (ga_cons ge_int ga_nil))) (.inr (show (4 : Nat) ≠ 1 by decide))) (gss_cons (gs_set (k := 5) Sc.nd (ge_tup (ga_cons (ge_var 4) ga_nil)) (.inr (show (5 : Nat) ≠ 1 by decide))) (gss_cons (gs_if (gb_cmp (op_inA hu.a65) og_in (ge_var 4) (ge_sl (ge_call0 h__law_kinds (hr.mono (by decide)) tk) (go_some ge_int) (go_some ge_int))) (gss_one (gs_set (k := 5) Sc.nd (ge_tup (ga_cons (ge_var 4) (ga_cons (ge_ix (ge_lst (ga_cons (ge_callP h__law_draw (hr.mono (by decide)) tk ⟨_, rfl⟩ rfl (ga_cons ge_int ga_nil)) (ga_cons (ge_pow ge_int ge_int) (ga_cons ge_int ga_nil)))) (ge_callP h__law_draw (hr.mono (by decide)) tk ⟨_, rfl⟩ rfl (ga_cons ge_int ga_nil))) ga_nil))) (.inr (show (5 : Nat) ≠ 1 by decide)))) gss_nil) (gss_cons (gs_if (gb_cmp (op_eqA hu.a64) og_eq (ge_var 4) ge_str) (gss_one (gs_set (k := 5) Sc.nd (ge_tup (ga_cons (ge_var 4) (ga_cons (ge_callP h__law_draw (hr.mono (by decide)) tk ⟨_, rfl⟩ rfl (ga_cons (ge_ix (ge_var 2) ge_int) ga_nil)) (ga_cons (ge_callP h__law_draw (hr.mono (by decide)) tk ⟨_, rfl⟩ rfl (ga_cons (ge_ix (ge_var 2) ge_int) ga_nil)) (ga_cons (ge_callP h__law_draw (hr.mono (by decide)) tk ⟨_, rfl⟩ rfl (ga_cons ge_int ga_nil)) ga_nil))))) (.inr (show (5 : Nat) ≠ 1 by decide)))) gss_nil) (gss_cons (gs_if (gb_cmp (op_eqA hu.a64) og_eq (ge_var 4) ge_str) (gss_one (gs_set (k := 5) Sc.nd (ge_tup (ga_cons (ge_var 4) (ga_cons (ge_callP h__law_graph (hr.mono (by decide)) tk ⟨_, rfl⟩ rfl (ga_cons ge_int ga_nil)) ga_nil))) (.inr (show (5 : Nat) ≠ 1 by decide)))) gss_nil) (gss_cons (gs_for hpo rfl (gi_range1 V.f_range (ga_cons (ge_callP h__law_draw (hr.mono (by decide)) tk ⟨_, rfl⟩ rfl (ga_cons ge_int ga_nil)) ga_nil)) (gg_name 6 Sc.nd (.inr (show (6 : Nat) ≠ 1 by decide))) (gss_one (gs_set (k := 5) Sc.nd (ge_callPO h__law_spoilt (hr.mono (by decide)) tk ⟨_, rfl⟩ rfl (ga_cons (ge_var 5) (ga_cons ge_int ga_nil))) (.inr (show (5 : Nat) ≠ 1 by decide))))) (gss_one (gs_if (gb_not (gb_truth (ge_call h__law_same (hr.mono (by decide)) tk (ga_cons (ge_call h_is_question (hr.mono (by decide)) tk (ga_cons (ge_var 2) (ga_cons (ge_var 5) ga_nil))) (ga_cons (ge_call h__law_due (hr.mono (by decide)) tk (ga_cons (ge_var 2) (ga_cons (ge_var 5) ga_nil))) ga_nil))))) (gss_one (gs_ret ge_bl)) gss_nil))))))))) (gss_one (gs_ret ge_bl)))))
end LS.QK

set_option maxHeartbeats 0
namespace LS.QK
open PySem PySem.Spec PyProof.Rows L2 TL LW HD
theorem ok_is_integer {P : Program} {w : World} {K : PySem.W.Frag} {mg : Str → Option Value} {base : Heap} (V : HD.Ev K mg) : Pr P w K mg base 1 "is_integer" 1 false S_is_integer := by
  obtain ⟨h, X, G, c⟩ := V.ok
  obtain ⟨fd, F⟩ := c.def_ 0 (d := d2) rfl
  exact Pr.of ["value"] F V.g_is_integer sc2 (fun _ _ _ _ _ _ us hl => match us, hl with | [_], _ => rfl) rfl (fun cd A outer s H E po pq hr hp => by
    obtain rfl : po = none := by cases po with | none => rfl | some _ => cases hp
    exact b_is_integer (p := 0) V hr ) r_is_integer
theorem ok_is_ascending {P : Program} {w : World} {K : PySem.W.Frag} {mg : Str → Option Value} {base : Heap} (V : HD.Ev K mg) : Pr P w K mg base 1 "is_ascending" 1 false S_is_ascending := by
  obtain ⟨h, X, G, c⟩ := V.ok
  obtain ⟨fd, F⟩ := c.def_ 2 (d := d4) rfl
  exact Pr.of ["items"] F V.g_is_ascending sc4 (fun _ _ _ _ _ _ us hl => match us, hl with | [_], _ => rfl) rfl (fun cd A outer s H E po pq hr hp => by
    obtain rfl : po = none := by cases po with | none => rfl | some _ => cases hp
    exact b_is_ascending (p := 0) V hr ) r_is_ascending
theorem ok__law_pool {P : Program} {w : World} {K : PySem.W.Frag} {mg : Str → Option Value} {base : Heap} (V : HD.Ev K mg) : PrPool P w K mg base 1 := by
  obtain ⟨h, X, G, c⟩ := V.ok
  obtain ⟨fd, F⟩ := c.def_ 7 (d := d14) rfl
  refine pool_ok F V.g__law_pool sc14 (fun _ _ _ _ _ _ us hl => match us, hl with | [_], _ => rfl) fun cd A outer s H E hr => ?_
  have Sc := sc14
  have hpo := poD (P := P) (w := w) (K := K) (mg := mg) (base := base) (N := poolN) (qual := "_law_pool") (scope := defScope (top 14)) (f := He.ga K "_law_pool") (cd := cd) (A := A) (outer := outer) (s := s) (H := H) (E := E)
  exact pss_cons (ps_set (i := 1) Sc.nd rfl (by first | exact .inl rfl | exact .inr rfl) pe_int) (pss_cons (ps_for hpo rfl (pi_any (pe_slice sl_list (pe_var rfl (by first | exact Or.inl rfl | exact Or.inr (Or.inl rfl))) po_none (po_some pe_int))) (pg_name (i := 2) Sc.nd rfl (by first | exact .inl rfl | exact .inr rfl))
    (pss_one (ps_set (i := 1) Sc.nd rfl (by first | exact .inl rfl | exact .inr rfl) (pe_op op_mod (pe_callTy call_int1 rfl V.f_int (by decide +kernel) (pa_cons (pe_op op_add (pe_op op_mul (pe_var rfl (by first | exact Or.inl rfl | exact Or.inr (Or.inl rfl))) pe_int) (pe_var rfl (by first | exact Or.inl rfl | exact Or.inr (Or.inl rfl)))) pa_nil)) pe_int))))
    (pss_one (ps_ret (pe_lst (pa_cons (pe_callTy call_list_of rfl V.f_list (by decide +kernel) (pa_cons (pe_var rfl (by first | exact Or.inl rfl | exact Or.inr (Or.inl rfl))) pa_nil)) (pa_cons pe_int (pa_cons pe_int (pa_cons pe_int (pa_cons (pe_var rfl (by first | exact Or.inl rfl | exact Or.inr (Or.inl rfl))) pa_nil)))))))))
theorem ok__law_spread {P : Program} {w : World} {K : PySem.W.Frag} {mg : Str → Option Value} {base : Heap} (V : HD.Ev K mg) : Pr P w K mg base 1 "_law_spread" 1 false S__law_spread := by
  obtain ⟨h, X, G, c⟩ := V.ok
  obtain ⟨fd, F⟩ := c.def_ 8 (d := d15) rfl
  exact Pr.of ["_law_cell"] F V.g__law_spread sc15 (fun _ _ _ _ _ _ us hl => match us, hl with | [_], _ => rfl) rfl (fun cd A outer s H E po pq hr hp => by
    obtain rfl : po = none := by cases po with | none => rfl | some _ => cases hp
    exact b__law_spread (p := 0) V hr ) r__law_spread
theorem ok__law_is_int {P : Program} {w : World} {K : PySem.W.Frag} {mg : Str → Option Value} {base : Heap} (V : HD.Ev K mg) : Pr P w K mg base 1 "_law_is_int" 1 false S__law_is_int := by
  obtain ⟨h, X, G, c⟩ := V.ok
  obtain ⟨fd, F⟩ := c.def_ 11 (d := d18) rfl
  exact Pr.of ["_law_x"] F V.g__law_is_int sc18 (fun _ _ _ _ _ _ us hl => match us, hl with | [_], _ => rfl) rfl (fun cd A outer s H E po pq hr hp => by
    obtain rfl : po = none := by cases po with | none => rfl | some _ => cases hp
    exact b__law_is_int (p := 0) V hr ) r__law_is_int
theorem ok__law_distinct {P : Program} {w : World} {K : PySem.W.Frag} {mg : Str → Option Value} {base : Heap} (V : HD.Ev K mg) : Pr P w K mg base 1 "_law_distinct" 1 false S__law_distinct := by
  obtain ⟨h, X, G, c⟩ := V.ok
  obtain ⟨fd, F⟩ := c.def_ 12 (d := d19) rfl
  exact Pr.of ["_law_rows"] F V.g__law_distinct sc19 (fun _ _ _ _ _ _ us hl => match us, hl with | [_], _ => rfl) rfl (fun cd A outer s H E po pq hr hp => by
    obtain rfl : po = none := by cases po with | none => rfl | some _ => cases hp
    exact b__law_distinct (p := 0) V hr ) r__law_distinct
theorem ok__law_pairs {P : Program} {w : World} {K : PySem.W.Frag} {mg : Str → Option Value} {base : Heap} (V : HD.Ev K mg) : Pr P w K mg base 1 "_law_pairs" 1 false S__law_pairs := by
  obtain ⟨h, X, G, c⟩ := V.ok
  obtain ⟨fd, F⟩ := c.def_ 13 (d := d20) rfl
  exact Pr.of ["_law_n"] F V.g__law_pairs sc20 (fun _ _ _ _ _ _ us hl => match us, hl with | [_], _ => rfl) rfl (fun cd A outer s H E po pq hr hp => by
    obtain rfl : po = none := by cases po with | none => rfl | some _ => cases hp
    exact b__law_pairs (p := 0) V hr ) r__law_pairs
theorem ok__law_kinds {P : Program} {w : World} {K : PySem.W.Frag} {mg : Str → Option Value} {base : Heap} (V : HD.Ev K mg) : Pr P w K mg base 1 "_law_kinds" 0 false S__law_kinds := by
  obtain ⟨h, X, G, c⟩ := V.ok
  obtain ⟨fd, F⟩ := c.def_ 30 (d := d37) rfl
  exact Pr.of [] F V.g__law_kinds sc37 (fun _ _ _ _ _ _ us hl => match us, hl with | [], _ => rfl) rfl (fun cd A outer s H E po pq hr hp => by
    obtain rfl : po = none := by cases po with | none => rfl | some _ => cases hp
    exact b__law_kinds (p := 0) V hr ) r__law_kinds
theorem ok_is_integer_tuple {P : Program} {w : World} {K : PySem.W.Frag} {mg : Str → Option Value} {base : Heap} (V : HD.Ev K mg) : Pr P w K mg base 2 "is_integer_tuple" 1 false S_is_integer_tuple := by
  obtain ⟨h, X, G, c⟩ := V.ok
  obtain ⟨fd, F⟩ := c.def_ 1 (d := d3) rfl
  exact Pr.of ["value"] F V.g_is_integer_tuple sc3 (fun _ _ _ _ _ _ us hl => match us, hl with | [_], _ => rfl) rfl (fun cd A outer s H E po pq hr hp => by
    obtain rfl : po = none := by cases po with | none => rfl | some _ => cases hp
    exact b_is_integer_tuple (p := 0) V hr (ok_is_integer V)) r_is_integer_tuple
theorem ok_is_number {P : Program} {w : World} {K : PySem.W.Frag} {mg : Str → Option Value} {base : Heap} (V : HD.Ev K mg) : Pr P w K mg base 2 "is_number" 1 false S_is_number := by
  obtain ⟨h, X, G, c⟩ := V.ok
  obtain ⟨fd, F⟩ := c.def_ 4 (d := d10) rfl
  exact Pr.of ["value"] F V.g_is_number sc10 (fun _ _ _ _ _ _ us hl => match us, hl with | [_], _ => rfl) rfl (fun cd A outer s H E po pq hr hp => by
    obtain rfl : po = none := by cases po with | none => rfl | some _ => cases hp
    exact b_is_number (p := 0) V hr (ok_is_integer V)) r_is_number
theorem ok__law_draw {P : Program} {w : World} {K : PySem.W.Frag} {mg : Str → Option Value} {base : Heap} (V : HD.Ev K mg) : Pr P w K mg base 2 "_law_draw" 1 true SDraw := by
  obtain ⟨h, X, G, c⟩ := V.ok
  obtain ⟨fd, F⟩ := c.def_ 9 (d := d16) rfl
  refine draw_ok F V.g__law_draw sc16 (fun _ _ _ _ _ _ us hl => match us, hl with | [_, _], _ => rfl) fun cd A outer s H E hr => ?_
  have Sc := sc16
  have hs := ok__law_spread (P := P) (w := w) (base := base) V
  obtain ⟨f1, fd1, ps1, h1, h2, h3, h4⟩ := hs.ex
  have tk : Takes (cxD P w K mg base N16 "_law_draw" (defScope (top 16)) (He.ga K "_law_draw") cd A outer s H E) (WD E) := takesD
  exact pss_cons (ps_if (PW.pt (pw_and (pt_cmpR op_le (pe_ix ix_seq (pe_var rfl (by first | exact Or.inl rfl | exact Or.inr (Or.inl rfl))) pe_int fun _ _ => rfl) pe_int (by first | exact nomark _ (by decide) (by decide) | rfl)) (pw_and1 (pt_cmpR op_lt (pe_ix ix_seq (pe_var rfl (by first | exact Or.inl rfl | exact Or.inr (Or.inl rfl))) pe_int fun _ _ => rfl) (pe_callB call_len_seq rfl V.f_len PySem.boot_len (pa_cons (pe_ix ix_seq (pe_var rfl (by first | exact Or.inl rfl | exact Or.inr (Or.inl rfl))) pe_int fun _ _ => rfl) pa_nil)) (by first | exact nomark _ (by decide) (by decide) | rfl)))))
    (pss_cons (ps_set (i := 2) Sc.nd rfl (by first | exact .inl rfl | exact .inr rfl) (pe_ix ix_seq (pe_ix ix_seq (pe_var rfl (by first | exact Or.inl rfl | exact Or.inr (Or.inl rfl))) pe_int fun _ _ => rfl) (pe_ix ix_seq (pe_var rfl (by first | exact Or.inl rfl | exact Or.inr (Or.inl rfl))) pe_int fun _ _ => rfl) fun _ _ => rfl)) (pss_cons (ps_asg (pe_op op_add (pe_ix ix_seq (pe_var rfl (by first | exact Or.inl rfl | exact Or.inr (Or.inl rfl))) pe_int fun _ _ => rfl) pe_int) (pg_sub (pe_var rfl (by first | exact Or.inl rfl | exact Or.inr (Or.inl rfl))) pe_int set_list)) (pss_cons (ps_asg (pe_var rfl (by first | exact Or.inl rfl | exact Or.inr (Or.inl rfl))) (pg_sub (pe_var rfl (by first | exact Or.inl rfl | exact Or.inr (Or.inl rfl))) pe_int set_list)) (pss_one (ps_if (pt_cmpR op_lt (pe_var rfl (by first | exact Or.inl rfl | exact Or.inr (Or.inl rfl))) pe_int (by first | exact nomark _ (by decide) (by decide) | rfl)) (pss_one (ps_asg (pe_callS h1 (hr.mono (by decide)) rfl h2 h3 h4 (fun σ => passAt tk σ) (pa_cons (pe_var rfl (by first | exact Or.inl rfl | exact Or.inr (Or.inl rfl))) pa_nil)) (pg_sub (pe_var rfl (by first | exact Or.inl rfl | exact Or.inr (Or.inl rfl))) pe_int set_list))) pss_nil)))))
    pss_nil) (pss_cons (ps_asg (pe_op op_add (pe_ix ix_seq (pe_var rfl (by first | exact Or.inl rfl | exact Or.inr (Or.inl rfl))) pe_int fun _ _ => rfl) pe_int) (pg_sub (pe_var rfl (by first | exact Or.inl rfl | exact Or.inr (Or.inl rfl))) pe_int set_list)) (pss_cons (ps_if (pt_cmpR op_le (pe_ix ix_seq (pe_var rfl (by first | exact Or.inl rfl | exact Or.inr (Or.inl rfl))) pe_int fun _ _ => rfl) pe_int (by first | exact nomark _ (by decide) (by decide) | rfl))
    (pss_cons (ps_set (i := 3) Sc.nd rfl (by first | exact .inl rfl | exact .inr rfl) (pe_op op_mod (pe_callTy call_int1 rfl V.f_int (by decide +kernel) (pa_cons (pe_op op_add (pe_op op_add (pe_op op_mul (pe_ix ix_seq (pe_var rfl (by first | exact Or.inl rfl | exact Or.inr (Or.inl rfl))) pe_int fun _ _ => rfl) pe_int) (pe_op op_mul (pe_ix ix_seq (pe_var rfl (by first | exact Or.inl rfl | exact Or.inr (Or.inl rfl))) pe_int fun _ _ => rfl) pe_int)) pe_int) pa_nil)) pe_int))
      (pss_cons (ps_set (i := 3) Sc.nd rfl (by first | exact .inl rfl | exact .inr rfl) (pe_op op_mod (pe_callTy call_int1 rfl V.f_int (by decide +kernel) (pa_cons (pe_op op_add (pe_op op_mul (pe_var rfl (by first | exact Or.inl rfl | exact Or.inr (Or.inl rfl))) pe_int) (pe_ix ix_seq (pe_var rfl (by first | exact Or.inl rfl | exact Or.inr (Or.inl rfl))) pe_int fun _ _ => rfl)) pa_nil)) pe_int))
        (pss_one (ps_ret (pe_op op_mod (pe_op op_fdiv (pe_var rfl (by first | exact Or.inl rfl | exact Or.inr (Or.inl rfl))) pe_int) (pe_var rfl (by first | exact Or.inl rfl | exact Or.inr (Or.inl rfl)))))))) pss_nil)
    (pss_cons (ps_set (i := 4) Sc.nd rfl (by first | exact .inl rfl | exact .inr rfl) (pe_op op_mod (pe_callTy call_int1 rfl V.f_int (by decide +kernel) (pa_cons (pe_ix ix_seq (pe_var rfl (by first | exact Or.inl rfl | exact Or.inr (Or.inl rfl))) pe_int fun _ _ => rfl) pa_nil)) (pe_var rfl (by first | exact Or.inl rfl | exact Or.inr (Or.inl rfl)))))
      (pss_cons (ps_asg (pe_op op_fdiv (pe_ix ix_seq (pe_var rfl (by first | exact Or.inl rfl | exact Or.inr (Or.inl rfl))) pe_int fun _ _ => rfl) (pe_var rfl (by first | exact Or.inl rfl | exact Or.inr (Or.inl rfl)))) (pg_sub (pe_var rfl (by first | exact Or.inl rfl | exact Or.inr (Or.inl rfl))) pe_int set_list)) (pss_one (ps_ret (pe_var rfl (by first | exact Or.inl rfl | exact Or.inr (Or.inl rfl)))))))))
theorem ok__law_of {P : Program} {w : World} {K : PySem.W.Frag} {mg : Str → Option Value} {base : Heap} (V : HD.Ev K mg) : Pr P w K mg base 2 "_law_of" 2 false S__law_of := by
  obtain ⟨h, X, G, c⟩ := V.ok
  obtain ⟨fd, F⟩ := c.def_ 14 (d := d21) rfl
  exact Pr.of ["_law_n", "_law_pairs_here"] F V.g__law_of sc21 (fun _ _ _ _ _ _ us hl => match us, hl with | [_, _], _ => rfl) rfl (fun cd A outer s H E po pq hr hp => by
    obtain rfl : po = none := by cases po with | none => rfl | some _ => cases hp
    exact b__law_of (p := 0) V hr (ok__law_distinct V)) r__law_of
theorem ok__law_other {P : Program} {w : World} {K : PySem.W.Frag} {mg : Str → Option Value} {base : Heap} (V : HD.Ev K mg) : Pr P w K mg base 2 "_law_other" 1 false S__law_other := by
  obtain ⟨h, X, G, c⟩ := V.ok
  obtain ⟨fd, F⟩ := c.def_ 17 (d := d24) rfl
  exact Pr.of ["_law_graph_here"] F V.g__law_other sc24 (fun _ _ _ _ _ _ us hl => match us, hl with | [_], _ => rfl) rfl (fun cd A outer s H E po pq hr hp => by
    obtain rfl : po = none := by cases po with | none => rfl | some _ => cases hp
    exact b__law_other (p := 0) V hr (ok__law_pairs V)) r__law_other
theorem ok__law_interval_graph {P : Program} {w : World} {K : PySem.W.Frag} {mg : Str → Option Value} {base : Heap} (V : HD.Ev K mg) : Pr P w K mg base 2 "_law_interval_graph" 1 false S__law_interval_graph := by
  obtain ⟨h, X, G, c⟩ := V.ok
  obtain ⟨fd, F⟩ := c.def_ 20 (d := d27) rfl
  exact Pr.of ["_law_rows"] F V.g__law_interval_graph sc27 (fun _ _ _ _ _ _ us hl => match us, hl with | [_], _ => rfl) rfl (fun cd A outer s H E po pq hr hp => by
    obtain rfl : po = none := by cases po with | none => rfl | some _ => cases hp
    exact b__law_interval_graph (p := 0) V hr (ok__law_pairs V)) r__law_interval_graph
theorem ok__law_turned_graph {P : Program} {w : World} {K : PySem.W.Frag} {mg : Str → Option Value} {base : Heap} (V : HD.Ev K mg) : Pr P w K mg base 2 "_law_turned_graph" 2 false S__law_turned_graph := by
  obtain ⟨h, X, G, c⟩ := V.ok
  obtain ⟨fd, F⟩ := c.def_ 21 (d := d28) rfl
  exact Pr.of ["_law_one", "_law_two"] F V.g__law_turned_graph sc28 (fun _ _ _ _ _ _ us hl => match us, hl with | [_, _], _ => rfl) rfl (fun cd A outer s H E po pq hr hp => by
    obtain rfl : po = none := by cases po with | none => rfl | some _ => cases hp
    exact b__law_turned_graph (p := 0) V hr (ok__law_pairs V)) r__law_turned_graph
theorem ok__law_is_graph {P : Program} {w : World} {K : PySem.W.Frag} {mg : Str → Option Value} {base : Heap} (V : HD.Ev K mg) : Pr P w K mg base 2 "_law_is_graph" 1 false S__law_is_graph := by
  obtain ⟨h, X, G, c⟩ := V.ok
  obtain ⟨fd, F⟩ := c.def_ 32 (d := d39) rfl
  exact Pr.of ["_law_value"] F V.g__law_is_graph sc39 (fun _ _ _ _ _ _ us hl => match us, hl with | [_], _ => rfl) rfl (fun cd A outer s H E po pq hr hp => by
    obtain rfl : po = none := by cases po with | none => rfl | some _ => cases hp
    exact b__law_is_graph (p := 0) V hr (ok__law_distinct V) (ok__law_is_int V)) r__law_is_graph
theorem ok_is_graph {P : Program} {w : World} {K : PySem.W.Frag} {mg : Str → Option Value} {base : Heap} (V : HD.Ev K mg) : Pr P w K mg base 3 "is_graph" 1 false S_is_graph := by
  obtain ⟨h, X, G, c⟩ := V.ok
  obtain ⟨fd, F⟩ := c.def_ 3 (d := d5) rfl
  exact Pr.of ["value"] F V.g_is_graph sc5 (fun _ _ _ _ _ _ us hl => match us, hl with | [_], _ => rfl) rfl (fun cd A outer s H E po pq hr hp => by
    obtain rfl : po = none := by cases po with | none => rfl | some _ => cases hp
    exact b_is_graph (p := 0) V hr (ok_is_ascending V) (ok_is_integer V) (ok_is_integer_tuple V)) r_is_graph
theorem ok_is_vertex {P : Program} {w : World} {K : PySem.W.Frag} {mg : Str → Option Value} {base : Heap} (V : HD.Ev K mg) : Pr P w K mg base 3 "is_vertex" 2 false S_is_vertex := by
  obtain ⟨h, X, G, c⟩ := V.ok
  obtain ⟨fd, F⟩ := c.def_ 5 (d := d11) rfl
  exact Pr.of ["graph", "value"] F V.g_is_vertex sc11 (fun _ _ _ _ _ _ us hl => match us, hl with | [_, _], _ => rfl) rfl (fun cd A outer s H E po pq hr hp => by
    obtain rfl : po = none := by cases po with | none => rfl | some _ => cases hp
    exact b_is_vertex (p := 0) V hr (ok_is_number V)) r_is_vertex
theorem ok__law_shuffled {P : Program} {w : World} {K : PySem.W.Frag} {mg : Str → Option Value} {base : Heap} (V : HD.Ev K mg) : Pr P w K mg base 3 "_law_shuffled" 1 true S__law_shuffled := by
  obtain ⟨h, X, G, c⟩ := V.ok
  obtain ⟨fd, F⟩ := c.def_ 15 (d := d22) rfl
  exact Pr.of ["_law_pool_here", "_law_items"] F V.g__law_shuffled sc22 (fun _ _ _ _ _ _ us hl => match us, hl with | [_, _], _ => rfl) rfl (fun cd A outer s H E po pq hr hp => by
    obtain ⟨p, rfl⟩ := Option.isSome_iff_exists.mp hp
    exact b__law_shuffled  V hr (ok__law_draw V)) r__law_shuffled
theorem ok__law_moved {P : Program} {w : World} {K : PySem.W.Frag} {mg : Str → Option Value} {base : Heap} (V : HD.Ev K mg) : Pr P w K mg base 3 "_law_moved" 2 false S__law_moved := by
  obtain ⟨h, X, G, c⟩ := V.ok
  obtain ⟨fd, F⟩ := c.def_ 16 (d := d23) rfl
  exact Pr.of ["_law_graph_here", "_law_order"] F V.g__law_moved sc23 (fun _ _ _ _ _ _ us hl => match us, hl with | [_, _], _ => rfl) rfl (fun cd A outer s H E po pq hr hp => by
    obtain rfl : po = none := by cases po with | none => rfl | some _ => cases hp
    exact b__law_moved (p := 0) V hr (ok__law_of V)) r__law_moved
theorem ok__law_random_graph {P : Program} {w : World} {K : PySem.W.Frag} {mg : Str → Option Value} {base : Heap} (V : HD.Ev K mg) : Pr P w K mg base 3 "_law_random_graph" 1 true S__law_random_graph := by
  obtain ⟨h, X, G, c⟩ := V.ok
  obtain ⟨fd, F⟩ := c.def_ 18 (d := d25) rfl
  exact Pr.of ["_law_pool_here", "_law_most"] F V.g__law_random_graph sc25 (fun _ _ _ _ _ _ us hl => match us, hl with | [_, _], _ => rfl) rfl (fun cd A outer s H E po pq hr hp => by
    obtain ⟨p, rfl⟩ := Option.isSome_iff_exists.mp hp
    exact b__law_random_graph  V hr (ok__law_draw V) (ok__law_pairs V)) r__law_random_graph
theorem ok__law_interval_rows {P : Program} {w : World} {K : PySem.W.Frag} {mg : Str → Option Value} {base : Heap} (V : HD.Ev K mg) : Pr P w K mg base 3 "_law_interval_rows" 1 true S__law_interval_rows := by
  obtain ⟨h, X, G, c⟩ := V.ok
  obtain ⟨fd, F⟩ := c.def_ 19 (d := d26) rfl
  exact Pr.of ["_law_pool_here", "_law_n"] F V.g__law_interval_rows sc26 (fun _ _ _ _ _ _ us hl => match us, hl with | [_, _], _ => rfl) rfl (fun cd A outer s H E po pq hr hp => by
    obtain ⟨p, rfl⟩ := Option.isSome_iff_exists.mp hp
    exact b__law_interval_rows  V hr (ok__law_draw V)) r__law_interval_rows
theorem ok__law_ordered_graph {P : Program} {w : World} {K : PySem.W.Frag} {mg : Str → Option Value} {base : Heap} (V : HD.Ev K mg) : Pr P w K mg base 3 "_law_ordered_graph" 1 true S__law_ordered_graph := by
  obtain ⟨h, X, G, c⟩ := V.ok
  obtain ⟨fd, F⟩ := c.def_ 22 (d := d29) rfl
  exact Pr.of ["_law_pool_here", "_law_n"] F V.g__law_ordered_graph sc29 (fun _ _ _ _ _ _ us hl => match us, hl with | [_, _], _ => rfl) rfl (fun cd A outer s H E po pq hr hp => by
    obtain ⟨p, rfl⟩ := Option.isSome_iff_exists.mp hp
    exact b__law_ordered_graph  V hr (ok__law_draw V) (ok__law_pairs V)) r__law_ordered_graph
theorem ok__law_clique_graph {P : Program} {w : World} {K : PySem.W.Frag} {mg : Str → Option Value} {base : Heap} (V : HD.Ev K mg) : Pr P w K mg base 3 "_law_clique_graph" 1 true S__law_clique_graph := by
  obtain ⟨h, X, G, c⟩ := V.ok
  obtain ⟨fd, F⟩ := c.def_ 23 (d := d30) rfl
  exact Pr.of ["_law_pool_here", "_law_n"] F V.g__law_clique_graph sc30 (fun _ _ _ _ _ _ us hl => match us, hl with | [_, _], _ => rfl) rfl (fun cd A outer s H E po pq hr hp => by
    obtain ⟨p, rfl⟩ := Option.isSome_iff_exists.mp hp
    exact b__law_clique_graph  V hr (ok__law_draw V)) r__law_clique_graph
theorem ok__law_drawn_tree {P : Program} {w : World} {K : PySem.W.Frag} {mg : Str → Option Value} {base : Heap} (V : HD.Ev K mg) : Pr P w K mg base 3 "_law_drawn_tree" 1 true S__law_drawn_tree := by
  obtain ⟨h, X, G, c⟩ := V.ok
  obtain ⟨fd, F⟩ := c.def_ 24 (d := d31) rfl
  exact Pr.of ["_law_pool_here", "_law_leaves_here"] F V.g__law_drawn_tree sc31 (fun _ _ _ _ _ _ us hl => match us, hl with | [_, _], _ => rfl) rfl (fun cd A outer s H E po pq hr hp => by
    obtain ⟨p, rfl⟩ := Option.isSome_iff_exists.mp hp
    exact b__law_drawn_tree  V hr (ok__law_draw V)) r__law_drawn_tree
theorem ok__law_strange {P : Program} {w : World} {K : PySem.W.Frag} {mg : Str → Option Value} {base : Heap} (V : HD.Ev K mg) : PrO P w K mg base 3 "_law_strange" 2 true S__law_strange := by
  obtain ⟨h, X, G, c⟩ := V.ok
  obtain ⟨fd, F⟩ := c.def_ 28 (d := d35) rfl
  exact PrO.of ["_law_pool_here", "_law_value", "_law_n"] F V.g__law_strange sc35 (fun _ _ _ _ _ _ us hl => match us, hl with | [_, _, _], _ => rfl) rfl (fun cd A outer s H E po pq hr hp PP => by
    obtain ⟨p, rfl⟩ := Option.isSome_iff_exists.mp hp
    exact b__law_strange  (PP := PP) V hr (ok__law_draw V) (ok__law_is_int V)) r__law_strange
theorem ok__law_ringed {P : Program} {w : World} {K : PySem.W.Frag} {mg : Str → Option Value} {base : Heap} (V : HD.Ev K mg) : Pr P w K mg base 3 "_law_ringed" 1 true S__law_ringed := by
  obtain ⟨h, X, G, c⟩ := V.ok
  obtain ⟨fd, F⟩ := c.def_ 31 (d := d38) rfl
  exact Pr.of ["_law_pool_here", "_law_n"] F V.g__law_ringed sc38 (fun _ _ _ _ _ _ us hl => match us, hl with | [_, _], _ => rfl) rfl (fun cd A outer s H E po pq hr hp => by
    obtain ⟨p, rfl⟩ := Option.isSome_iff_exists.mp hp
    exact b__law_ringed  V hr (ok__law_draw V) (ok__law_of V)) r__law_ringed
theorem ok__law_due {P : Program} {w : World} {K : PySem.W.Frag} {mg : Str → Option Value} {base : Heap} (V : HD.Ev K mg) : Pr P w K mg base 3 "_law_due" 2 false S__law_due := by
  obtain ⟨h, X, G, c⟩ := V.ok
  obtain ⟨fd, F⟩ := c.def_ 33 (d := d40) rfl
  exact Pr.of ["_law_graph_here", "_law_value"] F V.g__law_due sc40 (fun _ _ _ _ _ _ us hl => match us, hl with | [_, _], _ => rfl) rfl (fun cd A outer s H E po pq hr hp => by
    obtain rfl : po = none := by cases po with | none => rfl | some _ => cases hp
    exact b__law_due (p := 0) V hr (ok__law_is_graph V) (ok__law_is_int V) (ok__law_kinds V)) r__law_due
theorem ok_is_question {P : Program} {w : World} {K : PySem.W.Frag} {mg : Str → Option Value} {base : Heap} (V : HD.Ev K mg) : Pr P w K mg base 4 "is_question" 2 false S_is_question := by
  obtain ⟨h, X, G, c⟩ := V.ok
  obtain ⟨fd, F⟩ := c.def_ 6 (d := d12) rfl
  exact Pr.of ["graph", "value"] F V.g_is_question sc12 (fun _ _ _ _ _ _ us hl => match us, hl with | [_, _], _ => rfl) rfl (fun cd A outer s H E po pq hr hp => by
    obtain rfl : po = none := by cases po with | none => rfl | some _ => cases hp
    exact b_is_question (p := 0) V hr (ok_is_graph V) (ok_is_number V) (ok_is_vertex V)) r_is_question
theorem ok__law_same {P : Program} {w : World} {K : PySem.W.Frag} {mg : Str → Option Value} {base : Heap} (V : HD.Ev K mg) : ∀ n, Pr P w K mg base (0 + n) "_law_same" 2 false (S__law_same n) := by
  obtain ⟨h, X, G, c⟩ := V.ok
  obtain ⟨fd, F⟩ := c.def_ 10 (d := d17) rfl
  intro n
  induction n with
  | zero => exact Pr.vac ["_law_actual", "_law_due_here"] F V.g__law_same (fun _ _ _ _ _ _ us hl => match us, hl with | [_, _], _ => rfl) (fun _ _ _ h => h)
  | succ n ih =>
    exact Pr.of ["_law_actual", "_law_due_here"] F V.g__law_same sc17 (fun _ _ _ _ _ _ us hl => match us, hl with | [_, _], _ => rfl) rfl (fun cd A outer s H E po pq hr hp => by
      obtain rfl : po = none := by cases po with | none => rfl | some _ => cases hp
      exact b__law_same (p := 0) V hr ih) (r__law_same n)
theorem okM__law_same {P : Program} {w : World} {K : PySem.W.Frag} {mg : Str → Option Value} {base : Heap} (V : HD.Ev K mg) : PrM P w K mg base 9 "_law_same" (He.ga K "KINDS") 1 S__law_sameM := by
  obtain ⟨h, X, G, c⟩ := V.ok
  obtain ⟨fd, F⟩ := c.def_ 10 (d := d17) rfl
  exact PrM.of ["_law_actual", "_law_due_here"] F V.g__law_same sc17 (fun _ _ _ _ _ _ us hl => match us, hl with | [_, _], _ => rfl) rfl (fun cd A outer s H E pq hr => bM__law_same V hr (ok__law_same V 8)) (rM__law_same _)
theorem ok__law_leaves {P : Program} {w : World} {K : PySem.W.Frag} {mg : Str → Option Value} {base : Heap} (V : HD.Ev K mg) : ∀ n, Pr P w K mg base (0 + n) "_law_leaves" 1 false (S__law_leaves n) := by
  obtain ⟨h, X, G, c⟩ := V.ok
  obtain ⟨fd, F⟩ := c.def_ 25 (d := d32) rfl
  intro n
  induction n with
  | zero => exact Pr.vac ["_law_tree"] F V.g__law_leaves (fun _ _ _ _ _ _ us hl => match us, hl with | [_], _ => rfl) (fun _ _ _ h => h)
  | succ n ih =>
    exact Pr.of ["_law_tree"] F V.g__law_leaves sc32 (fun _ _ _ _ _ _ us hl => match us, hl with | [_], _ => rfl) rfl (fun cd A outer s H E po pq hr hp => by
      obtain rfl : po = none := by cases po with | none => rfl | some _ => cases hp
      exact b__law_leaves (p := 0) V hr ih) (r__law_leaves n)
theorem ok__law_spoilt {P : Program} {w : World} {K : PySem.W.Frag} {mg : Str → Option Value} {base : Heap} (V : HD.Ev K mg) : ∀ n, PrO P w K mg base (3 + n) "_law_spoilt" 2 true (S__law_spoilt n) := by
  obtain ⟨h, X, G, c⟩ := V.ok
  obtain ⟨fd, F⟩ := c.def_ 29 (d := d36) rfl
  intro n
  induction n with
  | zero => exact PrO.vac ["_law_pool_here", "_law_value", "_law_n"] F V.g__law_spoilt (fun _ _ _ _ _ _ us hl => match us, hl with | [_, _, _], _ => rfl) (fun _ _ _ h => h)
  | succ n ih =>
    exact PrO.of ["_law_pool_here", "_law_value", "_law_n"] F V.g__law_spoilt sc36 (fun _ _ _ _ _ _ us hl => match us, hl with | [_, _, _], _ => rfl) rfl (fun cd A outer s H E po pq hr hp PP => by
      obtain ⟨p, rfl⟩ := Option.isSome_iff_exists.mp hp
      exact b__law_spoilt  (PP := PP) V hr (ok__law_draw V) ih (ok__law_strange V)) (r__law_spoilt n)
theorem ok__law_tree_pairs {P : Program} {w : World} {K : PySem.W.Frag} {mg : Str → Option Value} {base : Heap} (V : HD.Ev K mg) : ∀ n, Pr P w K mg base (12 + n) "_law_tree_pairs" 1 false (S__law_tree_pairs n) := by
  obtain ⟨h, X, G, c⟩ := V.ok
  obtain ⟨fd, F⟩ := c.def_ 26 (d := d33) rfl
  intro n
  induction n with
  | zero => exact Pr.vac ["_law_tree"] F V.g__law_tree_pairs (fun _ _ _ _ _ _ us hl => match us, hl with | [_], _ => rfl) (fun _ _ _ h => h)
  | succ n ih =>
    exact Pr.of ["_law_tree"] F V.g__law_tree_pairs sc33 (fun _ _ _ _ _ _ us hl => match us, hl with | [_], _ => rfl) rfl (fun cd A outer s H E po pq hr hp => by
      obtain rfl : po = none := by cases po with | none => rfl | some _ => cases hp
      exact b__law_tree_pairs (p := 0) V hr (ok__law_leaves V 12) ih) (r__law_tree_pairs n)
theorem ok__law_graph {P : Program} {w : World} {K : PySem.W.Frag} {mg : Str → Option Value} {base : Heap} (V : HD.Ev K mg) : Pr P w K mg base 25 "_law_graph" 1 true S__law_graph := by
  obtain ⟨h, X, G, c⟩ := V.ok
  obtain ⟨fd, F⟩ := c.def_ 27 (d := d34) rfl
  exact Pr.of ["_law_pool_here", "_law_most"] F V.g__law_graph sc34 (fun _ _ _ _ _ _ us hl => match us, hl with | [_, _], _ => rfl) rfl (fun cd A outer s H E po pq hr hp => by
    obtain ⟨p, rfl⟩ := Option.isSome_iff_exists.mp hp
    exact b__law_graph  V hr (ok__law_clique_graph V) (ok__law_draw V) (ok__law_drawn_tree V) (ok__law_interval_graph V) (ok__law_interval_rows V) (ok__law_moved V) (ok__law_of V) (ok__law_ordered_graph V) (ok__law_other V) (ok__law_random_graph V) (ok__law_ringed V) (ok__law_shuffled V) (ok__law_tree_pairs V 12) (ok__law_turned_graph V)) r__law_graph
theorem ok_law {P : Program} {w : World} {K : PySem.W.Frag} {mg : Str → Option Value} {base : Heap} (V : HD.Ev K mg) (hread : t_law { nx := fun _ => False, rt := fun d _ => d = .bool true } (fun _ _ => False) (List.replicate N41.length none)) : ∃ fd, FunD K "law" "law" (defArgs (top 41)) (defBody (top 41)) (defScope (top 41)) [] [] (He.ga K "law") fd ∧ FnOk P w K mg base (L2.CX P w) 26 (He.ga K "law") fd ["_law_script"] (spLaw K) := by
  obtain ⟨h, X, G, c⟩ := V.ok
  obtain ⟨fd, F⟩ := c.def_ 34 (d := d41) rfl
  refine ⟨fd, F, law_ok (N' := N41.tail.tail) F sc41 (fun cd A outer s H E hr => ⟨?_, fun p q => b_law V hr (ok__law_draw V) (ok__law_due V) (ok__law_graph V) (ok__law_kinds V) (ok__law_same V 8) (ok__law_spoilt V 10) (ok_is_question V) (okM__law_same V)⟩) hread⟩
  exact ps_pool (ok__law_pool V) (hr.mono (by decide)) takesD sc41.nd
end LS.QK

set_option maxHeartbeats 4000000
namespace TL
open PySem PySem.Spec PyProof.Rows L2
/-- a law's walk, where exceptions are heard -/
theorem walkW {lw : PySem.W.OpenLaw} {m k : Nat} {pq : Program} {lo : List Str} {XX : (Str → Option Value) → Heap → Prop} {YY : World → Heap → Prop} {rd : DefRec} {C : World → CXT} {x : Str}
    (h1 : lw.most = some m) (h2 : m ≤ sizeLine) (h3 : rd.params.defaults = []) (h4 : Room k callerA)
    (h5 : ∀ (w : World) (mg : Str → Option Value) (fa : Addr) (hp : Heap), YY w hp → hp.Ns mainGlobals mg → mg rd.name = some (.ref fa) →
      ∃ (K : PySem.W.Frag) (fd : FuncData) (sp : Sp), K.In hp ∧ (∀ (s : Shared) (u : Value), BindsTo s fd ⟨[u], []⟩ [(x, u)]) ∧
        (∀ (H : Hp) (a : Addr) (zs : List Int), zs.length ≤ m → SqL K H a (zs.map V.int) → sp [.ref a] H (fun v _ => v = .bl true) fun _ _ _ => False) ∧
        ∀ base : Heap, K.In base → base.Ns mainGlobals mg → FnOk lw.prog w K mg base (C w) k fa fd [x] sp)
    (h6 : ∀ (w : World) (H : Hp) (s : Shared) (e : Value) (s' : Shared), C w [] H s (fun _ _ _ => False) e s' → False) :
    PySem.W.WalkO pq lo XX YY lw.row.toRowW rd [] (fun f vs => PySem.call f vs) := by
  refine Att.attach_call h1 h3 fun w s0 s1 mg mb fa o pm cd doc a vs zs A Y e1 e2 e3 e4 e5 e6 e7 e8 => ?_
  obtain ⟨K, fd, sp, k1, k2, k3, k4⟩ := h5 w mg fa _ Y A.T.g e4
  refine law_call k1 A.T.g A.T.b A.T.builtins A.T.nolimit e8 e5 e6 (Nat.le_trans e7 h2) h4 k4 k2 (fun H _ hS => k3 H a zs e7 hS) fun H e s' => h6 w H s1 e s'
theorem cx_none {P : Program} {w : World} {H : Hp} {s : Shared} {e : Value} {s' : Shared} (h : L2.CX P w [] H s (fun _ _ _ => False) e s') : False := by
  obtain ⟨_, _, _, _, _, _, _, _, _, _, _, _, z⟩ := h
  exact z
end TL

namespace LW
theorem fund_uniq {K : PySem.W.Frag} {x q : PySem.Str} {pa : PySem.Arguments} {bd : List PySem.Stmt} {sc : PySem.Scope} {f : PySem.Addr} {fd gd : PySem.FuncData} (h1 : L2.FunD K x q pa bd sc [] [] f fd) (h2 : L2.FunD K x q pa bd sc [] [] f gd) : fd = gd := by
  obtain ⟨_, _, _, _, _, _, _, _, _, _, _, l1, _⟩ := h1.ex
  obtain ⟨_, _, _, _, _, _, _, _, _, _, _, l2, _⟩ := h2.ex
  rw [l1] at l2
  injection l2 with l2
  injection l2 with _ _ l2 _
  injection l2
end LW
set_option maxHeartbeats 0
namespace HD
open PySem PySem.Spec PyProof.Rows L2
abbrev R : PySem.W.OpenRow := PySem.W.OpenLaw.row PySem.Challenge.rw_trellis_k13_questions
abbrev hook : PySem.W.Hook := TL.hookX 4 fa fn exF
def obs4 (s : PySem.W.SharedT) : Bool × He.AlD := TL.obsX 4 fa fn exF (HandSHeadRun.getT s)
theorem obs4_eq (s : PySem.W.SharedT) : obs4 s = hook.obs s.abs := TL.obsX_eq (HandSHeadRun.getT_eq s)
def looseN : List Str := [("is_integer" : Str), ("is_integer_tuple" : Str), ("is_ascending" : Str), ("is_graph" : Str), ("is_number" : Str), ("is_vertex" : Str), ("is_question" : Str), ("_law_pool" : Str), ("_law_spread" : Str), ("_law_draw" : Str), ("_law_same" : Str), ("_law_is_int" : Str), ("_law_distinct" : Str), ("_law_pairs" : Str), ("_law_of" : Str), ("_law_shuffled" : Str), ("_law_moved" : Str), ("_law_other" : Str), ("_law_random_graph" : Str), ("_law_interval_rows" : Str), ("_law_interval_graph" : Str), ("_law_turned_graph" : Str), ("_law_ordered_graph" : Str), ("_law_clique_graph" : Str), ("_law_drawn_tree" : Str), ("_law_leaves" : Str), ("_law_tree_pairs" : Str), ("_law_graph" : Str), ("_law_strange" : Str), ("_law_spoilt" : Str), ("_law_kinds" : Str), ("_law_ringed" : Str), ("_law_is_graph" : Str), ("_law_due" : Str), ("MOST_VERTICES" : Str), ("PLAIN_KINDS" : Str), ("NUMBER_KINDS" : Str), ("KINDS" : Str)]
theorem runs (w : World) : HandSHeadRun.RunEq R (PySem.W.view R.prog [41]) hook obs4 4000 looseN w := by
  intro os
  kernel_rfl
end HD
open PySem PySem.W PySem.Calls PyProof.Rows
theorem PySem.Challenge.cw_trellis_k13_questions_holds : PySem.Challenge.rw_trellis_k13_questions.Holds := by
  w_on; o_law
  refine HandSHeadRun.head_any (r := OpenLaw.row PySem.Challenge.rw_trellis_k13_questions) (q := view (OpenLaw.row PySem.Challenge.rw_trellis_k13_questions).prog [41]) (H := HD.hook) (ob := HD.obs4) (M := 4000) (loose := HD.looseN) (d := HandSHeadRun.topDef (OpenLaw.row PySem.Challenge.rw_trellis_k13_questions).prog 41) (kwd := []) HD.obs4_eq
    (by kernel_rfl) (fun sh => by kernel_rfl) HD.runs (by kernel_rfl) (by kernel_rfl) (by kernel_rfl) (by rfl) (by first | assumption | decide +kernel) (by decide +kernel) ⟨rfl, rfl, rfl, rfl, rfl, by decide +kernel⟩ ?hw ?hc
  case hw => w_witness2
  case hc =>
    refine TL.walkW (lw := PySem.Challenge.rw_trellis_k13_questions) (m := 63) (k := 26) (x := "_law_script") (C := fun w => L2.CX (PySem.Challenge.rw_trellis_k13_questions).prog w) rfl (by decide) (by kernel_rfl) ⟨rfl, by decide, by decide⟩ ?F (fun _ _ _ _ _ z => TL.cx_none z)
    intro w mg fa hp Y G0 hm0
    obtain ⟨K, KX, c, cx⟩ := Y
    have V : HD.Ev K mg := ⟨⟨hp, KX, G0, c⟩, cx⟩
    have hlaw : mg ("law" : PySem.Str) = some (.ref fa) := by
      have e : (HandSHeadRun.topDef (OpenLaw.row PySem.Challenge.rw_trellis_k13_questions).prog 41).name = ("law" : PySem.Str) := by kernel_rfl
      rw [← e]
      exact hm0
    have e := hlaw.symm.trans V.g_law
    cases e
    obtain ⟨j, F0⟩ := c.def_ 34 (d := HD.d41) rfl
    have F1 : L2.FunD K "law" "law" (L2.defArgs (HD.top 41)) (L2.defBody (HD.top 41)) (L2.defScope (HD.top 41)) [] [] (He.ga K "law") j := F0
    refine ⟨K, j, TL.spLaw K, KX, fun s v => L2.FunD.bindsA (ps := ["_law_script"]) F1 (fun _ _ _ _ _ _ us hl => match us, hl with | [_], _ => rfl) s [v] rfl, fun H a ns _ hS => ⟨a, ns, rfl, hS, fun _ => rfl⟩, fun base _ _ => ?_⟩
    obtain ⟨fd, F2, ok⟩ := LS.QK.ok_law (P := (PySem.Challenge.rw_trellis_k13_questions).prog) (w := w) (base := base) V LS.QK.r_law
    obtain rfl : j = fd := LW.fund_uniq F1 F2
    exact ok
