import PyProof.Rows.All
import Wide.All
import OpenK.AllK
import Wide.FinOn
import KE.KStateDown
import HandS.More
import HandS.Words
import HandS.WordsExc
import HandS.ForMost
import HandS.Exc
import HandS.TryOnly
import HandS.TryMany
import HandS.ExcOwn
import HandS.CallSlots
import HandS.Lambda
import HandS.Defaults
import HandS.IsInst
import HandS.FStr
import HandS.Strs
import HandS.TupAny
import HandS.TupMul
import KE.IntTextLaws
import HandS.HeadHook4
import HandS.Style
import HandS.SetFor
import HandS.SetIn
import HandS.HeadWalk
import KE.KNestM
import HandS.Head0
import HandS.Head1
import HandS.Head2
import HandS.HeadEnd
import PySem.Challenge.RW_sockrows_k75_whole_texts_of_lumps
set_option Elab.async false
set_option linter.all false
set_option maxRecDepth 100000
set_option maxHeartbeats 2000000
/-! Z: a plain semantics of a part of Python (values, an abstract heap by indexes), and how it stands to the layer's judgements. -/
namespace Z
open PySem PySem.Spec PyProof.Rows L2
abbrev St := L2.St

/-- values; tuples are values, what may change stands in the abstract heap at an index -/
inductive AV where
  | non | bl (b : Bool) | int (i : Int) | str (x : List Nat) | tup (xs : List AV) | ref (n : Nat) | lsc (ns : List Int)
inductive AO where
  | lst (xs : List AV)
  | dic (kvs : List (Key × AV))
  | ins (c : Str) (fs : List (Str × AV))
abbrev AH := List AO
inductive R (α : Type) where
  | ok (a : α) (h : AH) | exc (c : Str) (v : AV) (h : AH) | stk
abbrev M (α : Type) := AH → R α
def R.bind {α β : Type} (r : R α) (f : α → M β) : R β := match r with
  | .ok a h => f a h
  | .exc c v h => .exc c v h
  | .stk => .stk
def M.bind {α β : Type} (m : M α) (f : α → M β) : M β := fun h => (m h).bind f
def M.pure {α : Type} (a : α) : M α := fun h => .ok a h
def M.stk {α : Type} : M α := fun _ => .stk
abbrev AS := List (Option AV)
abbrev SEm := AS → M AV

/-! ### how they stand to the layer's values -/
/-- a list that is never changed: frozen, or of the written part -/
def SqF (K : PySem.W.Frag) (H : Hp) (a : Addr) (xs : List V) : Prop := (∃ o, H a = some (.frz o (.lst xs))) ∨
  ∃ (o : Obj) (its : Array Value) (n : Nat), K.lookup a = some o ∧ o.cls = .type "list" ∧ o.dict = none ∧ o.data = .seq its n ∧ its.size ≤ sizeLine ∧ Vals xs its.toList
theorem SqF.sq {K : PySem.W.Frag} {H : Hp} {a : Addr} {xs : List V} (h : SqF K H a xs) : SqL K H a xs := by
  rcases h with h | h
  · exact .inl (.inr h)
  · exact .inr h
theorem SqF.cases {K : PySem.W.Frag} {H : Hp} {a : Addr} {xs : List V} (h : SqL K H a xs) : H a = some (.lst xs) ∨ SqF K H a xs := by
  rcases h with (h | h) | h
  · exact .inl h
  · exact .inr (.inl h)
  · exact .inr (.inr h)
mutual
def RV (K : PySem.W.Frag) (μ : List Addr) (H : Hp) : AV → V → Prop
  | .non, v => v = .non
  | .bl b, v => v = .bl b
  | .int i, v => v = .int i
  | .str x, v => v = .str ⟨x.toArray⟩ ∧ ∀ c ∈ x, c < 1114112
  | .tup xs, v => ∃ a vs, v = .ref a ∧ SqT K H a vs ∧ RVs K μ H xs vs
  | .ref n, v => ∃ a, v = .ref a ∧ μ[n]? = some a
  | .lsc ns, v => ∃ a, v = .ref a ∧ SqF K H a (ns.map V.int)
def RVs (K : PySem.W.Frag) (μ : List Addr) (H : Hp) : List AV → List V → Prop
  | [], vs => vs = []
  | x :: xs, vs => ∃ v ws, vs = v :: ws ∧ RV K μ H x v ∧ RVs K μ H xs ws
end
def KVa (K : PySem.W.Frag) (μ : List Addr) (H : Hp) : List (Key × AV) → List (Key × V) → Prop
  | [], vs => vs = []
  | x :: xs, vs => ∃ v ws, vs = (x.1, v) :: ws ∧ RV K μ H x.2 v ∧ KVa K μ H xs ws
def FVa (K : PySem.W.Frag) (μ : List Addr) (H : Hp) : List (Str × AV) → List (Str × V) → Prop
  | [], vs => vs = []
  | x :: xs, vs => ∃ v ws, vs = (x.1, v) :: ws ∧ RV K μ H x.2 v ∧ FVa K μ H xs ws
/-- the configuration: the written part, where the classes stand, what an error keeps -/
structure Cf where
  K : PySem.W.Frag
  cls : Str → Addr
  fld : Str → Str
  T : List (Addr × Str)
def RO (C : Cf) (μ : List Addr) (H : Hp) (a : Addr) : AO → Prop
  | .lst xs => ∃ vs, H a = some (.lst vs) ∧ RVs C.K μ H xs vs
  | .dic kvs => ∃ vs, H a = some (.dK vs) ∧ KVa C.K μ H kvs vs
  | .ins c fs => ∃ dx vs, H a = some (.ins (C.cls c) dx vs) ∧ FVa C.K μ H fs vs
structure RelH (C : Cf) (μ : List Addr) (H : Hp) (ah : AH) : Prop where
  len : μ.length = ah.length
  nd : μ.Nodup
  at_ : ∀ (i : Nat) o, ah[i]? = some o → ∃ a, μ[i]? = some a ∧ RO C μ H a o
  tabs : LamX.Tabs C.T H
structure Fut (μ : List Addr) (H : Hp) (μ' : List Addr) (H' : Hp) : Prop where
  pre : ∀ (i : Nat) a, μ[i]? = some a → μ'[i]? = some a
  tup : ∀ b xs, H b = some (.tup xs) → H' b = some (.tup xs)
  frz : ∀ b o u, H b = some (.frz o u) → H' b = some (.frz o u)
theorem Fut.refl {μ : List Addr} {H : Hp} : Fut μ H μ H := ⟨fun _ _ h => h, fun _ _ h => h, fun _ _ _ h => h⟩
theorem Fut.trans {μ μ1 μ2 : List Addr} {H H1 H2 : Hp} (a : Fut μ H μ1 H1) (b : Fut μ1 H1 μ2 H2) : Fut μ H μ2 H2 :=
  ⟨fun i c h => b.pre i c (a.pre i c h), fun c xs h => b.tup c xs (a.tup c xs h), fun c o u h => b.frz c o u (a.frz c o u h)⟩
section
variable {K : PySem.W.Frag} {C : Cf} {μ μ' : List Addr} {H H' : Hp}
theorem SqT.fut {a : Addr} {xs : List V} (f : Fut μ H μ' H') (h : SqT K H a xs) : SqT K H' a xs := by
  rcases h with (h | ⟨o, h⟩) | h
  · exact .inl (.inl (f.tup _ _ h))
  · exact .inl (.inr ⟨o, f.frz _ _ _ h⟩)
  · exact .inr h
theorem SqF.fut {a : Addr} {xs : List V} (f : Fut μ H μ' H') (h : SqF K H a xs) : SqF K H' a xs := by
  rcases h with ⟨o, h⟩ | h
  · exact .inl ⟨o, f.frz _ _ _ h⟩
  · exact .inr h
mutual
theorem RV.fut (f : Fut μ H μ' H') : ∀ (a : AV) (v : V), RV K μ H a v → RV K μ' H' a v
  | .non, _, h => by simpa [RV] using h
  | .bl _, _, h => by simpa [RV] using h
  | .int _, _, h => by simpa [RV] using h
  | .str _, _, h => by simpa [RV] using h
  | .tup xs, v, h => by
    simp only [RV] at h ⊢
    obtain ⟨a, vs, e, hq, hr⟩ := h
    exact ⟨a, vs, e, SqT.fut f hq, RVs.fut f xs vs hr⟩
  | .ref n, v, h => by
    simp only [RV] at h ⊢
    obtain ⟨a, e, hq⟩ := h
    exact ⟨a, e, f.pre _ _ hq⟩
  | .lsc ns, v, h => by
    simp only [RV] at h ⊢
    obtain ⟨a, e, hq⟩ := h
    exact ⟨a, e, SqF.fut f hq⟩
theorem RVs.fut (f : Fut μ H μ' H') : ∀ (xs : List AV) (vs : List V), RVs K μ H xs vs → RVs K μ' H' xs vs
  | [], _, h => by simpa [RVs] using h
  | x :: xs, vs, h => by
    simp only [RVs] at h ⊢
    obtain ⟨v, ws, e, h1, h2⟩ := h
    exact ⟨v, ws, e, RV.fut f x v h1, RVs.fut f xs ws h2⟩
end
theorem KVa.fut (f : Fut μ H μ' H') : ∀ (xs : List (Key × AV)) (vs : List (Key × V)), KVa K μ H xs vs → KVa K μ' H' xs vs
  | [], _, h => h
  | x :: xs, vs, ⟨v, ws, e, h1, h2⟩ => ⟨v, ws, e, RV.fut f x.2 v h1, KVa.fut f xs ws h2⟩
theorem FVa.fut (f : Fut μ H μ' H') : ∀ (xs : List (Str × AV)) (vs : List (Str × V)), FVa K μ H xs vs → FVa K μ' H' xs vs
  | [], _, h => h
  | x :: xs, vs, ⟨v, ws, e, h1, h2⟩ => ⟨v, ws, e, RV.fut f x.2 v h1, FVa.fut f xs ws h2⟩
theorem RVs.length : ∀ {xs : List AV} {vs : List V}, RVs K μ H xs vs → vs.length = xs.length
  | [], _, h => by simp only [RVs] at h; subst h; rfl
  | x :: xs, vs, h => by
    simp only [RVs] at h
    obtain ⟨v, ws, e, _, h2⟩ := h
    subst e
    simp [RVs.length h2]
theorem RVs.cons {x : AV} {xs : List AV} {v : V} {vs : List V} (h1 : RV K μ H x v) (h2 : RVs K μ H xs vs) : RVs K μ H (x :: xs) (v :: vs) := by
  simp only [RVs]; exact ⟨v, vs, rfl, h1, h2⟩
theorem RVs.nil : RVs K μ H [] [] := by simp only [RVs]
theorem RVs.get : ∀ {xs : List AV} {vs : List V} {i : Nat} {x : AV}, RVs K μ H xs vs → xs[i]? = some x → ∃ v, vs[i]? = some v ∧ RV K μ H x v
  | [], _, _, _, _, e => by simp at e
  | y :: ys, vs, 0, x, h, e => by
    simp only [RVs] at h
    obtain ⟨v, ws, e1, h1, h2⟩ := h
    subst e1
    simp at e
    subst e
    exact ⟨v, rfl, h1⟩
  | y :: ys, vs, i + 1, x, h, e => by
    simp only [RVs] at h
    obtain ⟨v, ws, e1, h1, h2⟩ := h
    subst e1
    exact RVs.get (i := i) h2 (by simpa using e)
theorem RVs.append : ∀ {xs ys : List AV} {vs ws : List V}, RVs K μ H xs vs → RVs K μ H ys ws → RVs K μ H (xs ++ ys) (vs ++ ws)
  | [], ys, vs, ws, h, h' => by
    simp only [RVs] at h; subst h; exact h'
  | x :: xs, ys, vs, ws, h, h' => by
    simp only [RVs] at h
    obtain ⟨v, us, e1, h1, h2⟩ := h
    subst e1
    exact RVs.cons h1 (RVs.append h2 h')
theorem RVs.take : ∀ {xs : List AV} {vs : List V} (n : Nat), RVs K μ H xs vs → RVs K μ H (xs.take n) (vs.take n)
  | [], vs, n, h => by simp only [RVs] at h; subst h; simpa using RVs.nil
  | x :: xs, vs, 0, h => by simpa using RVs.nil
  | x :: xs, vs, n + 1, h => by
    simp only [RVs] at h
    obtain ⟨v, us, e1, h1, h2⟩ := h
    subst e1
    exact RVs.cons h1 (RVs.take n h2)
theorem RVs.drop : ∀ {xs : List AV} {vs : List V} (n : Nat), RVs K μ H xs vs → RVs K μ H (xs.drop n) (vs.drop n)
  | [], vs, n, h => by simp only [RVs] at h; subst h; simpa using RVs.nil
  | x :: xs, vs, 0, h => h
  | x :: xs, vs, n + 1, h => by
    simp only [RVs] at h
    obtain ⟨v, us, e1, h1, h2⟩ := h
    subst e1
    exact RVs.drop n h2
theorem RVs.set : ∀ {xs : List AV} {vs : List V} (n : Nat) {y : AV} {w : V}, RVs K μ H xs vs → RV K μ H y w → RVs K μ H (xs.set n y) (vs.set n w)
  | [], vs, n, y, w, h, _ => by simp only [RVs] at h; subst h; simpa using RVs.nil
  | x :: xs, vs, 0, y, w, h, hy => by
    simp only [RVs] at h
    obtain ⟨v, us, e1, h1, h2⟩ := h
    subst e1
    exact RVs.cons hy h2
  | x :: xs, vs, n + 1, y, w, h, hy => by
    simp only [RVs] at h
    obtain ⟨v, us, e1, h1, h2⟩ := h
    subst e1
    exact RVs.cons h1 (RVs.set n h2 hy)
theorem RVs.dropLast : ∀ {xs : List AV} {vs : List V}, RVs K μ H xs vs → RVs K μ H xs.dropLast vs.dropLast := fun {xs vs} h => by
  rw [List.dropLast_eq_take, List.dropLast_eq_take, h.length]
  exact RVs.take _ h
theorem RVs.reverse : ∀ {xs : List AV} {vs : List V}, RVs K μ H xs vs → RVs K μ H xs.reverse vs.reverse
  | [], vs, h => by simp only [RVs] at h; subst h; exact RVs.nil
  | x :: xs, vs, h => by
    simp only [RVs] at h
    obtain ⟨v, us, e1, h1, h2⟩ := h
    subst e1
    rw [List.reverse_cons, List.reverse_cons]
    exact RVs.append (RVs.reverse h2) (RVs.cons h1 RVs.nil)
theorem RVs.ints : ∀ {ns : List Int} {vs : List V}, RVs K μ H (ns.map AV.int) vs → vs = ns.map V.int
  | [], vs, h => by simpa [RVs] using h
  | n :: ns, vs, h => by
    simp only [List.map_cons, RVs, RV] at h
    obtain ⟨v, us, e1, h1, h2⟩ := h
    subst e1 h1
    rw [RVs.ints h2]; rfl
theorem RVs.of_ints : ∀ (ns : List Int), RVs K μ H (ns.map AV.int) (ns.map V.int)
  | [] => RVs.nil
  | n :: ns => RVs.cons (by simp only [RV]) (RVs.of_ints ns)
theorem RO.fut_same {a : Addr} {o : AO} (f : Fut μ H μ' H') (e : H' a = H a) (h : RO C μ H a o) : RO C μ' H' a o := by
  cases o with
  | lst xs => obtain ⟨vs, h1, h2⟩ := h; exact ⟨vs, by rw [e]; exact h1, RVs.fut f _ _ h2⟩
  | dic kvs => obtain ⟨vs, h1, h2⟩ := h; exact ⟨vs, by rw [e]; exact h1, KVa.fut f _ _ h2⟩
  | ins c fs => obtain ⟨dx, vs, h1, h2⟩ := h; exact ⟨dx, vs, by rw [e]; exact h1, FVa.fut f _ _ h2⟩
theorem RO.there {a : Addr} {o : AO} (h : RO C μ H a o) : ∃ u, H a = some u := by
  cases o with
  | lst xs => obtain ⟨vs, h1, _⟩ := h; exact ⟨_, h1⟩
  | dic xs => obtain ⟨vs, h1, _⟩ := h; exact ⟨_, h1⟩
  | ins c fs => obtain ⟨dx, vs, h1, _⟩ := h; exact ⟨_, h1⟩
theorem RO.nottup {a : Addr} {o : AO} (h : RO C μ H a o) : (∀ xs, H a ≠ some (HO.tup xs)) ∧ ∀ ob u, H a ≠ some (HO.frz ob u) := by
  cases o with
  | lst xs => obtain ⟨vs, h1, _⟩ := h; rw [h1]; exact ⟨fun _ z => (nomatch z), fun _ _ z => (nomatch z)⟩
  | dic xs => obtain ⟨vs, h1, _⟩ := h; rw [h1]; exact ⟨fun _ z => (nomatch z), fun _ _ z => (nomatch z)⟩
  | ins c fs => obtain ⟨dx, vs, h1, _⟩ := h; rw [h1]; exact ⟨fun _ z => (nomatch z), fun _ _ z => (nomatch z)⟩
/-- a new object, not in the abstract heap -/
theorem Fut.new {p : Addr} {o : HO} (hp : H p = none) : Fut μ H μ (upd H p o) :=
  ⟨fun _ _ h => h, fun b xs h => by rw [upd_ne (ne_of_none h hp)]; exact h, fun b ob u h => by rw [upd_ne (ne_of_none h hp)]; exact h⟩
theorem RelH.lt {ah : AH} (r : RelH C μ H ah) {i : Nat} {a : Addr} (h : μ[i]? = some a) : ∃ o, ah[i]? = some o ∧ RO C μ H a o := by
  have hi : i < ah.length := by rw [← r.len]; exact (List.getElem?_eq_some_iff.mp h).1
  obtain ⟨b, hb, ho⟩ := r.at_ i ah[i] (by simp [hi])
  rw [h] at hb; cases hb
  exact ⟨_, by simp [hi], ho⟩
theorem RelH.fresh {ah : AH} (r : RelH C μ H ah) {p : Addr} (hp : H p = none) : p ∉ μ := fun hm => by
  obtain ⟨i, hi⟩ := List.getElem?_of_mem hm
  obtain ⟨o, _, ho⟩ := r.lt hi
  obtain ⟨u, hu⟩ := ho.there
  rw [hp] at hu; cases hu
theorem RelH.keep {ah : AH} (r : RelH C μ H ah) (f : Fut μ H μ H') (e : ∀ a ∈ μ, H' a = H a) (t : LamX.Tabs C.T H') : RelH C μ H' ah :=
  ⟨r.len, r.nd, fun i o h => by
    obtain ⟨a, ha, ho⟩ := r.at_ i o h
    exact ⟨a, ha, RO.fut_same f (e a (List.mem_of_getElem? ha)) ho⟩, t⟩
theorem tabs_new {T : List (Addr × Str)} {p : Addr} {o : HO} (t : LamX.Tabs T H) (hp : H p = none) : LamX.Tabs T (upd H p o) := t.ext fun b u e => by rw [upd_ne (ne_of_none e hp)]; exact e
theorem tabs_set {T : List (Addr × Str)} {a : Addr} {o : HO} {u : AO} (t : LamX.Tabs T H) (h : RO C μ H a u) : LamX.Tabs T (upd H a o) := fun p hp => by
  obtain ⟨ps, h1, h2, h3⟩ := t p hp
  have n1 : p.1 ≠ a := fun z => by
    rw [z] at h1
    cases u with
    | lst xs => obtain ⟨vs, q, _⟩ := h; rw [h1] at q; cases q
    | dic xs => obtain ⟨vs, q, _⟩ := h; rw [h1] at q; cases q
    | ins c fs => obtain ⟨dx, vs, q, _⟩ := h; rw [h1] at q; cases q
  refine ⟨ps, by rw [upd_ne n1]; exact h1, h2, fun pos cv hc => ?_⟩
  obtain ⟨c, e1, e2⟩ := h3 pos cv hc
  have n2 : c ≠ a := fun z => by
    rw [z] at e2
    unfold LamX.CodeO at e2
    cases u with
    | lst xs => obtain ⟨vs, q, _⟩ := h; rw [e2] at q; cases q
    | dic xs => obtain ⟨vs, q, _⟩ := h; rw [e2] at q; cases q
    | ins c fs => obtain ⟨dx, vs, q, _⟩ := h; rw [e2] at q; cases q
  exact ⟨c, e1, by rw [upd_ne n2]; exact e2⟩
/-- an untracked-by-us new object (a tuple) -/
theorem RelH.new {ah : AH} (r : RelH C μ H ah) {p : Addr} {o : HO} (hp : H p = none) : RelH C μ (upd H p o) ah :=
  r.keep (Fut.new hp) (fun a ha => upd_ne fun z => r.fresh hp (z ▸ ha)) (tabs_new r.tabs hp)
theorem Fut.push {p : Addr} {o : HO} (hp : H p = none) : Fut μ H (μ ++ [p]) (upd H p o) :=
  ⟨fun i a h => by rw [List.getElem?_append_left (List.getElem?_eq_some_iff.mp h).1]; exact h, (Fut.new (μ := μ) hp).tup, (Fut.new (μ := μ) hp).frz⟩
/-- a new object at the abstract heap's end -/
theorem RelH.push {ah : AH} (r : RelH C μ H ah) {p : Addr} {o : HO} {u : AO} (hp : H p = none) (ho : RO C (μ ++ [p]) (upd H p o) p u) : RelH C (μ ++ [p]) (upd H p o) (ah ++ [u]) := by
  have hn := r.fresh hp
  refine ⟨by simp [r.len], ?_, fun i w h => ?_, tabs_new r.tabs hp⟩
  · rw [List.nodup_append]
    exact ⟨r.nd, by simp, fun a ha b hb => by simp at hb; subst hb; exact fun z => hn (z ▸ ha)⟩
  · by_cases hi : i < ah.length
    · rw [List.getElem?_append_left hi] at h
      obtain ⟨a, ha, hw⟩ := r.at_ i w h
      refine ⟨a, (Fut.push (o := o) hp).pre i a ha, RO.fut_same (Fut.push hp) (upd_ne fun z => hn (z ▸ List.mem_of_getElem? ha)) hw⟩
    · have hl : i < (ah ++ [u]).length := (List.getElem?_eq_some_iff.mp h).1
      rw [List.length_append] at hl
      have e : i = ah.length := by simp at hl; omega
      subst e
      rw [List.getElem?_append_right (Nat.le_refl _)] at h
      simp at h
      subst h
      exact ⟨p, by rw [← r.len, List.getElem?_append_right (Nat.le_refl _)]; simp, ho⟩
/-- an object changed -/
theorem Fut.set {a : Addr} {o : HO} (h1 : ∀ xs, H a ≠ some (.tup xs)) (h2 : ∀ ob u, H a ≠ some (.frz ob u)) : Fut μ H μ (upd H a o) :=
  ⟨fun _ _ h => h, fun b xs h => by rw [upd_ne (fun z => by subst z; exact h1 xs h)]; exact h, fun b ob u h => by rw [upd_ne (fun z => by subst z; exact h2 ob u h)]; exact h⟩
theorem RelH.set {ah : AH} (r : RelH C μ H ah) {n : Nat} {a : Addr} {o : HO} {u : AO} (hn : μ[n]? = some a) (ho : RO C μ (upd H a o) a u) : RelH C μ (upd H a o) (ah.set n u) := by
  obtain ⟨w, hw, hr⟩ := r.lt hn
  have nt := hr.nottup
  refine ⟨by simp [r.len], r.nd, fun i x h => ?_, tabs_set r.tabs hr⟩
  by_cases hi : n = i
  · subst hi
    have hl : n < ah.length := (List.getElem?_eq_some_iff.mp hw).1
    rw [List.getElem?_set_self hl] at h
    cases h
    exact ⟨a, hn, ho⟩
  · rw [List.getElem?_set_ne hi] at h
    obtain ⟨b, hb, hx⟩ := r.at_ i x h
    refine ⟨b, hb, RO.fut_same (Fut.set nt.1 nt.2) (upd_ne fun z => ?_) hx⟩
    subst z
    exact hi (((List.getElem?_inj (List.getElem?_eq_some_iff.mp hn).1 r.nd).mp (hn.trans hb.symm)))
theorem RelH.futset {ah : AH} (r : RelH C μ H ah) {n : Nat} {a : Addr} {o : HO} (hn : μ[n]? = some a) : Fut μ H μ (upd H a o) := by
  obtain ⟨w, hw, hr⟩ := r.lt hn
  exact Fut.set hr.nottup.1 hr.nottup.2
end

/-! ### slots -/
structure RelS (K : PySem.W.Frag) (μ : List Addr) (H : Hp) (sa : AS) (σ : St) : Prop where
  len : sa.length = σ.length
  at_ : ∀ (i : Nat) a, sa[i]? = some (some a) → ∃ v, σ[i]? = some (some v) ∧ RV K μ H a v
section
variable {K : PySem.W.Frag} {μ μ' : List Addr} {H H' : Hp} {sa : AS} {σ : St}
theorem RelS.fut (f : Fut μ H μ' H') (r : RelS K μ H sa σ) : RelS K μ' H' sa σ :=
  ⟨r.len, fun i a h => let ⟨v, e, q⟩ := r.at_ i a h; ⟨v, e, RV.fut f _ _ q⟩⟩
theorem RelS.set {a : AV} {v : V} (r : RelS K μ H sa σ) (i : Nat) (h : RV K μ H a v) : RelS K μ H (sa.set i (some a)) (σ.set i (some v)) := by
  refine ⟨by simp [r.len], fun j b e => ?_⟩
  by_cases hj : i = j
  · subst hj
    by_cases hl : i < sa.length
    · rw [List.getElem?_set_self hl] at e
      cases e
      exact ⟨v, by rw [List.getElem?_set_self (by rw [← r.len]; exact hl)], h⟩
    · rw [List.getElem?_eq_none (by simpa using hl)] at e
      cases e
  · rw [List.getElem?_set_ne hj] at e ⊢
    exact r.at_ j b e
end

/-! ### what is left to be shown of a result -/
abbrev Rel (α β : Type) := List Addr → Hp → α → β → Prop
def Post {α β : Type} (C : Cf) (E : XK) (μ : List Addr) (H : Hp) (rel : Rel α β) (r : R α) (Q : β → Hp → Prop) : Prop := match r with
  | .ok a h => ∀ μ' H' v, Fut μ H μ' H' → RelH C μ' H' h → rel μ' H' a v → Q v H'
  | .exc c a h => ∀ μ' H' d v, Fut μ H μ' H' → RelH C μ' H' h → RV C.K μ' H' a v → H' d = some (.xd [(C.fld c, v)]) → E (.ref (C.cls c)) (some d) H'
  | .stk => False
section
variable {α β γ δ : Type} {C : Cf} {E : XK} {μ μ' : List Addr} {H H' : Hp}
theorem Post.fut {rel : Rel α β} {r : R α} {Q : β → Hp → Prop} (f : Fut μ H μ' H') (h : Post C E μ H rel r Q) : Post C E μ' H' rel r Q := by
  cases r with
  | ok a ah => exact fun μ2 H2 v g => h μ2 H2 v (f.trans g)
  | exc c a ah => exact fun μ2 H2 d v g => h μ2 H2 d v (f.trans g)
  | stk => exact h
theorem Post.mono {rel : Rel α β} {r : R α} {Q Q' : β → Hp → Prop} (h : Post C E μ H rel r Q) (i : ∀ v H', Q v H' → Q' v H') : Post C E μ H rel r Q' := by
  cases r with
  | ok a ah => exact fun μ2 H2 v g r1 r2 => i _ _ (h μ2 H2 v g r1 r2)
  | exc c a ah => exact h
  | stk => exact h
/-- a step, then the rest -/
theorem Post.bind {rel : Rel α β} {rel' : Rel γ δ} {r : R α} {f : α → M γ} {Q : δ → Hp → Prop} (h : Post C E μ H rel' (r.bind f) Q) :
    Post C E μ H rel r fun v H1 => ∃ μ1 a h1, Fut μ H μ1 H1 ∧ RelH C μ1 H1 h1 ∧ rel μ1 H1 a v ∧ Post C E μ1 H1 rel' (f a h1) Q := by
  cases r with
  | ok a ah => exact fun μ1 H1 v g r1 r2 => ⟨μ1, a, ah, g, r1, r2, Post.fut g h⟩
  | exc c a ah => exact h
  | stk => exact h
theorem Post.ok {rel : Rel α β} {a : α} {ah : AH} {v : β} {Q : β → Hp → Prop} (h : Post C E μ H rel (.ok a ah) Q) (f : Fut μ H μ' H') (r : RelH C μ' H' ah) (q : rel μ' H' a v) : Q v H' := h μ' H' v f r q
end
abbrev XW := Value → Option Addr → St → Hp → Prop
/-- an expression's reading -/
def simE (C : Cf) (W : XW) (m : SEm) : TE := fun σ H Q => ∃ μ sa ah, RelS C.K μ H sa σ ∧ RelH C μ H ah ∧ Post C (fun c d H => W c d σ H) μ H (RV C.K) (m sa ah) Q
def simT (C : Cf) (W : XW) (m : AS → M Bool) : TT := fun σ H Q => ∃ μ sa ah, RelS C.K μ H sa σ ∧ RelH C μ H ah ∧ Post C (fun c d H => W c d σ H) μ H (fun _ _ (a b : Bool) => b = a) (m sa ah) Q
def simA (C : Cf) (W : XW) (m : AS → M (List AV)) : TA := fun σ H Q => ∃ μ sa ah, RelS C.K μ H sa σ ∧ RelH C μ H ah ∧ Post C (fun c d H => W c d σ H) μ H (RVs C.K) (m sa ah) Q
theorem PE.imp {X : Cx} {e : Expr} {t t' : TE} (h : PE X e t) (i : ∀ σ H Q, t' σ H Q → t σ H Q) : PE X e t' := ⟨fun pins s σ H Q I q => h.run pins s σ H Q I (i σ H Q q)⟩
theorem PT.imp {X : Cx} {e : Expr} {t t' : TT} (h : PT X e t) (i : ∀ σ H Q, t' σ H Q → t σ H Q) : PT X e t' := ⟨fun pins s σ H Q I q => h.run pins s σ H Q I (i σ H Q q)⟩
theorem PA.imp {X : Cx} {e : List Expr} {t t' : TA} (h : PA X e t) (i : ∀ σ H Q, t' σ H Q → t σ H Q) : PA X e t' := ⟨fun p pins s σ H Q I q => h.run p pins s σ H Q I (i σ H Q q)⟩
theorem PS.imp {X : Cx} {e : Stmt} {t t' : TS} (h : PS X e t) (i : ∀ σ H D, t' D σ H → t D σ H) : PS X e t' := ⟨fun pins s σ H Q I q => h.run pins s σ H Q I (i σ H Q q)⟩
theorem PSs.imp {X : Cx} {e : List Stmt} {t t' : TS} (h : PSs X e t) (i : ∀ σ H D, t' D σ H → t D σ H) : PSs X e t' := ⟨fun pins s σ H Q I q => h.run pins s σ H Q I (i σ H Q q)⟩
end Z

set_option maxHeartbeats 2000000
namespace Z
open PySem PySem.Spec PyProof.Rows L2
theorem line_eq : sizeLine = 16777216 := sizeLine_eq
abbrev mkS (x : List Nat) : PySem.Str := ⟨x.toArray⟩
theorem mkS_len (x : List Nat) : (mkS x).length = x.length := by show x.toArray.size = _; simp
theorem mkS_tl (x : List Nat) : (mkS x).cps.toList = x := by simp
theorem mkS_app (x y : List Nat) : mkS x ++ mkS y = mkS (x ++ y) := by
  show (⟨x.toArray ++ y.toArray⟩ : PySem.Str) = ⟨(x ++ y).toArray⟩
  simp
theorem mkS_inj {x y : List Nat} (h : mkS x = mkS y) : x = y := by
  have := congrArg (fun z : PySem.Str => z.cps.toList) h
  simpa using this
abbrev NoE : XK := fun _ _ _ => False
/-! ### the abstract heap's own steps -/
def alloc (o : AO) : M AV := fun h => .ok (.ref h.length) (h ++ [o])
def getL (n : Nat) : M (List AV) := fun h => match h[n]? with
  | some (.lst xs) => .ok xs h
  | _ => .stk
def setO (n : Nat) (o : AO) : M Unit := fun h => .ok () (h.set n o)
def guard (b : Bool) (m : M α) : M α := if b = true then m else M.stk
section
variable {C : Cf} {E : XK} {μ : List Addr} {H : Hp} {ah : AH}
/-- the reading of an operation on values -/
def rS2 (C : Cf) (f : AV → AV → M AV) : R2 := fun x y H Q => ∃ (E : XK) (μ : List Addr) (ah : AH) (a b : AV), RelH C μ H ah ∧ RV C.K μ H a x ∧ RV C.K μ H b y ∧ Post C E μ H (RV C.K) (f a b ah) Q
def rS1 (C : Cf) (f : AV → M AV) : V → Hp → VK → Prop := fun x H Q => ∃ (E : XK) (μ : List Addr) (ah : AH) (a : AV), RelH C μ H ah ∧ RV C.K μ H a x ∧ Post C E μ H (RV C.K) (f a ah) Q
def rSL (C : Cf) (f : List AV → M AV) : List V → Hp → VK → Prop := fun xs H Q => ∃ (E : XK) (μ : List Addr) (ah : AH) (as : List AV), RelH C μ H ah ∧ RVs C.K μ H as xs ∧ Post C E μ H (RV C.K) (f as ah) Q
theorem RelH.lst_of (r : RelH C μ H ah) {n : Nat} {xs : List AV} {v : V} (hn : ah[n]? = some (.lst xs)) (hv : RV C.K μ H (.ref n) v) : ∃ a vs, v = .ref a ∧ μ[n]? = some a ∧ H a = some (.lst vs) ∧ RVs C.K μ H xs vs := by
  simp only [RV] at hv
  obtain ⟨a, rfl, ha⟩ := hv
  obtain ⟨o, ho, hr⟩ := r.lt ha
  rw [hn] at ho
  cases ho
  obtain ⟨vs, h1, h2⟩ := hr
  exact ⟨a, vs, rfl, ha, h1, h2⟩
/-- a new list -/
theorem Post.alloc {xs : List AV} {Q : VK} (r : RelH C μ H ah) (h : Post C E μ H (RV C.K) (alloc (.lst xs) ah) Q) {vs : List V} (hv : RVs C.K μ H xs vs) : ∀ p, H p = none → Q (.ref p) (upd H p (.lst vs)) := fun p hp => by
  have f := Fut.push (μ := μ) (o := .lst vs) hp
  refine h (μ ++ [p]) _ _ f (r.push hp ⟨vs, upd_same, RVs.fut f _ _ hv⟩) ?_
  simp only [RV]
  exact ⟨p, rfl, by rw [← r.len, List.getElem?_append_right (Nat.le_refl _)]; simp⟩
theorem Post.tup {xs : List AV} {Q : VK} (r : RelH C μ H ah) (h : Post C E μ H (RV C.K) (.ok (.tup xs) ah) Q) {vs : List V} (hv : RVs C.K μ H xs vs) : ∀ p, H p = none → Q (.ref p) (upd H p (.tup vs)) := fun p hp => by
  have f := Fut.new (μ := μ) (o := .tup vs) hp
  refine h μ _ _ f (r.new hp) ?_
  simp only [RV]
  exact ⟨p, vs, rfl, .inl (.inl upd_same), RVs.fut f _ _ hv⟩
theorem Post.val {a : AV} {v : V} {Q : VK} (r : RelH C μ H ah) (h : Post C E μ H (RV C.K) (.ok a ah) Q) (hv : RV C.K μ H a v) : Q v H := h μ H v Fut.refl r hv
theorem rv_int {K : PySem.W.Frag} {i : Int} : RV K μ H (.int i) (.int i) := by simp only [RV]
theorem rv_bl {K : PySem.W.Frag} {i : Bool} : RV K μ H (.bl i) (.bl i) := by simp only [RV]
theorem rv_non {K : PySem.W.Frag} : RV K μ H .non .non := by simp only [RV]
theorem rv_str {K : PySem.W.Frag} {x : List Nat} (h : ∀ c ∈ x, c < 1114112) : RV K μ H (.str x) (.str (mkS x)) := by unfold RV; exact ⟨rfl, h⟩
end

/-! ### + - * // % -/
def aAdd (a b : AV) : M AV := match a, b with
  | .int i, .int j => M.pure (.int (i + j))
  | .str x, .str y => if x.length + y.length ≤ 16777216 then M.pure (.str (x ++ y)) else M.stk
  | .tup x, .tup y => if x.length + y.length ≤ 16777216 then M.pure (.tup (x ++ y)) else M.stk
  | .ref m, .ref n => fun h => match h[m]?, h[n]? with
    | some (.lst xs), some (.lst ys) => if xs.length + ys.length ≤ 16777216 then alloc (.lst (xs ++ ys)) h else .stk
    | _, _ => .stk
  | _, _ => M.stk
def aSub (a b : AV) : M AV := match a, b with
  | .int i, .int j => M.pure (.int (i - j))
  | _, _ => M.stk
def small64 (i : Int) : Bool := decide (-(2 ^ 64) < i) && decide (i < 2 ^ 64)
def aMul (a b : AV) : M AV := match a, b with
  | .int i, .int j => if (small64 i || small64 j) = true then M.pure (.int (i * j)) else M.stk
  | .str x, .int k => if x.length ≤ 1000 ∧ -1000 ≤ k ∧ k ≤ 1000 then M.pure (.str (List.replicate k.toNat x).flatten) else M.stk
  | .tup x, .int k => if x ≠ [] ∧ x.length ≤ 1000 ∧ 2 ≤ k ∧ k ≤ 1000 then M.pure (.tup (List.replicate k.toNat x).flatten) else M.stk
  | .ref n, .int k => fun h => match h[n]? with
    | some (.lst xs) => if xs.length ≤ 1000 ∧ -1000 ≤ k ∧ k ≤ 1000 then alloc (.lst (List.replicate k.toNat xs).flatten) h else .stk
    | _ => .stk
  | _, _ => M.stk
def aDiv (a b : AV) : M AV := match a, b with
  | .int i, .int j => if 0 < j ∧ j < 1073741824 then M.pure (.int (i / j)) else M.stk
  | _, _ => M.stk
def aMod (a b : AV) : M AV := match a, b with
  | .int i, .int j => if 0 < j then M.pure (.int (i % j)) else M.stk
  | _, _ => M.stk
def aPow (a b : AV) : M AV := match a, b with
  | .int i, .int j => if 0 ≤ j ∧ j ≤ 1000 ∧ i.natAbs < 2 ^ 64 then M.pure (.int (i ^ j.toNat)) else M.stk
  | _, _ => M.stk
theorem mem_rep {α : Type} {x : List α} {k : Nat} {c : α} (h : c ∈ (List.replicate k x).flatten) : c ∈ x := by
  rw [List.mem_flatten] at h
  obtain ⟨l, hl, hc⟩ := h
  rw [(List.mem_replicate.mp hl).2] at hc
  exact hc
theorem RVs.rep {K : PySem.W.Frag} {μ : List Addr} {H : Hp} {xs : List AV} {vs : List V} (h : RVs K μ H xs vs) : ∀ k : Nat, RVs K μ H (List.replicate k xs).flatten (List.replicate k vs).flatten
  | 0 => RVs.nil
  | k + 1 => by
    rw [List.replicate_succ, List.replicate_succ, List.flatten_cons, List.flatten_cons]
    exact RVs.append h (RVs.rep h k)
theorem foldl_app {α : Type} (x : List α) : ∀ (k : Nat) (acc : List α), (List.replicate k x.toArray).foldl (· ++ ·) acc.toArray = (acc ++ (List.replicate k x).flatten).toArray
  | 0, acc => by simp
  | k + 1, acc => by
    rw [List.replicate_succ, List.foldl_cons, List.append_toArray, foldl_app x k]
    simp [List.replicate_succ]
section
variable {X : Cx} {C : Cf}
theorem op_mul_str : OpR X (binaryOp .Mult) (fun x y H Q => ∃ z k, x = .str (mkS z) ∧ y = .int k ∧ z.length ≤ 1000 ∧ -1000 ≤ k ∧ k ≤ 1000 ∧ Q (.str (mkS (List.replicate k.toNat z).flatten)) H) := by
  intro pins s σ H x y v u Q I rx ry h
  obtain ⟨z, k, rfl, rfl, hz, h1, h2, q⟩ := h
  obtain ⟨t, rfl⟩ := rx
  obtain ⟨t', rfl⟩ := ry
  have hlen : (mkS z).length = z.length := mkS_len z
  refine PySem.P.mul_str ?_ (fun hk _ => ?_) (fun hk _ => ?_) ?_
  · have a1 : ¬ k < -(2 ^ 63) := by omega
    have a2 : ¬ k ≥ 2 ^ 63 := by omega
    rw [decide_eq_false a1, decide_eq_false a2]; rfl
  · rw [hlen]
    intro hc
    have hk0 : 0 < k := by omega
    have : (2 ^ 63 - 1 : Int) / k ≥ (2 ^ 63 - 1) / 1000 := by
      apply Int.le_ediv_of_mul_le hk0
      have : (2 ^ 63 - 1 : Int) / 1000 * k ≤ (2 ^ 63 - 1) / 1000 * 1000 := Int.mul_le_mul_of_nonneg_left h2 (by decide)
      have h3 : ((2 ^ 63 - 1 : Int) / 1000) * 1000 ≤ 2 ^ 63 - 1 := by decide
      omega
    have h4 : (2 ^ 63 - 1 : Int) / 1000 ≥ 1001 := by decide
    omega
  · rw [hlen]
    unfold Builtin.Str.tooLong
    have a1 : z.length * k.toNat ≤ 1000 * 1000 := Nat.mul_le_mul hz (by omega)
    have a2 := line_eq
    exact decide_eq_false (by omega)
  · split
    · rename_i hk
      have e : k.toNat = 0 := by omega
      rw [e] at q
      exact ⟨by decide, ⟨.str _, H, I.tok _, ⟨_, rfl⟩, q⟩⟩
    · split
      · rename_i hk h1'
        simp only [Bool.or_eq_true, beq_iff_eq] at h1'
        have e : (List.replicate k.toNat z).flatten = z := by
          rcases h1' with e | e
          · subst e; simp
          · rw [hlen] at e
            have : z = [] := List.eq_nil_of_length_eq_zero e
            subst this
            simp
        rw [e] at q
        exact ⟨.str _, H, I.tok _, ⟨_, rfl⟩, q⟩
      · have e : (⟨(List.replicate k.toNat (mkS z).cps).foldl (· ++ ·) #[]⟩ : PySem.Str) = mkS (List.replicate k.toNat z).flatten := by
          have := foldl_app z k.toNat []
          simp only [List.nil_append] at this
          exact congrArg PySem.Str.mk this
        rw [e]
        have a1 : (List.replicate k.toNat z).flatten.length ≤ 1000 * 1000 := by
          rw [List.length_flatten]
          simp
          exact Nat.mul_le_mul (show k.toNat ≤ 1000 by omega) hz
        refine ⟨?_, ⟨.str _, H, I.tok _, ⟨_, rfl⟩, q⟩⟩
        rw [mkS_len, line_eq]
        show _ ≤ 16777216
        omega
/-- by cases of both values -/
theorem RV.tupI {K : PySem.W.Frag} {μ : List Addr} {H : Hp} {xs : List AV} {v : V} (h : RV K μ H (.tup xs) v) : ∃ a vs, v = .ref a ∧ SqT K H a vs ∧ RVs K μ H xs vs := by
  simpa only [RV] using h
theorem RV.strI {K : PySem.W.Frag} {μ : List Addr} {H : Hp} {x : List Nat} {v : V} (h : RV K μ H (.str x) v) : v = .str (mkS x) ∧ ∀ c ∈ x, c < 1114112 := by
  unfold RV at h; exact h
theorem RV.intI {K : PySem.W.Frag} {μ : List Addr} {H : Hp} {i : Int} {v : V} (h : RV K μ H (.int i) v) : v = .int i := by unfold RV at h; exact h
theorem RV.blI {K : PySem.W.Frag} {μ : List Addr} {H : Hp} {i : Bool} {v : V} (h : RV K μ H (.bl i) v) : v = .bl i := by unfold RV at h; exact h
theorem RV.nonI {K : PySem.W.Frag} {μ : List Addr} {H : Hp} {v : V} (h : RV K μ H .non v) : v = .non := by unfold RV at h; exact h
theorem Post.stkE {α β : Type} {C : Cf} {E : XK} {μ : List Addr} {H : Hp} {rel : Rel α β} {Q : β → Hp → Prop} (h : Post C E μ H rel .stk Q) : False := h
theorem Post.ifE {α β : Type} {C : Cf} {E : XK} {μ : List Addr} {H : Hp} {rel : Rel α β} {Q : β → Hp → Prop} {c : Prop} [Decidable c] {m : M α} {ah : AH} (h : Post C E μ H rel ((if c then m else M.stk) ah) Q) : c ∧ Post C E μ H rel (m ah) Q := by
  by_cases hc : c
  · rw [if_pos hc] at h; exact ⟨hc, h⟩
  · rw [if_neg hc] at h; exact (show False from h).elim
theorem Post.ifE' {α β : Type} {C : Cf} {E : XK} {μ : List Addr} {H : Hp} {rel : Rel α β} {Q : β → Hp → Prop} {c : Prop} [Decidable c] {m : R α} (h : Post C E μ H rel (if c then m else .stk) Q) : c ∧ Post C E μ H rel m Q := by
  by_cases hc : c
  · rw [if_pos hc] at h; exact ⟨hc, h⟩
  · rw [if_neg hc] at h; exact (show False from h).elim
/-- the list at an abstract index -/
theorem Post.lstE {α β : Type} {C : Cf} {E : XK} {μ : List Addr} {H : Hp} {rel : Rel α β} {Q : β → Hp → Prop} {ah : AH} {n : Nat} {f : List AV → R α} (h : Post C E μ H rel (match ah[n]? with | some (.lst xs) => f xs | _ => .stk) Q) :
    ∃ xs, ah[n]? = some (.lst xs) ∧ Post C E μ H rel (f xs) Q := by
  split at h
  · rename_i xs e
    exact ⟨xs, e, h⟩
  · exact (show False from h).elim
theorem opr_add : OpR X (binaryOp .Add) (rS2 ⟨X.K, C.cls, C.fld, C.T⟩ aAdd) := by
  intro pins s σ H x y v u Q I rx ry ⟨E, μ, ah, a, b, hH, ha, hb, hp⟩
  cases a <;> cases b <;> try exact (show False from hp).elim
  · cases ha.intI; cases hb.intI
    exact op_add pins s σ H _ _ v u Q I rx ry ⟨_, _, rfl, rfl, Post.val hH hp rv_int⟩
  · rename_i a b
    obtain ⟨rfl, h1⟩ := ha.strI
    obtain ⟨rfl, h2⟩ := hb.strI
    obtain ⟨hl, hp⟩ := Post.ifE hp
    refine op_add_str pins s σ H _ _ v u Q I rx ry ⟨_, _, rfl, rfl, by rw [mkS_len, mkS_len, line_eq]; exact hl, ?_⟩
    rw [mkS_app]
    exact Post.val hH hp (rv_str fun c hc => (List.mem_append.mp hc).elim (h1 c) (h2 c))
  · rename_i xs ys
    obtain ⟨p, vs, rfl, h1, r1⟩ := ha.tupI
    obtain ⟨q, ws, rfl, h2, r2⟩ := hb.tupI
    obtain ⟨hl, hp⟩ := Post.ifE hp
    refine op_catA pins s σ H _ _ v u Q I rx ry ⟨p, q, vs, ws, rfl, rfl, h1, h2, by rw [r1.length, r2.length, line_eq]; exact hl, fun e => ?_, fun e1 e2 => ?_, fun e1 e2 => Post.tup hH hp (r1.append r2)⟩
    · subst e
      have : xs = [] := List.eq_nil_of_length_eq_zero (by rw [← r1.length]; rfl)
      subst this
      exact Post.val hH hp hb
    · subst e2
      have : ys = [] := List.eq_nil_of_length_eq_zero (by rw [← r2.length]; rfl)
      subst this
      rw [List.append_nil] at hp
      exact Post.val hH hp ha
  · rename_i m n
    have hp : Post _ _ μ H _ (match ah[m]?, ah[n]? with
      | some (.lst xs), some (.lst ys) => if xs.length + ys.length ≤ 16777216 then alloc (.lst (xs ++ ys)) ah else .stk
      | _, _ => .stk) Q := hp
    split at hp
    · rename_i xs ys e1 e2
      obtain ⟨hl, hp⟩ := Post.ifE' hp
      obtain ⟨a, vs, rfl, _, h1, r1⟩ := hH.lst_of e1 ha
      obtain ⟨b, ws, rfl, _, h2, r2⟩ := hH.lst_of e2 hb
      exact op_cat pins s σ H _ _ v u Q I rx ry ⟨a, b, vs, ws, rfl, rfl, h1, h2, by rw [r1.length, r2.length, line_eq]; exact hl, Post.alloc hH hp (r1.append r2)⟩
    · exact (show False from hp).elim
theorem opr_sub : OpR X (binaryOp .Sub) (rS2 ⟨X.K, C.cls, C.fld, C.T⟩ aSub) := by
  intro pins s σ H x y v u Q I rx ry ⟨E, μ, ah, a, b, hH, ha, hb, hp⟩
  cases a <;> cases b <;> try exact (show False from hp).elim
  cases ha.intI; cases hb.intI
  exact op_sub pins s σ H _ _ v u Q I rx ry ⟨_, _, rfl, rfl, Post.val hH hp rv_int⟩
theorem opr_mul : OpR X (binaryOp .Mult) (rS2 ⟨X.K, C.cls, C.fld, C.T⟩ aMul) := by
  intro pins s σ H x y v u Q I rx ry ⟨E, μ, ah, a, b, hH, ha, hb, hp⟩
  cases a <;> cases b <;> try exact (show False from hp).elim
  · cases ha.intI; cases hb.intI
    obtain ⟨hl, hp⟩ := Post.ifE hp
    refine op_mul pins s σ H _ _ v u Q I rx ry ⟨_, _, rfl, rfl, ?_, Post.val hH hp rv_int⟩
    simpa [small64, CMul] using hl
  · rename_i z k
    cases hb.intI
    obtain ⟨rfl, h1⟩ := ha.strI
    obtain ⟨⟨l1, l2, l3⟩, hp⟩ := Post.ifE hp
    exact op_mul_str pins s σ H _ _ v u Q I rx ry ⟨_, _, rfl, rfl, l1, l2, l3, Post.val hH hp (rv_str fun c hc => h1 c (mem_rep hc))⟩
  · rename_i xs k
    cases hb.intI
    obtain ⟨p, vs, rfl, h1, r1⟩ := ha.tupI
    obtain ⟨⟨l1, l2, l3, l4⟩, hp⟩ := Post.ifE hp
    refine op_repT pins s σ H _ _ v u Q I rx ry ⟨p, k, vs, rfl, rfl, h1, fun e => l1 ?_, l3, l4, by rw [r1.length]; exact l2, Post.tup hH hp (r1.rep _)⟩
    subst e
    exact List.eq_nil_of_length_eq_zero (by rw [← r1.length]; rfl)
  · rename_i n k
    cases hb.intI
    obtain ⟨xs, e, hp⟩ := Post.lstE hp
    obtain ⟨⟨l1, l2, l3⟩, hp⟩ := Post.ifE' hp
    obtain ⟨a, vs, rfl, _, h1, r1⟩ := hH.lst_of e ha
    refine op_rep pins s σ H _ _ v u Q I rx ry ⟨a, k, vs, rfl, rfl, h1, by omega, by omega, ?_, Post.alloc hH hp (r1.rep _)⟩
    have : vs.length * k.toNat ≤ 1000 * 1000 := Nat.mul_le_mul (by rw [r1.length]; exact l1) (by omega)
    rw [line_eq]; omega
theorem opr_div : OpR X (binaryOp .FloorDiv) (rS2 ⟨X.K, C.cls, C.fld, C.T⟩ aDiv) := by
  intro pins s σ H x y v u Q I rx ry ⟨E, μ, ah, a, b, hH, ha, hb, hp⟩
  cases a <;> cases b <;> try exact (show False from hp).elim
  cases ha.intI; cases hb.intI
  obtain ⟨hl, hp⟩ := Post.ifE hp
  exact op_fdiv pins s σ H _ _ v u Q I rx ry ⟨_, _, rfl, rfl, hl, Post.val hH hp rv_int⟩
theorem opr_mod : OpR X (binaryOp .Mod) (rS2 ⟨X.K, C.cls, C.fld, C.T⟩ aMod) := by
  intro pins s σ H x y v u Q I rx ry ⟨E, μ, ah, a, b, hH, ha, hb, hp⟩
  cases a <;> cases b <;> try exact (show False from hp).elim
  cases ha.intI; cases hb.intI
  obtain ⟨hl, hp⟩ := Post.ifE hp
  exact op_mod pins s σ H _ _ v u Q I rx ry ⟨_, _, rfl, rfl, hl, Post.val hH hp rv_int⟩
theorem opr_pow : OpR X (binaryOp .Pow) (rS2 ⟨X.K, C.cls, C.fld, C.T⟩ aPow) := by
  intro pins s σ H x y v u Q I rx ry ⟨E, μ, ah, a, b, hH, ha, hb, hp⟩
  cases a <;> cases b <;> try exact (show False from hp).elim
  cases ha.intI; cases hb.intI
  obtain ⟨hl, hp⟩ := Post.ifE hp
  exact op_pow pins s σ H _ _ v u Q I rx ry ⟨_, _, rfl, rfl, ⟨hl.1, by omega, hl.2.2⟩, Post.val hH hp rv_int⟩

end
end Z

set_option maxHeartbeats 2000000
namespace Z
open PySem PySem.Spec PyProof.Rows L2
/-! ### comparisons -/
def optAll {α β : Type} (f : α → Option β) : List α → Option (List β)
  | [] => some []
  | x :: xs => match f x, optAll f xs with
    | some y, some ys => some (y :: ys)
    | _, _ => none
/-- the tree of a value that holds no object but lists -/
def deep (h : AH) : Nat → AV → Option PyData
  | _, .non => some .none
  | _, .bl b => some (.bool b)
  | _, .int i => some (.int i)
  | _, .str x => some (.str (mkS x))
  | n + 1, .tup xs => (optAll (deep h n) xs).map .tuple
  | n + 1, .ref m => match h[m]? with
    | some (.lst xs) => (optAll (deep h n) xs).map .list
    | _ => none
  | 0, .tup _ => none
  | 0, .ref _ => none
  | _, .lsc _ => none
def aEqR (neg : Bool) (a b : AV) : M AV := fun h => match deep h 60 a, deep h 60 b with
  | some d, some e => .ok (.bl (if neg = true then !PyData.eqv d e else PyData.eqv d e)) h
  | _, _ => .stk
def aLt (a b : AV) : M AV := match a, b with
  | .int i, .int j => M.pure (.bl (decide (i < j)))
  | .str x, .str y => M.pure (.bl (decide (x < y)))
  | _, _ => M.stk
def aLe (a b : AV) : M AV := match a, b with
  | .int i, .int j => M.pure (.bl (decide (i ≤ j)))
  | .str x, .str y => M.pure (.bl (!decide (y < x)))
  | _, _ => M.stk
def isNon : AV → Bool
  | .non => true
  | _ => false
def aIs (neg : Bool) (a b : AV) : M AV := match b with
  | .non => M.pure (.bl (if neg = true then !isNon a else isNon a))
  | _ => M.stk
def flatA : AV → Bool
  | .non => true
  | .bl _ => true
  | .int _ => true
  | .str _ => true
  | _ => false
def eqA : AV → AV → Bool
  | .non, .non => true
  | .bl a, .bl b => a == b
  | .bl a, .int b => (if a then 1 else 0) == b
  | .int a, .bl b => a == (if b then 1 else 0)
  | .int a, .int b => a == b
  | .str a, .str b => decide (a = b)
  | _, _ => false
def inA (x : AV) (xs : List AV) : Bool := xs.any fun y => eqA y x
def aInR (neg : Bool) (a b : AV) : M AV := match b with
  | .str y => match a with
    | .str [c] => M.pure (.bl (if neg = true then !decide (c ∈ y) else decide (c ∈ y)))
    | _ => M.stk
  | .tup xs => if (flatA a && xs.all flatA) = true then M.pure (.bl (if neg = true then !inA a xs else inA a xs)) else M.stk
  | .ref n => fun h => match h[n]? with
    | some (.lst xs) => if (flatA a && xs.all flatA) = true then .ok (.bl (if neg = true then !inA a xs else inA a xs)) h else .stk
    | _ => .stk
  | _ => M.stk
section
variable {X : Cx} {C : Cf} {K : PySem.W.Frag} {μ : List Addr} {H : Hp} {ah : AH}
theorem optAll_dp {f : AV → Option PyData} {n : Nat} (hf : ∀ a d v, f a = some d → RV K μ H a v → Dp K H v d ∧ d.canLay0 = true ∧ d.depth ≤ n) : ∀ {xs : List AV} {ds : List PyData} {vs : List V}, optAll f xs = some ds → RVs K μ H xs vs →
    DpAll K H vs ds ∧ PyData.canLayAll0 ds = true ∧ PyData.depthAll ds ≤ n
  | [], ds, vs, h, r => by
    cases h
    simp only [RVs] at r
    subst r
    exact ⟨.nil, rfl, Nat.zero_le _⟩
  | x :: xs, ds, vs, h, r => by
    unfold optAll at h
    split at h
    · rename_i y ys e1 e2
      cases h
      simp only [RVs] at r
      obtain ⟨v, ws, rfl, r1, r2⟩ := r
      obtain ⟨a1, a2, a3⟩ := hf _ _ _ e1 r1
      obtain ⟨b1, b2, b3⟩ := optAll_dp hf e2 r2
      refine ⟨.cons a1 b1, ?_, ?_⟩
      · simp only [PyData.canLayAll0, a2, b2, Bool.and_self]
      · simp only [PyData.depthAll]; omega
    · cases h
theorem deep_dp (hH : RelH C μ H ah) : ∀ (n : Nat) (a : AV) (d : PyData) (v : V), deep ah n a = some d → RV C.K μ H a v → Dp C.K H v d ∧ d.canLay0 = true ∧ d.depth ≤ n
  | n, .non, d, v, h, r => by
    have e : d = .none := by cases n <;> (unfold deep at h; cases h; rfl)
    subst e; cases r.nonI
    exact ⟨.non, by simp only [PyData.canLay0], by simp only [PyData.depth]; omega⟩
  | n, .bl b, d, v, h, r => by
    have e : d = .bool b := by cases n <;> (unfold deep at h; cases h; rfl)
    subst e; cases r.blI
    exact ⟨.bl b, by simp only [PyData.canLay0], by simp only [PyData.depth]; omega⟩
  | n, .int b, d, v, h, r => by
    have e : d = .int b := by cases n <;> (unfold deep at h; cases h; rfl)
    subst e; cases r.intI
    exact ⟨.int b, by simp only [PyData.canLay0], by simp only [PyData.depth]; omega⟩
  | n, .str x, d, v, h, r => by
    have e : d = .str (mkS x) := by cases n <;> (unfold deep at h; cases h; rfl)
    subst e
    obtain ⟨rfl, hx⟩ := r.strI
    refine ⟨.str _, ?_, by simp only [PyData.depth]; omega⟩
    simp only [PyData.canLay0, PyData.strOk]
    simp
    exact hx
  | n + 1, .tup xs, d, v, h, r => by
    unfold deep at h
    obtain ⟨p, vs, rfl, h1, r1⟩ := r.tupI
    cases e : optAll (deep ah n) xs with
    | none => rw [e] at h; cases h
    | some ds =>
      rw [e] at h
      cases h
      obtain ⟨b1, b2, b3⟩ := optAll_dp (deep_dp hH n) e r1
      exact ⟨.tup h1 b1, by simp only [PyData.canLay0]; exact b2, by simp only [PyData.depth]; omega⟩
  | n + 1, .ref m, d, v, h, r => by
    unfold deep at h
    split at h
    · rename_i xs hm
      obtain ⟨p, vs, rfl, _, h1, r1⟩ := hH.lst_of hm r
      cases e : optAll (deep ah n) xs with
      | none => rw [e] at h; cases h
      | some ds =>
        rw [e] at h
        cases h
        obtain ⟨b1, b2, b3⟩ := optAll_dp (deep_dp hH n) e r1
        exact ⟨.lst (.inl (.inl h1)) b1, by simp only [PyData.canLay0]; exact b2, by simp only [PyData.depth]; omega⟩
    · cases h
  | 0, .tup xs, d, v, h, r => by unfold deep at h; cases h
  | 0, .ref xs, d, v, h, r => by unfold deep at h; cases h
  | 0, .lsc xs, d, v, h, r => by unfold deep at h; cases h
  | n + 1, .lsc xs, d, v, h, r => by unfold deep at h; cases h
theorem deep_shaped (hH : RelH C μ H ah) {a : AV} {d : PyData} {v : V} (h : deep ah 60 a = some d) (r : RV C.K μ H a v) : Dp C.K H v d ∧ SeqAt.shaped d = true := by
  obtain ⟨h1, h2, h3⟩ := deep_dp hH 60 a d v h r
  refine ⟨h1, ?_⟩
  unfold SeqAt.shaped
  rw [h2, decide_eq_true (by omega)]; rfl
theorem opr_eq (hu : X.A.units + 64 < cLine) : OpR X (compareOp .Eq) (rS2 ⟨X.K, C.cls, C.fld, C.T⟩ (aEqR false)) := by
  intro pins s σ H x y v u Q I rx ry ⟨E, μ, ah, a, b, hH, ha, hb, hp⟩
  unfold aEqR at hp
  split at hp
  · rename_i d e h1 h2
    obtain ⟨p1, p2⟩ := deep_shaped hH h1 ha
    obtain ⟨q1, q2⟩ := deep_shaped hH h2 hb
    exact op_eqD hu pins s σ H _ _ v u Q I rx ry ⟨d, e, p1, q1, p2, q2, Post.val hH hp rv_bl⟩
  · exact (show False from hp).elim
theorem opr_ne (hu : X.A.units + 64 < cLine) : OpR X (compareOp .NotEq) (rS2 ⟨X.K, C.cls, C.fld, C.T⟩ (aEqR true)) := by
  intro pins s σ H x y v u Q I rx ry ⟨E, μ, ah, a, b, hH, ha, hb, hp⟩
  unfold aEqR at hp
  split at hp
  · rename_i d e h1 h2
    obtain ⟨p1, p2⟩ := deep_shaped hH h1 ha
    obtain ⟨q1, q2⟩ := deep_shaped hH h2 hb
    exact op_neD hu pins s σ H _ _ v u Q I rx ry ⟨d, e, p1, q1, p2, q2, Post.val hH hp rv_bl⟩
  · exact (show False from hp).elim
theorem opr_lt : OpR X (compareOp .Lt) (rS2 ⟨X.K, C.cls, C.fld, C.T⟩ aLt) := by
  intro pins s σ H x y v u Q I rx ry ⟨E, μ, ah, a, b, hH, ha, hb, hp⟩
  cases a <;> cases b <;> try exact (show False from hp).elim
  · cases ha.intI; cases hb.intI
    exact op_lt pins s σ H _ _ v u Q I rx ry ⟨_, _, rfl, rfl, Post.val hH hp rv_bl⟩
  · obtain ⟨rfl, h1⟩ := ha.strI
    obtain ⟨rfl, h2⟩ := hb.strI
    exact op_lt_str pins s σ H _ _ v u Q I rx ry ⟨_, _, rfl, rfl, by rw [mkS_tl, mkS_tl]; exact Post.val hH hp rv_bl⟩
theorem opr_gt : OpR X (compareOp .Gt) (rS2 ⟨X.K, C.cls, C.fld, C.T⟩ fun a b => aLt b a) := by
  intro pins s σ H x y v u Q I rx ry ⟨E, μ, ah, a, b, hH, ha, hb, hp⟩
  cases a <;> cases b <;> try exact (show False from hp).elim
  · cases ha.intI; cases hb.intI
    exact op_gt pins s σ H _ _ v u Q I rx ry ⟨_, _, rfl, rfl, Post.val hH hp rv_bl⟩
  · obtain ⟨rfl, h1⟩ := ha.strI
    obtain ⟨rfl, h2⟩ := hb.strI
    exact op_gt_str pins s σ H _ _ v u Q I rx ry ⟨_, _, rfl, rfl, by rw [mkS_tl, mkS_tl]; exact Post.val hH hp rv_bl⟩
theorem opr_le : OpR X (compareOp .LtE) (rS2 ⟨X.K, C.cls, C.fld, C.T⟩ aLe) := by
  intro pins s σ H x y v u Q I rx ry ⟨E, μ, ah, a, b, hH, ha, hb, hp⟩
  cases a <;> cases b <;> try exact (show False from hp).elim
  · cases ha.intI; cases hb.intI
    exact op_le pins s σ H _ _ v u Q I rx ry ⟨_, _, rfl, rfl, Post.val hH hp rv_bl⟩
  · obtain ⟨rfl, h1⟩ := ha.strI
    obtain ⟨rfl, h2⟩ := hb.strI
    exact op_le_str pins s σ H _ _ v u Q I rx ry ⟨_, _, rfl, rfl, by rw [mkS_tl, mkS_tl]; exact Post.val hH hp rv_bl⟩
theorem opr_ge : OpR X (compareOp .GtE) (rS2 ⟨X.K, C.cls, C.fld, C.T⟩ fun a b => aLe b a) := by
  intro pins s σ H x y v u Q I rx ry ⟨E, μ, ah, a, b, hH, ha, hb, hp⟩
  cases a <;> cases b <;> try exact (show False from hp).elim
  · cases ha.intI; cases hb.intI
    exact op_ge pins s σ H _ _ v u Q I rx ry ⟨_, _, rfl, rfl, Post.val hH hp rv_bl⟩
  · obtain ⟨rfl, h1⟩ := ha.strI
    obtain ⟨rfl, h2⟩ := hb.strI
    exact op_ge_str pins s σ H _ _ v u Q I rx ry ⟨_, _, rfl, rfl, by rw [mkS_tl, mkS_tl]; exact Post.val hH hp rv_bl⟩
theorem isNon_rv {a : AV} {v : V} (h : RV K μ H a v) : decide (v = .non) = isNon a := by
  cases a <;> simp only [RV] at h
  case non => subst h; rfl
  case str => obtain ⟨h, _⟩ := h; subst h; rfl
  case tup => obtain ⟨_, _, h, _⟩ := h; subst h; rfl
  case ref => obtain ⟨_, h, _⟩ := h; subst h; rfl
  case lsc => obtain ⟨_, h, _⟩ := h; subst h; rfl
  all_goals (subst h; rfl)
theorem opr_is : OpR X (compareOp .Is) (rS2 ⟨X.K, C.cls, C.fld, C.T⟩ (aIs false)) := by
  intro pins s σ H x y v u Q I rx ry ⟨E, μ, ah, a, b, hH, ha, hb, hp⟩
  cases b <;> try exact (show False from hp).elim
  cases hb.nonI
  exact op_isN pins s σ H _ _ v u Q I rx ry ⟨rfl, by rw [isNon_rv ha]; exact Post.val hH hp rv_bl⟩
theorem opr_isn : OpR X (compareOp .IsNot) (rS2 ⟨X.K, C.cls, C.fld, C.T⟩ (aIs true)) := by
  intro pins s σ H x y v u Q I rx ry ⟨E, μ, ah, a, b, hH, ha, hb, hp⟩
  cases b <;> try exact (show False from hp).elim
  cases hb.nonI
  exact op_notN pins s σ H _ _ v u Q I rx ry ⟨rfl, by rw [isNon_rv ha]; exact Post.val hH hp rv_bl⟩
theorem flat_rv {a : AV} {v : V} (h : RV K μ H a v) (f : flatA a = true) : flatV v = true := by
  cases a <;> first | (cases f) | skip
  · cases h.nonI; rfl
  · cases h.blI; rfl
  · cases h.intI; rfl
  · obtain ⟨rfl, _⟩ := h.strI; rfl
theorem eqA_rv {a b : AV} {v w : V} (h : RV K μ H a v) (h' : RV K μ H b w) (f : flatA a = true) (f' : flatA b = true) : eqV v w = eqA a b := by
  have es : ∀ x y : List Nat, (mkS x == mkS y) = decide (x = y) := fun x y => by
    by_cases e : x = y
    · subst e; simp
    · have : mkS x ≠ mkS y := fun z => e (mkS_inj z)
      simp [e, this]
  cases a <;> first | (cases f) | skip
  · cases h.nonI
    cases b <;> first | (cases f') | skip
    · cases h'.nonI; rfl
    · cases h'.blI; rfl
    · cases h'.intI; rfl
    · obtain ⟨rfl, _⟩ := h'.strI; rfl
  · cases h.blI
    cases b <;> first | (cases f') | skip
    · cases h'.nonI; rfl
    · cases h'.blI; rfl
    · cases h'.intI; rfl
    · obtain ⟨rfl, _⟩ := h'.strI; rfl
  · cases h.intI
    cases b <;> first | (cases f') | skip
    · cases h'.nonI; rfl
    · cases h'.blI; rfl
    · cases h'.intI; rfl
    · obtain ⟨rfl, _⟩ := h'.strI; rfl
  · obtain ⟨rfl, _⟩ := h.strI
    cases b <;> first | (cases f') | skip
    · cases h'.nonI; rfl
    · cases h'.blI; rfl
    · cases h'.intI; rfl
    · obtain ⟨rfl, _⟩ := h'.strI; exact es _ _
theorem inA_rv {a : AV} {v : V} (h : RV K μ H a v) (f : flatA a = true) : ∀ {xs : List AV} {vs : List V}, RVs K μ H xs vs → xs.all flatA = true → vs.all flatV = true ∧ inV v vs = inA a xs
  | [], vs, r, _ => by simp only [RVs] at r; subst r; exact ⟨rfl, rfl⟩
  | x :: xs, vs, r, g => by
    simp only [RVs] at r
    obtain ⟨w, ws, rfl, r1, r2⟩ := r
    rw [List.all_cons, Bool.and_eq_true] at g
    obtain ⟨e1, e2⟩ := inA_rv h f r2 g.2
    refine ⟨by rw [List.all_cons, flat_rv r1 g.1, e1]; rfl, ?_⟩
    show (eqV w v || inV v ws) = (eqA x a || inA a xs)
    rw [eqA_rv r1 h g.1 f, e2]
theorem opr_in (neg : Bool) : OpR X (compareOp (if neg = true then .NotIn else .In)) (rS2 ⟨X.K, C.cls, C.fld, C.T⟩ (aInR neg)) := by
  intro pins s σ H x y v u Q I rx ry ⟨E, μ, ah, a, b, hH, ha, hb, hp⟩
  cases b <;> try exact (show False from hp).elim
  · rename_i z
    unfold aInR at hp
    simp only at hp
    split at hp
    · rename_i c
      obtain ⟨rfl, _⟩ := ha.strI
      obtain ⟨rfl, _⟩ := hb.strI
      cases neg
      · exact op_in_sign pins s σ H _ _ v u Q I rx ry ⟨c, mkS z, rfl, rfl, by rw [mkS_tl]; exact Post.val hH hp rv_bl⟩
      · exact op_notIn_sign pins s σ H _ _ v u Q I rx ry ⟨c, mkS z, rfl, rfl, by rw [mkS_tl]; exact Post.val hH hp rv_bl⟩
    · exact (show False from hp).elim
  · rename_i xs
    obtain ⟨p, vs, rfl, h1, r1⟩ := hb.tupI
    obtain ⟨hf, hp⟩ := Post.ifE hp
    rw [Bool.and_eq_true] at hf
    obtain ⟨e1, e2⟩ := inA_rv ha hf.1 r1 hf.2
    cases neg
    · exact op_in_seq pins s σ H _ _ v u Q I rx ry ⟨p, vs, rfl, .inr h1, flat_rv ha hf.1, e1, by rw [e2]; exact Post.val hH hp rv_bl⟩
    · exact op_notIn_seq pins s σ H _ _ v u Q I rx ry ⟨p, vs, rfl, .inr h1, flat_rv ha hf.1, e1, by rw [e2]; exact Post.val hH hp rv_bl⟩
  · rename_i n
    obtain ⟨xs, e, hp⟩ := Post.lstE hp
    obtain ⟨hf, hp⟩ := Post.ifE' hp
    obtain ⟨p, vs, rfl, _, h1, r1⟩ := hH.lst_of e hb
    rw [Bool.and_eq_true] at hf
    obtain ⟨e1, e2⟩ := inA_rv ha hf.1 r1 hf.2
    cases neg
    · exact op_in_seq pins s σ H _ _ v u Q I rx ry ⟨p, vs, rfl, .inl (.inl (.inl h1)), flat_rv ha hf.1, e1, by rw [e2]; exact Post.val hH hp rv_bl⟩
    · exact op_notIn_seq pins s σ H _ _ v u Q I rx ry ⟨p, vs, rfl, .inl (.inl (.inl h1)), flat_rv ha hf.1, e1, by rw [e2]; exact Post.val hH hp rv_bl⟩
/-! ### truth -/
def truA (a : AV) : M Bool := fun h => match a with
  | .non => .ok false h
  | .bl b => .ok b h
  | .int i => .ok (i != 0) h
  | .str x => if x.length ≤ 16777216 then .ok ((x.length : Int) != 0) h else .stk
  | .tup xs => .ok (!xs.isEmpty) h
  | .ref n => match h[n]? with
    | some (.lst xs) => .ok (!xs.isEmpty) h
    | _ => .stk
  | .lsc ns => .ok (!ns.isEmpty) h
def relB : Rel Bool Bool := fun _ _ a b => b = a
theorem RVs.isEmpty {xs : List AV} {vs : List V} (r : RVs K μ H xs vs) : vs.isEmpty = xs.isEmpty := by
  cases xs with
  | nil => simp only [RVs] at r; subst r; rfl
  | cons x xs => simp only [RVs] at r; obtain ⟨_, _, rfl, _⟩ := r; rfl
theorem tru_rv {E : XK} {a : AV} {v : V} {Q : Bool → Hp → Prop} (hH : RelH C μ H ah) (ha : RV C.K μ H a v) (hp : Post C E μ H relB (truA a ah) Q) : ∃ k, TruV C.K v H k ∧ Q k H := by
  cases a
  · cases ha.nonI; exact ⟨_, rfl, hp μ H _ Fut.refl hH rfl⟩
  · cases ha.blI; exact ⟨_, rfl, hp μ H _ Fut.refl hH rfl⟩
  · cases ha.intI; exact ⟨_, rfl, hp μ H _ Fut.refl hH rfl⟩
  · obtain ⟨rfl, _⟩ := ha.strI
    obtain ⟨hl, hp⟩ := Post.ifE' hp
    exact ⟨_, ⟨by rw [mkS_len, line_eq]; exact hl, rfl⟩, by rw [mkS_len]; exact hp μ H _ Fut.refl hH rfl⟩
  · rename_i xs
    obtain ⟨p, vs, rfl, h1, r1⟩ := ha.tupI
    exact ⟨_, .inr (.inl ⟨vs, h1, rfl⟩), by rw [r1.isEmpty]; exact hp μ H _ Fut.refl hH rfl⟩
  · rename_i n
    obtain ⟨xs, e, hp⟩ := Post.lstE hp
    obtain ⟨p, vs, rfl, _, h1, r1⟩ := hH.lst_of e ha
    exact ⟨_, .inl ⟨vs, .inl (.inl h1), rfl⟩, by rw [r1.isEmpty]; exact hp μ H _ Fut.refl hH rfl⟩
  · rename_i ns
    simp only [RV] at ha
    obtain ⟨p, rfl, h1⟩ := ha
    refine ⟨_, .inl ⟨_, h1.sq, rfl⟩, ?_⟩
    have : (ns.map V.int).isEmpty = ns.isEmpty := by cases ns <;> rfl
    rw [this]
    exact hp μ H _ Fut.refl hH rfl
end
end Z

set_option maxHeartbeats 2000000
namespace Z
open PySem PySem.Spec PyProof.Rows L2
/-! ### items, slices -/
def cutA {α : Type} (xs : List α) (lo hi : Option Int) : List α := (xs.drop (HT.sIx xs.length 0 lo)).take (HT.sIx xs.length xs.length hi - HT.sIx xs.length 0 lo)
theorem cutA_mem {α : Type} {xs : List α} {lo hi : Option Int} {c : α} (h : c ∈ cutA xs lo hi) : c ∈ xs := List.mem_of_mem_drop (List.mem_of_mem_take h)
def orStk (o : Option AV) : M AV := match o with
  | some a => M.pure a
  | none => M.stk
def aIdx (a i : AV) : M AV := match i with
  | .int i => match a with
    | .str x => if x.length ≤ 16777216 then orStk ((atI x i).map fun c => .str [c]) else M.stk
    | .tup xs => orStk (atI xs i)
    | .ref n => fun h => match h[n]? with
      | some (.lst xs) => orStk (atI xs i) h
      | _ => .stk
    | .lsc ns => orStk ((atI ns i).map .int)
    | _ => M.stk
  | _ => M.stk
def aSlc (a : AV) (lo hi : Option Int) : M AV := match a with
  | .str x => if x.length ≤ 16777216 then M.pure (.str (cutA x lo hi)) else M.stk
  | .tup xs => M.pure (.tup (cutA xs lo hi))
  | .ref n => fun h => match h[n]? with
    | some (.lst xs) => alloc (.lst (cutA xs lo hi)) h
    | _ => .stk
  | .lsc ns => alloc (.lst ((cutA ns lo hi).map .int))
  | _ => M.stk
section
variable {X : Cx} {C : Cf} {K : PySem.W.Frag} {μ : List Addr} {H : Hp} {ah : AH} {E : XK}
theorem RVs.atI {xs : List AV} {vs : List V} {i : Int} {a : AV} (r : RVs K μ H xs vs) (h : atI xs i = some a) : ∃ v, L2.atI vs i = some v ∧ RV K μ H a v := by
  unfold L2.atI at h ⊢
  rw [r.length]
  cases e : ixN xs.length i with
  | none => rw [e] at h; cases h
  | some j =>
    rw [e] at h
    exact RVs.get r h
theorem RVs.cut {xs : List AV} {vs : List V} (r : RVs K μ H xs vs) (lo hi : Option Int) : RVs K μ H (cutA xs lo hi) (cutV vs lo hi) := by
  unfold cutA cutV
  rw [r.length]
  exact RVs.take _ (RVs.drop _ r)
theorem atI_map {α β : Type} (f : α → β) {xs : List α} {i : Int} {a : α} (h : atI xs i = some a) : atI (xs.map f) i = some (f a) := by
  unfold atI at h ⊢
  rw [List.length_map]
  cases e : ixN xs.length i with
  | none => rw [e] at h; cases h
  | some j =>
    rw [e] at h
    show (xs.map f)[j]? = _
    rw [List.getElem?_map]
    have h : xs[j]? = some a := h
    rw [h]; rfl
theorem atI_mem {α : Type} {xs : List α} {i : Int} {a : α} (h : atI xs i = some a) : a ∈ xs := by
  unfold atI at h
  cases e : ixN xs.length i with
  | none => rw [e] at h; cases h
  | some j => rw [e] at h; exact List.mem_of_getElem? h
theorem Post.orE {α : Type} {rel : Rel AV α} {Q : α → Hp → Prop} {o : Option AV} (h : Post C E μ H rel (orStk o ah) Q) : ∃ a, o = some a ∧ Post C E μ H rel (.ok a ah) Q := by
  cases o with
  | none => exact (show False from h).elim
  | some a => exact ⟨a, rfl, h⟩
theorem ixr : IxR X (rS2 ⟨X.K, C.cls, C.fld, C.T⟩ aIdx) := by
  intro value slice pins s σ H x y v u Q I rx ry ⟨E, μ, ah, a, b, hH, ha, hb, hp⟩ hs
  cases b <;> try exact (show False from hp).elim
  rename_i i
  cases hb.intI
  cases a <;> try exact (show False from hp).elim
  · rename_i z
    obtain ⟨rfl, hz⟩ := ha.strI
    obtain ⟨hl, hp⟩ := Post.ifE hp
    obtain ⟨b, e, hp⟩ := Post.orE hp
    cases e2 : atI z i with
    | none => rw [e2] at e; cases e
    | some c =>
      rw [e2] at e
      cases e
      exact ix_str value slice pins s σ H _ _ v u Q I rx ry ⟨mkS z, i, c, rfl, rfl, by rw [mkS_len, line_eq]; exact hl, by rw [mkS_tl]; exact e2, Post.val hH hp (rv_str fun d hd => by
        have : d = c := by simpa using hd
        subst this
        exact hz _ (atI_mem e2))⟩ hs
  · rename_i xs
    obtain ⟨p, vs, rfl, h1, r1⟩ := ha.tupI
    obtain ⟨b, e, hp⟩ := Post.orE hp
    obtain ⟨w, e2, rw⟩ := r1.atI e
    exact ix_tup value slice pins s σ H _ _ v u Q I rx ry ⟨p, vs, i, w, rfl, rfl, h1, e2, Post.val hH hp rw⟩ hs
  · rename_i n
    obtain ⟨xs, e, hp⟩ := Post.lstE hp
    obtain ⟨p, vs, rfl, _, h1, r1⟩ := hH.lst_of e ha
    obtain ⟨b, e, hp⟩ := Post.orE hp
    obtain ⟨w, e2, rw⟩ := r1.atI e
    exact ix_list value slice pins s σ H _ _ v u Q I rx ry ⟨p, vs, i, w, rfl, rfl, .inl (.inl h1), e2, Post.val hH hp rw⟩ hs
  · rename_i ns
    simp only [RV] at ha
    obtain ⟨p, rfl, h1⟩ := ha
    obtain ⟨b, e, hp⟩ := Post.orE hp
    cases e2 : atI ns i with
    | none => rw [e2] at e; cases e
    | some c =>
      rw [e2] at e
      cases e
      exact ix_list value slice pins s σ H _ _ v u Q I rx ry ⟨p, _, i, .int c, rfl, rfl, h1.sq, atI_map _ e2, Post.val hH hp rv_int⟩ hs
def rSlc (C : Cf) : V → Option Int → Option Int → Hp → VK → Prop := fun x lo hi H Q => ∃ (E : XK) (μ : List Addr) (ah : AH) (a : AV), RelH C μ H ah ∧ RV C.K μ H a x ∧ Post C E μ H (RV C.K) (aSlc a lo hi ah) Q
theorem slr : SlR X (rSlc ⟨X.K, C.cls, C.fld, C.T⟩) := by
  intro pins s σ H x v vl vu lo hi sl Q I rx hs pl pu ⟨E, μ, ah, a, hH, ha, hp⟩
  cases a
  case str z =>
    obtain ⟨rfl, hz⟩ := ha.strI
    obtain ⟨hl, hp⟩ := Post.ifE hp
    refine sl_str pins s σ H _ v vl vu lo hi sl Q I rx hs pl pu ⟨mkS z, rfl, by rw [mkS_len, line_eq]; exact hl, ?_⟩
    have e : cutS (mkS z) lo hi = mkS (cutA z lo hi) := by
      unfold cutS cutA
      rw [mkS_tl, mkS_len]
    rw [e]
    exact Post.val hH hp (rv_str fun c hc => hz c (cutA_mem hc))
  case tup xs =>
    obtain ⟨p, vs, rfl, h1, r1⟩ := ha.tupI
    have hp : Post _ _ _ _ _ (.ok (AV.tup (cutA xs lo hi)) ah) Q := hp
    refine sl_tupA pins s σ H _ v vl vu lo hi sl Q I rx hs pl pu ⟨p, vs, rfl, h1, fun ⟨e1, e2⟩ => ?_, fun _ => Post.tup hH hp (r1.cut lo hi)⟩
    have e : cutA xs lo hi = xs := by
      unfold cutA
      rw [← r1.length, e1, e2]
      rw [r1.length]
      simp
    rw [e] at hp
    exact Post.val hH hp ha
  case ref n =>
    obtain ⟨xs, e, hp⟩ := Post.lstE hp
    obtain ⟨p, vs, rfl, _, h1, r1⟩ := hH.lst_of e ha
    exact sl_list pins s σ H _ v vl vu lo hi sl Q I rx hs pl pu ⟨p, vs, rfl, .inl (.inl h1), Post.alloc hH hp (r1.cut lo hi)⟩
  case lsc ns =>
    simp only [RV] at ha
    obtain ⟨p, rfl, h1⟩ := ha
    refine sl_list pins s σ H _ v vl vu lo hi sl Q I rx hs pl pu ⟨p, _, rfl, h1.sq, Post.alloc hH hp ?_⟩
    have e : cutV (ns.map V.int) lo hi = (cutA ns lo hi).map V.int := by
      unfold cutV cutA
      rw [List.length_map, ← List.map_drop, ← List.map_take]
    rw [e]
    exact RVs.of_ints _
  all_goals exact (show False from hp).elim
end

/-! ### built-in functions -/
def aLen (as : List AV) : M AV := fun h => match as with
  | [.str x] => if x.length ≤ 16777216 then .ok (.int x.length) h else .stk
  | [.tup xs] => .ok (.int xs.length) h
  | [.lsc ns] => .ok (.int ns.length) h
  | [.ref n] => (match h[n]? with
    | some (.lst xs) => .ok (.int xs.length) h
    | _ => .stk)
  | _ => .stk
def digitB (x : List Nat) : Bool := x.all fun c => decide (48 ≤ c ∧ c ≤ 57)
def digVal (x : List Nat) : Nat := PySem.NumText.digitsVal x
def aInt (as : List AV) : M AV := fun h => match as with
  | [.int i] => .ok (.int i) h
  | [.bl b] => .ok (.int (if b then 1 else 0)) h
  | [.str x] => if x ≠ [] ∧ x.length ≤ 640 ∧ digitB x = true then .ok (.int (digVal x)) h else .stk
  | _ => .stk
def numT (n : Nat) : List Nat := TL.numL n
def aStr (as : List AV) : M AV := fun h => match as with
  | [.int i] => if 0 ≤ i ∧ i < 10 ^ 18 then .ok (.str (numT i.toNat)) h else .stk
  | _ => .stk
def aAbs (as : List AV) : M AV := fun h => match as with
  | [.int i] => .ok (.int (if i < 0 then -i else i)) h
  | _ => .stk
def aMin2 (as : List AV) : M AV := fun h => match as with
  | [.int i, .int j] => .ok (.int (if j < i then j else i)) h
  | _ => .stk
def aMax2 (as : List AV) : M AV := fun h => match as with
  | [.int i, .int j] => .ok (.int (if j > i then j else i)) h
  | _ => .stk
def intsOf : List AV → Option (List Int)
  | [] => some []
  | .int i :: r => (intsOf r).map (i :: ·)
  | _ => none
def blsOf : List AV → Option (List Bool)
  | [] => some []
  | .bl i :: r => (blsOf r).map (i :: ·)
  | _ => none
def strsOf : List AV → Option (List (List Nat))
  | [] => some []
  | .str i :: r => (strsOf r).map (i :: ·)
  | _ => none
/-- the items of a list or tuple -/
def seqItems (a : AV) (h : AH) : Option (List AV) := match a with
  | .tup xs => some xs
  | .lsc ns => some (ns.map .int)
  | .ref n => match h[n]? with
    | some (.lst xs) => some xs
    | _ => none
  | _ => none
def lstItems (a : AV) (h : AH) : Option (List AV) := match a with
  | .lsc ns => some (ns.map .int)
  | .ref n => match h[n]? with
    | some (.lst xs) => some xs
    | _ => none
  | _ => none
def aSum (as : List AV) : M AV := fun h => match as with
  | [a] => (match (lstItems a h).bind intsOf with
    | some ns => .ok (.int ns.sum) h
    | none => .stk)
  | _ => .stk
def aAll (as : List AV) : M AV := fun h => match as with
  | [a] => (match (lstItems a h).bind blsOf with
    | some ns => .ok (.bl (ns.all id)) h
    | none => .stk)
  | _ => .stk
def aAny (as : List AV) : M AV := fun h => match as with
  | [a] => (match (lstItems a h).bind blsOf with
    | some ns => .ok (.bl (ns.any id)) h
    | none => .stk)
  | _ => .stk
def aTuple (as : List AV) : M AV := fun h => match as with
  | [a] => (match seqItems a h with
    | some xs => .ok (.tup xs) h
    | none => .stk)
  | _ => .stk
def aList (as : List AV) : M AV := fun h => match as with
  | [a] => (match seqItems a h with
    | some xs => alloc (.lst xs) h
    | none => .stk)
  | _ => .stk
def aDivmod (as : List AV) : M AV := fun h => match as with
  | [.int i, .int j] => if 0 < j ∧ j < 1073741824 then .ok (.tup [.int (i / j), .int (i % j)]) h else .stk
  | _ => .stk
section
variable {X : Cx} {C : Cf} {K : PySem.W.Frag} {μ : List Addr} {H : Hp} {ah : AH} {E : XK}
theorem RVs.one {a : AV} {vs : List V} (r : RVs K μ H [a] vs) : ∃ v, vs = [v] ∧ RV K μ H a v := by
  simp only [RVs] at r
  obtain ⟨v, ws, rfl, h, rfl⟩ := r
  exact ⟨v, rfl, h⟩
theorem RVs.two {a b : AV} {vs : List V} (r : RVs K μ H [a, b] vs) : ∃ v w, vs = [v, w] ∧ RV K μ H a v ∧ RV K μ H b w := by
  simp only [RVs] at r
  obtain ⟨v, ws, rfl, h, w, _, rfl, h2, rfl⟩ := r
  exact ⟨v, w, rfl, h, h2⟩
theorem intsOf_map : ∀ {xs : List AV} {ns : List Int}, intsOf xs = some ns → xs = ns.map .int
  | [], ns, h => by cases h; rfl
  | a :: r, ns, h => by
    cases a <;> try (cases h)
    unfold intsOf at h
    cases e : intsOf r with
    | none => rw [e] at h; cases h
    | some ms =>
      rw [e] at h
      cases h
      rw [intsOf_map e]; rfl
theorem blsOf_map : ∀ {xs : List AV} {ns : List Bool}, blsOf xs = some ns → xs = ns.map .bl
  | [], ns, h => by cases h; rfl
  | a :: r, ns, h => by
    cases a <;> try (cases h)
    unfold blsOf at h
    cases e : blsOf r with
    | none => rw [e] at h; cases h
    | some ms =>
      rw [e] at h
      cases h
      rw [blsOf_map e]; rfl
theorem strsOf_map : ∀ {xs : List AV} {ns : List (List Nat)}, strsOf xs = some ns → xs = ns.map .str
  | [], ns, h => by cases h; rfl
  | a :: r, ns, h => by
    cases a <;> try (cases h)
    unfold strsOf at h
    cases e : strsOf r with
    | none => rw [e] at h; cases h
    | some ms =>
      rw [e] at h
      cases h
      rw [strsOf_map e]; rfl
theorem RVs.bls : ∀ {ns : List Bool} {vs : List V}, RVs K μ H (ns.map AV.bl) vs → vs = ns.map V.bl
  | [], vs, h => by simpa [RVs] using h
  | n :: ns, vs, h => by
    simp only [List.map_cons, RVs, RV] at h
    obtain ⟨v, us, e1, h1, h2⟩ := h
    subst e1 h1
    rw [RVs.bls h2]; rfl
theorem RVs.strs : ∀ {ns : List (List Nat)} {vs : List V}, RVs K μ H (ns.map AV.str) vs → vs = (ns.map mkS).map V.str ∧ ∀ x ∈ ns, ∀ c ∈ x, c < 1114112
  | [], vs, h => by simpa [RVs] using h
  | n :: ns, vs, h => by
    simp only [List.map_cons, RVs] at h
    obtain ⟨v, us, e1, h1, h2⟩ := h
    obtain ⟨rfl, g1⟩ := h1.strI
    subst e1
    obtain ⟨e, h3⟩ := RVs.strs h2
    subst e
    refine ⟨rfl, fun x hx => ?_⟩
    rcases List.mem_cons.mp hx with rfl | hx
    · exact g1
    · exact h3 x hx
theorem RVs.of_strs : ∀ (ns : List (List Nat)), (∀ x ∈ ns, ∀ c ∈ x, c < 1114112) → RVs K μ H (ns.map AV.str) ((ns.map mkS).map V.str)
  | [], _ => RVs.nil
  | n :: ns, h => RVs.cons (rv_str (h n List.mem_cons_self)) (RVs.of_strs ns fun x hx => h x (List.mem_cons_of_mem _ hx))
theorem seq_rv (hH : RelH C μ H ah) {a : AV} {v : V} {xs : List AV} (ha : RV C.K μ H a v) (h : seqItems a ah = some xs) : ∃ p vs, v = .ref p ∧ (SqL C.K H p vs ∨ SqT C.K H p vs) ∧ RVs C.K μ H xs vs := by
  cases a <;> try (cases h)
  · obtain ⟨p, vs, rfl, h1, r1⟩ := ha.tupI
    exact ⟨p, vs, rfl, .inr h1, r1⟩
  · rename_i n
    unfold seqItems at h
    simp only at h
    split at h
    · rename_i ys e
      cases h
      obtain ⟨p, vs, rfl, _, h1, r1⟩ := hH.lst_of e ha
      exact ⟨p, vs, rfl, .inl (.inl (.inl h1)), r1⟩
    · cases h
  · rename_i ns
    simp only [RV] at ha
    obtain ⟨p, rfl, h1⟩ := ha
    exact ⟨p, _, rfl, .inl h1.sq, RVs.of_ints _⟩
theorem lst_rv (hH : RelH C μ H ah) {a : AV} {v : V} {xs : List AV} (ha : RV C.K μ H a v) (h : lstItems a ah = some xs) : ∃ p vs, v = .ref p ∧ SqL C.K H p vs ∧ RVs C.K μ H xs vs := by
  cases a <;> try (cases h)
  · rename_i n
    unfold lstItems at h
    simp only at h
    split at h
    · rename_i ys e
      cases h
      obtain ⟨p, vs, rfl, _, h1, r1⟩ := hH.lst_of e ha
      exact ⟨p, vs, rfl, (.inl (.inl h1)), r1⟩
    · cases h
  · rename_i ns
    simp only [RV] at ha
    obtain ⟨p, rfl, h1⟩ := ha
    exact ⟨p, _, rfl, h1.sq, RVs.of_ints _⟩
theorem cr_len' : CallR X (.builtin "len") (rSL ⟨X.K, C.cls, C.fld, C.T⟩ aLen) := by
  intro pins s σ H xs us Q I r ⟨E, μ, ah, as, hH, ha, hp⟩
  unfold aLen at hp
  split at hp
  · obtain ⟨v, rfl, h1⟩ := ha.one
    obtain ⟨rfl, _⟩ := h1.strI
    obtain ⟨hl, hp⟩ := Post.ifE' hp
    refine call_len_str pins s σ H _ us Q I r ⟨_, rfl, by rw [mkS_len, line_eq]; exact hl, ?_⟩
    rw [mkS_len]
    exact Post.val hH hp rv_int
  · obtain ⟨v, rfl, h1⟩ := ha.one
    obtain ⟨p, vs, rfl, h2, r1⟩ := h1.tupI
    exact call_len_seq pins s σ H _ us Q I r ⟨p, vs, rfl, .inr h2, by rw [r1.length]; exact Post.val hH hp rv_int⟩
  · obtain ⟨v, rfl, h1⟩ := ha.one
    simp only [RV] at h1
    obtain ⟨p, rfl, h1⟩ := h1
    exact call_len_seq pins s σ H _ us Q I r ⟨p, _, rfl, .inl h1.sq, by rw [List.length_map]; exact Post.val hH hp rv_int⟩
  · obtain ⟨v, rfl, h1⟩ := ha.one
    obtain ⟨xs, e, hp⟩ := Post.lstE hp
    obtain ⟨p, vs, rfl, _, h2, r1⟩ := hH.lst_of e h1
    exact call_len_seq pins s σ H _ us Q I r ⟨p, vs, rfl, .inl (.inl (.inl h2)), by rw [r1.length]; exact Post.val hH hp rv_int⟩
  · exact (show False from hp).elim
theorem cr_int' : CallR X (.type "int") (rSL ⟨X.K, C.cls, C.fld, C.T⟩ aInt) := by
  intro pins s σ H xs us Q I r ⟨E, μ, ah, as, hH, ha, hp⟩
  unfold aInt at hp
  split at hp
  · obtain ⟨v, rfl, h1⟩ := ha.one
    cases h1.intI
    exact call_int1 pins s σ H _ us Q I r (.inl ⟨_, rfl, Post.val hH hp rv_int⟩)
  · obtain ⟨v, rfl, h1⟩ := ha.one
    cases h1.blI
    exact call_int1 pins s σ H _ us Q I r (.inr ⟨_, rfl, Post.val hH hp rv_int⟩)
  · rename_i x
    obtain ⟨v, rfl, h1⟩ := ha.one
    obtain ⟨rfl, _⟩ := h1.strI
    obtain ⟨⟨l1, l2, l3⟩, hp⟩ := Post.ifE' hp
    have hd : PySem.NumText.AllDigits x := fun c hc => of_decide_eq_true (List.all_eq_true.mp l3 c hc)
    refine call_int_str pins s σ H _ us Q I r ⟨mkS x, _, rfl, PySem.intText_digits (x := mkS x) (by rw [mkS_tl]; exact hd) (by rw [mkS_tl]; exact l1) (by rw [mkS_len]; omega), by rw [mkS_len]; exact l2, ?_⟩
    rw [mkS_tl]
    exact Post.val hH hp rv_int
  · exact (show False from hp).elim
theorem num_lt (n : Nat) : ∀ c ∈ numT n, c < 1114112 := fun c hc => by
  have := TL.numL_digits n c hc
  omega
theorem num_str (n : Nat) : Str.ofString (toString ((n : Nat) : Int)) = mkS (numT n) := by
  have h := TL.tl_num n
  have : TL.tl (Str.ofString (toString ((n : Nat) : Int))) = TL.tl (mkS (numT n)) := by rw [h]; show _ = (mkS (numT n)).cps.toList; rw [mkS_tl]; rfl
  generalize Str.ofString (toString ((n : Nat) : Int)) = z at this
  obtain ⟨c⟩ := z
  have h2 : c.toList = numT n := by rw [show c.toList = TL.tl ⟨c⟩ from rfl, this]
  show (⟨c⟩ : PySem.Str) = ⟨(numT n).toArray⟩
  rw [← h2, Array.toArray_toList]
theorem cr_str' : CallR X (.type "str") (rSL ⟨X.K, C.cls, C.fld, C.T⟩ aStr) := by
  intro pins s σ H xs us Q I r ⟨E, μ, ah, as, hH, ha, hp⟩
  unfold aStr at hp
  split at hp
  · rename_i i
    obtain ⟨v, rfl, h1⟩ := ha.one
    cases h1.intI
    obtain ⟨⟨l1, l2⟩, hp⟩ := Post.ifE' hp
    refine call_str_int pins s σ H _ us Q I r ⟨i, rfl, ?_, ?_⟩
    · have : i.natAbs < 2 ^ 60 := by omega
      by_cases h0 : i.natAbs = 0
      · rw [h0]; decide
      · have := (Nat.log2_lt h0).mpr this
        omega
    · have e : i = ((i.toNat : Nat) : Int) := by omega
      have e2 := num_str i.toNat
      rw [← e] at e2
      show Q (.str (Str.ofString (toString i))) H
      rw [e2]
      exact Post.val hH hp (rv_str (num_lt _))
  · exact (show False from hp).elim
theorem cr_abs' : CallR X (.builtin "abs") (rSL ⟨X.K, C.cls, C.fld, C.T⟩ aAbs) := by
  intro pins s σ H xs us Q I r ⟨E, μ, ah, as, hH, ha, hp⟩
  unfold aAbs at hp
  split at hp
  · obtain ⟨v, rfl, h1⟩ := ha.one
    cases h1.intI
    exact call_abs pins s σ H _ us Q I r ⟨_, rfl, Post.val hH hp rv_int⟩
  · exact (show False from hp).elim
theorem cr_min2' (hc : X.calm = true) : CallR X (.builtin "min") (rSL ⟨X.K, C.cls, C.fld, C.T⟩ aMin2) := by
  intro pins s σ H xs us Q I r ⟨E, μ, ah, as, hH, ha, hp⟩
  unfold aMin2 at hp
  split at hp
  · obtain ⟨v, w, rfl, h1, h2⟩ := ha.two
    cases h1.intI; cases h2.intI
    exact call_min2 hc pins s σ H _ us Q I r ⟨_, _, rfl, Post.val hH hp rv_int⟩
  · exact (show False from hp).elim
theorem cr_max2' (hc : X.calm = true) : CallR X (.builtin "max") (rSL ⟨X.K, C.cls, C.fld, C.T⟩ aMax2) := by
  intro pins s σ H xs us Q I r ⟨E, μ, ah, as, hH, ha, hp⟩
  unfold aMax2 at hp
  split at hp
  · obtain ⟨v, w, rfl, h1, h2⟩ := ha.two
    cases h1.intI; cases h2.intI
    exact call_max2 hc pins s σ H _ us Q I r ⟨_, _, rfl, Post.val hH hp rv_int⟩
  · exact (show False from hp).elim
theorem bindE {α β : Type} {o : Option α} {f : α → Option β} {b : β} (h : o.bind f = some b) : ∃ a, o = some a ∧ f a = some b := by
  cases o with
  | none => cases h
  | some a => exact ⟨a, rfl, h⟩
theorem cr_sum' (hc : X.calm = true) : CallR X (.builtin "sum") (rSL ⟨X.K, C.cls, C.fld, C.T⟩ aSum) := by
  intro pins s σ H xs us Q I r ⟨E, μ, ah, as, hH, ha, hp⟩
  unfold aSum at hp
  split at hp
  · obtain ⟨v, rfl, h1⟩ := ha.one
    split at hp
    · rename_i ns e
      obtain ⟨ys, e1, e2⟩ := bindE e
      cases intsOf_map e2
      obtain ⟨p, vs, rfl, h2, r1⟩ := lst_rv hH h1 e1
      cases r1.ints
      exact cr_sum hc pins s σ H _ us Q I r ⟨p, ns, rfl, h2, Post.val hH hp rv_int⟩
    · exact (show False from hp).elim
  · exact (show False from hp).elim
theorem cr_all' (hc : X.calm = true) : CallR X (.builtin "all") (rSL ⟨X.K, C.cls, C.fld, C.T⟩ aAll) := by
  intro pins s σ H xs us Q I r ⟨E, μ, ah, as, hH, ha, hp⟩
  unfold aAll at hp
  split at hp
  · obtain ⟨v, rfl, h1⟩ := ha.one
    split at hp
    · rename_i ns e
      obtain ⟨ys, e1, e2⟩ := bindE e
      cases blsOf_map e2
      obtain ⟨p, vs, rfl, h2, r1⟩ := lst_rv hH h1 e1
      cases r1.bls
      exact cr_all hc pins s σ H _ us Q I r ⟨p, ns, rfl, h2, Post.val hH hp rv_bl⟩
    · exact (show False from hp).elim
  · exact (show False from hp).elim
theorem cr_any' (hc : X.calm = true) : CallR X (.builtin "any") (rSL ⟨X.K, C.cls, C.fld, C.T⟩ aAny) := by
  intro pins s σ H xs us Q I r ⟨E, μ, ah, as, hH, ha, hp⟩
  unfold aAny at hp
  split at hp
  · obtain ⟨v, rfl, h1⟩ := ha.one
    split at hp
    · rename_i ns e
      obtain ⟨ys, e1, e2⟩ := bindE e
      cases blsOf_map e2
      obtain ⟨p, vs, rfl, h2, r1⟩ := lst_rv hH h1 e1
      cases r1.bls
      exact cr_any hc pins s σ H _ us Q I r ⟨p, ns, rfl, h2, Post.val hH hp rv_bl⟩
    · exact (show False from hp).elim
  · exact (show False from hp).elim
theorem rv_tup {xs : List AV} {vs : List V} {p : Addr} (h : SqT K H p vs) (r : RVs K μ H xs vs) : RV K μ H (.tup xs) (.ref p) := by
  simp only [RV]; exact ⟨p, vs, rfl, h, r⟩
theorem cr_tuple' : CallR X (.type "tuple") (rSL ⟨X.K, C.cls, C.fld, C.T⟩ aTuple) := by
  intro pins s σ H xs us Q I r ⟨E, μ, ah, as, hH, ha, hp⟩
  unfold aTuple at hp
  split at hp
  · obtain ⟨v, rfl, h1⟩ := ha.one
    split at hp
    · rename_i ns e
      obtain ⟨p, vs, rfl, h2, r1⟩ := seq_rv hH h1 e
      rcases h2 with h2 | h2
      · exact call_tuple_of pins s σ H _ us Q I r ⟨p, vs, rfl, .inl ⟨h2, Post.tup hH hp r1⟩⟩
      · exact call_tuple_of pins s σ H _ us Q I r ⟨p, vs, rfl, .inr ⟨h2, Post.val hH hp (rv_tup h2 r1)⟩⟩
    · exact (show False from hp).elim
  · exact (show False from hp).elim
theorem cr_list' : CallR X (.type "list") (rSL ⟨X.K, C.cls, C.fld, C.T⟩ aList) := by
  intro pins s σ H xs us Q I r ⟨E, μ, ah, as, hH, ha, hp⟩
  unfold aList at hp
  split at hp
  · obtain ⟨v, rfl, h1⟩ := ha.one
    split at hp
    · rename_i ns e
      obtain ⟨p, vs, rfl, h2, r1⟩ := seq_rv hH h1 e
      exact call_list_of pins s σ H _ us Q I r ⟨p, vs, rfl, h2, Post.alloc hH hp r1⟩
    · exact (show False from hp).elim
  · exact (show False from hp).elim
theorem cr_divmod' : CallR X (.builtin "divmod") (rSL ⟨X.K, C.cls, C.fld, C.T⟩ aDivmod) := by
  intro pins s σ H xs us Q I r ⟨E, μ, ah, as, hH, ha, hp⟩
  unfold aDivmod at hp
  split at hp
  · rename_i i j
    obtain ⟨v, w, rfl, h1, h2⟩ := ha.two
    cases h1.intI; cases h2.intI
    obtain ⟨l1, hp⟩ := Post.ifE' hp
    exact call_divmod pins s σ H _ us Q I r ⟨i, j, rfl, l1, Post.tup hH hp (RVs.cons rv_int (RVs.cons rv_int RVs.nil))⟩
  · exact (show False from hp).elim
end

/-! ### methods -/
def aSplit (a : AV) (as : List AV) : M AV := fun h => match a, as with
  | .str x, [.str s] => if s ≠ [] ∧ x.length ≤ 1000000 ∧ s.all (fun c => decide (c < 256)) = true then alloc (.lst ((TL.spl s 0 [] x).map .str)) h else .stk
  | _, _ => .stk
def joinA (s : List Nat) (xs : List (List Nat)) : List Nat := TL.joinL s xs
def aJoin (a : AV) (as : List AV) : M AV := fun h => match a, as with
  | .str s, [b] => (match (seqItems b h).bind strsOf with
    | some xs => if (xs.map List.length).sum + xs.length * s.length ≤ 16777216 then .ok (.str (joinA s xs)) h else .stk
    | none => .stk)
  | _, _ => .stk
def aAppend (a : AV) (as : List AV) : M AV := fun h => match a, as with
  | .ref n, [b] => (match h[n]? with
    | some (.lst xs) => if xs.length < 16777216 then .ok .non (h.set n (.lst (xs ++ [b]))) else .stk
    | _ => .stk)
  | _, _ => .stk
section
variable {X : Cx} {C : Cf} {K : PySem.W.Frag} {μ : List Addr} {H : Hp} {ah : AH} {E : XK}
def rMt (C : Cf) (f : AV → List AV → M AV) : V → List V → Hp → VK → Prop := fun x xs H Q => ∃ (E : XK) (μ : List Addr) (ah : AH) (a : AV) (as : List AV), RelH C μ H ah ∧ RV C.K μ H a x ∧ RVs C.K μ H as xs ∧ Post C E μ H (RV C.K) (f a as ah) Q
theorem tlS (z : PySem.Str) : z = mkS (TL.tl z) := by
  obtain ⟨c⟩ := z
  show (⟨c⟩ : PySem.Str) = ⟨c.toList.toArray⟩
  rw [Array.toArray_toList]
theorem tl_mkS (x : List Nat) : TL.tl (mkS x) = x := mkS_tl x
theorem spl_mem {S : List Nat} : ∀ {x acc : List Nat} {k : Nat} {w : List Nat} {c : Nat}, w ∈ TL.spl S k acc x → c ∈ w → c ∈ acc ∨ c ∈ x
  | [], acc, k, w, c, h, hc => by
    have e : w = acc := by cases k <;> (simp only [TL.spl] at h; simpa using h)
    subst e; exact .inl hc
  | d :: r, acc, 0, w, c, h, hc => by
    simp only [TL.spl] at h
    split at h
    · rcases List.mem_cons.mp h with rfl | h
      · exact .inl hc
      · rcases spl_mem h hc with z | z
        · cases z
        · exact .inr (List.mem_cons_of_mem _ z)
    · rcases spl_mem h hc with z | z
      · rcases List.mem_append.mp z with z | z
        · exact .inl z
        · have : c = d := by simpa using z
          subst this
          exact .inr List.mem_cons_self
      · exact .inr (List.mem_cons_of_mem _ z)
  | d :: r, acc, k + 1, w, c, h, hc => by
    simp only [TL.spl] at h
    rcases spl_mem h hc with z | z
    · exact .inl z
    · exact .inr (List.mem_cons_of_mem _ z)
theorem mtr_split : MtR X "str.split" (rMt ⟨X.K, C.cls, C.fld, C.T⟩ aSplit) := by
  intro pins s σ H x xs v us Q I rx rs ⟨E, μ, ah, a, as, hH, ha, has, hp⟩
  unfold aSplit at hp
  split at hp
  · rename_i z w
    obtain ⟨⟨l1, l2, l3⟩, hp⟩ := Post.ifE' hp
    obtain ⟨rfl, hz⟩ := ha.strI
    obtain ⟨v1, rfl, h2⟩ := has.one
    obtain ⟨rfl, hw⟩ := h2.strI
    have hk : (mkS w).cps.all (· < 256) = true := by simpa using l3
    have e := TL.split_spl (mkS z) (mkS w) (by rw [tl_mkS]; exact l1) (TL.kind_ok hk)
    rw [tl_mkS, tl_mkS] at e
    have e2 : Txt.split (mkS z) (mkS w) = (TL.spl w 0 [] z).map mkS := by
      rw [← e, List.map_map]
      have : (mkS ∘ TL.tl) = id := funext fun q => (tlS q).symm
      rw [this, List.map_id]
    refine mt_split pins s σ H _ _ v us Q I rx rs ⟨mkS z, mkS w, rfl, rfl, ?_, by rw [mkS_len, line_eq]; omega, ?_⟩
    · rw [mkS_len]
      cases w with
      | nil => exact absurd rfl l1
      | cons => rfl
    · rw [e2]
      exact Post.alloc hH hp (RVs.of_strs _ fun q hq c hc => (spl_mem hq hc).elim (fun z => by cases z) (hz c))
  · exact (show False from hp).elim
theorem joinL_mem {S : List Nat} : ∀ {xs : List (List Nat)} {c : Nat}, c ∈ TL.joinL S xs → c ∈ S ∨ ∃ x ∈ xs, c ∈ x
  | [], c, h => by cases h
  | [p], c, h => .inr ⟨p, by simp, h⟩
  | p :: q :: r, c, h => by
    have h : c ∈ p ++ (S ++ TL.joinL S (q :: r)) := h
    rcases List.mem_append.mp h with h | h
    · exact .inr ⟨p, by simp, h⟩
    · rcases List.mem_append.mp h with h | h
      · exact .inl h
      · rcases joinL_mem h with h | ⟨x, hx, h⟩
        · exact .inl h
        · exact .inr ⟨x, List.mem_cons_of_mem _ hx, h⟩
theorem mtr_join : MtR X "str.join" (rMt ⟨X.K, C.cls, C.fld, C.T⟩ aJoin) := by
  intro pins s σ H x xs v us Q I rx rs ⟨E, μ, ah, a, as, hH, ha, has, hp⟩
  unfold aJoin at hp
  split at hp
  · rename_i w b
    split at hp
    · rename_i zs e
      obtain ⟨hl, hp⟩ := Post.ifE' hp
      obtain ⟨rfl, hw⟩ := ha.strI
      obtain ⟨v1, rfl, h2⟩ := has.one
      obtain ⟨ys, e1, e2⟩ := bindE e
      cases strsOf_map e2
      obtain ⟨p, vs, rfl, h3, r1⟩ := seq_rv hH h2 e1
      obtain ⟨rfl, hz⟩ := r1.strs
      refine mt_join pins s σ H _ _ v us Q I rx rs ⟨mkS w, p, _, rfl, rfl, h3, ?_, ?_⟩
      · rw [List.map_map, List.length_map, mkS_len]
        have : (fun x : PySem.Str => x.length) ∘ mkS = List.length := funext fun q => mkS_len q
        rw [this]
        exact hl
      · have e3 : Txt.join (mkS w) (zs.map mkS) = mkS (joinA w zs) := by
          rw [TL.join_eq, tlS (Str.join _ _), TL.tl_join, tl_mkS, List.map_map]
          have : TL.tl ∘ mkS = id := funext fun q => tl_mkS q
          rw [this, List.map_id]; rfl
        rw [e3]
        exact Post.val hH hp (rv_str fun c hc => (joinL_mem hc).elim (hw c) fun ⟨x, hx, hc⟩ => hz x hx c hc)
    · exact (show False from hp).elim
  · exact (show False from hp).elim
theorem mtr_append : MtR X "list.append" (rMt ⟨X.K, C.cls, C.fld, C.T⟩ aAppend) := by
  intro pins s σ H x xs v us Q I rx rs ⟨E, μ, ah, a, as, hH, ha, has, hp⟩
  unfold aAppend at hp
  split at hp
  · rename_i n b
    obtain ⟨ys, e, hp⟩ := Post.lstE hp
    obtain ⟨hl, hp⟩ := Post.ifE' hp
    obtain ⟨p, vs, rfl, hn, h1, r1⟩ := hH.lst_of e ha
    obtain ⟨w, rfl, h2⟩ := has.one
    refine mt_append pins s σ H _ _ v us Q I rx rs ⟨p, vs, w, rfl, rfl, h1, by rw [r1.length, line_eq]; exact hl, ?_⟩
    have f := hH.futset (o := .lst (vs ++ [w])) hn
    exact hp μ _ _ f (hH.set hn ⟨_, upd_same, RVs.fut f _ _ (r1.append (RVs.cons h2 RVs.nil))⟩) rv_non
  · exact (show False from hp).elim
end
end Z

set_option maxHeartbeats 2000000
namespace Z
open PySem PySem.Spec PyProof.Rows L2
/-! ### expressions -/
abbrev STm := AS → M Bool
abbrev SAm := AS → M (List AV)
def eVar (i : Nat) : SEm := fun σ h => match σ[i]? with
  | some (some a) => .ok a h
  | _ => .stk
def eCst (a : AV) : SEm := fun _ => M.pure a
def eBin (f : AV → AV → M AV) (a b : SEm) : SEm := fun σ => M.bind (a σ) fun x => M.bind (b σ) fun y => f x y
def eUn (f : AV → M AV) (a : SEm) : SEm := fun σ => M.bind (a σ) f
def eIf (t : STm) (a b : SEm) : SEm := fun σ => M.bind (t σ) fun c => if c = true then a σ else b σ
def aBl (a : AV) : M Bool := fun h => match a with
  | .bl b => .ok b h
  | _ => .stk
def eAnd (a b : SEm) : SEm := fun σ => M.bind (a σ) fun x => M.bind (aBl x) fun c => if c = true then b σ else M.pure (.bl false)
def eOr (a b : SEm) : SEm := fun σ => M.bind (a σ) fun x => M.bind (aBl x) fun c => if c = true then M.pure (.bl true) else b σ
def eNot (t : STm) : SEm := fun σ => M.bind (t σ) fun c => M.pure (.bl (!c))
def eChain (f g : AV → AV → M AV) (a b c : SEm) : SEm := fun σ => M.bind (a σ) fun x => M.bind (b σ) fun y => M.bind (f x y) fun z => M.bind (aBl z) fun k => if k = true then M.bind (c σ) fun w => g y w else M.pure (.bl false)
def tOf (a : SEm) : STm := fun σ => M.bind (a σ) truA
def tNt (t : STm) : STm := fun σ => M.bind (t σ) fun c => M.pure (!c)
def tAn (a b : STm) : STm := fun σ => M.bind (a σ) fun c => if c = true then b σ else M.pure false
def tOrr (a b : STm) : STm := fun σ => M.bind (a σ) fun c => if c = true then M.pure true else b σ
def tCmp (f : AV → AV → M AV) (a b : SEm) : STm := fun σ => M.bind (a σ) fun x => M.bind (b σ) fun y => M.bind (f x y) aBl
def aNil : SAm := fun _ => M.pure []
def aCons (a : SEm) (as : SAm) : SAm := fun σ => M.bind (a σ) fun x => M.bind (as σ) fun xs => M.pure (x :: xs)
def eFn (f : List AV → M AV) (as : SAm) : SEm := fun σ => M.bind (as σ) f
def eMth (f : AV → List AV → M AV) (o : SEm) (as : SAm) : SEm := fun σ => M.bind (o σ) fun x => M.bind (as σ) fun xs => f x xs
def eTup (as : SAm) : SEm := fun σ => M.bind (as σ) fun xs => M.pure (.tup xs)
def eLst (as : SAm) : SEm := fun σ => M.bind (as σ) fun xs => alloc (.lst xs)
def oNone : AS → M (Option Int) := fun _ => M.pure none
def oSome (a : SEm) : AS → M (Option Int) := fun σ => M.bind (a σ) fun x h => match x with
  | .int i => .ok (some i) h
  | _ => .stk
def eSlc (a : SEm) (lo hi : AS → M (Option Int)) : SEm := fun σ => M.bind (a σ) fun x => M.bind (lo σ) fun l => M.bind (hi σ) fun u => aSlc x l u
section
variable {X : Cx} {C : Cf} {W : XW}
theorem viaK {T : Cf → Prop} (hK : X.K = C.K) (h : T ⟨X.K, C.cls, C.fld, C.T⟩) : T C := by
  have e : (⟨X.K, C.cls, C.fld, C.T⟩ : Cf) = C := by rw [hK]
  exact e ▸ h
/-- a reading of any kind -/
def sim {α β : Type} (C : Cf) (W : XW) (rel : Rel α β) (m : AS → M α) : St → Hp → (β → Hp → Prop) → Prop := fun σ H Q => ∃ μ sa ah, RelS C.K μ H sa σ ∧ RelH C μ H ah ∧ Post C (fun c d H => W c d σ H) μ H rel (m sa ah) Q
theorem simE_eq {m : SEm} : simE C W m = sim C W (RV C.K) m := rfl
theorem simA_eq {m : SAm} : simA C W m = sim C W (RVs C.K) m := rfl
theorem simT_eq {m : STm} : simT C W m = sim C W relB m := rfl
/-- the first step of a reading -/
theorem sim.step {α β γ δ : Type} {rel : Rel α β} {rel' : Rel γ δ} {m : AS → M α} {f : AS → α → M γ} {σ : St} {H : Hp} {Q : δ → Hp → Prop} (h : sim C W rel' (fun sa => M.bind (m sa) (f sa)) σ H Q) :
    sim C W rel m σ H fun v H1 => ∃ μ sa ah a, RelS C.K μ H1 sa σ ∧ RelH C μ H1 ah ∧ rel μ H1 a v ∧ Post C (fun c d H => W c d σ H) μ H1 rel' (f sa a ah) Q := by
  obtain ⟨μ, sa, ah, rs, rh, hp⟩ := h
  refine ⟨μ, sa, ah, rs, rh, Post.mono (Post.bind hp) ?_⟩
  rintro v H1 ⟨μ1, a, h1, f1, r1, ra, q⟩
  exact ⟨μ1, sa, h1, a, rs.fut f1, r1, ra, q⟩
/-- a further step: what is known of a value so far is kept -/
theorem sim.next {α β γ δ ε ζ : Type} {rel0 : Rel ε ζ} {rel : Rel α β} {rel' : Rel γ δ} {m : AS → M α} {f : AS → ε → α → M γ} {σ : St} {H : Hp} {Q : δ → Hp → Prop} {z : ζ}
    (mono : ∀ {μ H μ' H' a}, Fut μ H μ' H' → rel0 μ H a z → rel0 μ' H' a z)
    (h : ∃ μ sa ah a, RelS C.K μ H sa σ ∧ RelH C μ H ah ∧ rel0 μ H a z ∧ Post C (fun c d H => W c d σ H) μ H rel' (M.bind (m sa) (f sa a) ah) Q) :
    sim C W rel m σ H fun v H1 => ∃ μ sa ah a b, RelS C.K μ H1 sa σ ∧ RelH C μ H1 ah ∧ rel0 μ H1 a z ∧ rel μ H1 b v ∧ Post C (fun c d H => W c d σ H) μ H1 rel' (f sa a b ah) Q := by
  obtain ⟨μ, sa, ah, a, rs, rh, ra, hp⟩ := h
  refine ⟨μ, sa, ah, rs, rh, Post.mono (Post.bind hp) ?_⟩
  rintro v H1 ⟨μ1, b, h1, f1, r1, rb, q⟩
  exact ⟨μ1, sa, h1, a, b, rs.fut f1, r1, mono f1 ra, rb, q⟩
/-! #### names, constants -/
theorem s_var {i : Nat} {x : PySem.Str} {pos : Pos} (hN : X.N[i]? = some x) (hv : Vis X.env.scope x) (hd : (x == ("__debug__" : PySem.Str)) = false) (hcd : (x == ("__classdict__" : PySem.Str)) = false) : PE X (.Name x pos) (simE C W (eVar i)) := by
  refine PE.imp (pe_var hN hv hd hcd) fun σ H Q ⟨μ, sa, ah, rs, rh, hp⟩ => ?_
  unfold eVar at hp
  split at hp
  · rename_i a e
    obtain ⟨v, h1, h2⟩ := rs.at_ i a e
    exact ⟨v, h1, Post.val rh hp h2⟩
  · exact (show False from hp).elim
theorem s_cst {e : Expr} {a : AV} {v : V} (h : PE X e (tC v)) (r : ∀ μ H, RV C.K μ H a v) : PE X e (simE C W (eCst a)) :=
  PE.imp h fun σ H Q ⟨μ, sa, ah, rs, rh, hp⟩ => Post.val (a := a) rh hp (r μ H)
/-! #### operators -/
theorem s_bin {op : Operator} {f : AV → AV → M AV} {a b : Expr} {A B : SEm} {pos : Pos} (ho : OpR X (binaryOp op) (rS2 C f)) (ha : PE X a (simE C W A)) (hb : PE X b (simE C W B)) : PE X (.BinOp a op b pos) (simE C W (eBin f A B)) := by
  refine PE.imp (pe_op ho ha hb) fun σ H Q h => ?_
  obtain ⟨μ, sa, ah, rs, rh, hp⟩ := sim.step (rel := RV C.K) (m := A) (f := fun sa x => M.bind (B sa) fun y => f x y) h
  refine ⟨μ, sa, ah, rs, rh, Post.mono hp fun v H1 h1 => ?_⟩
  obtain ⟨μ, sa, ah, rs, rh, hp⟩ := sim.next (rel0 := RV C.K) (rel := RV C.K) (m := B) (f := fun sa x y => f x y) (fun f h => RV.fut f _ _ h) h1
  refine ⟨μ, sa, ah, rs, rh, Post.mono hp fun w H2 h2 => ?_⟩
  obtain ⟨μ, sa, ah, x, y, rs, rh, rx, ry, hp⟩ := h2
  exact ⟨_, μ, ah, x, y, rh, rx, ry, hp⟩
theorem s_cmp {op : CmpOp} {f : AV → AV → M AV} {a b : Expr} {A B : SEm} {pos : Pos} (ho : OpR X (compareOp op) (rS2 C f)) (ha : PE X a (simE C W A)) (hb : PE X b (simE C W B)) (hm : behindInMarks op b = false) : PE X (.Compare a [op] [b] pos) (simE C W (eBin f A B)) := by
  refine PE.imp (pe_cmpR ho ha hb hm) fun σ H Q h => ?_
  obtain ⟨μ, sa, ah, rs, rh, hp⟩ := sim.step (rel := RV C.K) (m := A) (f := fun sa x => M.bind (B sa) fun y => f x y) h
  refine ⟨μ, sa, ah, rs, rh, Post.mono hp fun v H1 h1 => ?_⟩
  obtain ⟨μ, sa, ah, rs, rh, hp⟩ := sim.next (rel0 := RV C.K) (rel := RV C.K) (m := B) (f := fun sa x y => f x y) (fun f h => RV.fut f _ _ h) h1
  refine ⟨μ, sa, ah, rs, rh, Post.mono hp fun w H2 h2 => ?_⟩
  obtain ⟨μ, sa, ah, x, y, rs, rh, rx, ry, hp⟩ := h2
  exact ⟨_, μ, ah, x, y, rh, rx, ry, hp⟩
/-- a boolean value read as a bool -/
theorem bl_of {μ : List Addr} {H : Hp} {ah : AH} {E : XK} {a : AV} {v : V} {α β : Type} {rel : Rel α β} {Q : β → Hp → Prop} {f : Bool → M α} (ra : RV C.K μ H a v) (hp : Post C E μ H rel (M.bind (aBl a) f ah) Q) : ∃ c, v = .bl c ∧ Post C E μ H rel (f c ah) Q := by
  cases a <;> try exact (show False from hp).elim
  rename_i c
  cases ra.blI
  exact ⟨c, rfl, hp⟩
theorem bl_end {μ : List Addr} {H : Hp} {ah : AH} {E : XK} {a : AV} {v : V} {Q : Bool → Hp → Prop} (ra : RV C.K μ H a v) (rh : RelH C μ H ah) (hp : Post C E μ H relB (aBl a ah) Q) : ∃ c, v = .bl c ∧ Q c H := by
  cases a <;> try exact (show False from hp).elim
  rename_i c
  cases ra.blI
  exact ⟨c, rfl, hp μ H c Fut.refl rh rfl⟩
theorem s_tcmp {op : CmpOp} {f : AV → AV → M AV} {a b : Expr} {A B : SEm} {pos : Pos} (ho : OpR X (compareOp op) (rS2 C f)) (ha : PE X a (simE C W A)) (hb : PE X b (simE C W B)) (hm : behindInMarks op b = false) :
    PT X (.Compare a [op] [b] pos) (simT C W (tCmp f A B)) := by
  refine PT.imp (pt_cmpR ho ha hb hm) fun σ H Q h => ?_
  obtain ⟨μ, sa, ah, rs, rh, hp⟩ := sim.step (rel := RV C.K) (m := A) (f := fun sa x => M.bind (B sa) fun y => M.bind (f x y) aBl) h
  refine ⟨μ, sa, ah, rs, rh, Post.mono hp fun v H1 h1 => ?_⟩
  obtain ⟨μ, sa, ah, rs, rh, hp⟩ := sim.next (rel0 := RV C.K) (rel := RV C.K) (m := B) (f := fun sa x y => M.bind (f x y) aBl) (fun f h => RV.fut f _ _ h) h1
  refine ⟨μ, sa, ah, rs, rh, Post.mono hp fun w H2 h2 => ?_⟩
  obtain ⟨μ, sa, ah, x, y, rs, rh, rx, ry, hp⟩ := h2
  refine ⟨_, μ, ah, x, y, rh, rx, ry, Post.mono (Post.bind hp) fun z H3 h3 => ?_⟩
  obtain ⟨μ3, c, h3, f3, r3, rc, hp⟩ := h3
  exact bl_end rc r3 hp
/-! #### tests -/
theorem s_truth {a : Expr} {A : SEm} (ha : PE X a (simE C W A)) (hK : X.K = C.K) (he : ∀ whole, isTrue a X.env whole = (do let v ← whole; standAt a.pos; holding [v] (truthy v))) : PT X a (simT C W (tOf A)) := by
  refine PT.imp (pt_truth ha he) fun σ H Q h => ?_
  obtain ⟨μ, sa, ah, rs, rh, hp⟩ := sim.step (rel := RV C.K) (m := A) (f := fun sa x => truA x) h
  refine ⟨μ, sa, ah, rs, rh, Post.mono hp fun v H1 ⟨μ, sa, ah, a, rs, rh, ra, hp⟩ => ?_⟩
  rw [hK]
  exact tru_rv rh ra hp
theorem s_tnot {a : Expr} {A : STm} {pos : Pos} (ha : PT X a (simT C W A)) : PT X (.UnaryOp .Not a pos) (simT C W (tNt A)) := by
  refine PT.imp (pt_not ha) fun σ H Q h => ?_
  obtain ⟨μ, sa, ah, rs, rh, hp⟩ := sim.step (rel := relB) (m := A) (f := fun sa x => M.pure (!x)) h
  refine ⟨μ, sa, ah, rs, rh, Post.mono hp fun v H1 ⟨μ, sa, ah, a, rs, rh, ra, hp⟩ => ?_⟩
  have e : v = a := ra
  subst e
  exact hp μ H1 _ Fut.refl rh rfl
theorem PW.imp {X : Cx} {e : Expr} {t t' : TT} (h : PW X e t) (i : ∀ σ H Q, t' σ H Q → t σ H Q) : PW X e t' := ⟨fun w pins s σ H Q I q => h.run w pins s σ H Q I (i σ H Q q)⟩
theorem s_and1 {a : Expr} {A : STm} {pos : Pos} (ha : PT X a (simT C W A)) : PW X (.BoolOp .And [a] pos) (simT C W A) := pw_and1 ha
theorem s_or1 {a : Expr} {A : STm} {pos : Pos} (ha : PT X a (simT C W A)) : PW X (.BoolOp .Or [a] pos) (simT C W A) := pw_or1 ha
theorem s_tand {a b : Expr} {r : List Expr} {A B : STm} {pos : Pos} (ha : PT X a (simT C W A)) (hb : PW X (.BoolOp .And (b :: r) pos) (simT C W B)) : PW X (.BoolOp .And (a :: b :: r) pos) (simT C W (tAn A B)) := by
  refine PW.imp (pw_and ha hb) fun σ H Q h => ?_
  obtain ⟨μ, sa, ah, rs, rh, hp⟩ := sim.step (rel := relB) (m := A) (f := fun sa c => if c = true then B sa else M.pure false) h
  refine ⟨μ, sa, ah, rs, rh, Post.mono hp fun v H1 ⟨μ, sa, ah, a, rs, rh, ra, hp⟩ => ?_⟩
  have e : v = a := ra
  subst e
  cases v with
  | true => exact ⟨μ, sa, ah, rs, rh, hp⟩
  | false => exact hp μ H1 _ Fut.refl rh rfl
theorem s_tor {a b : Expr} {r : List Expr} {A B : STm} {pos : Pos} (ha : PT X a (simT C W A)) (hb : PW X (.BoolOp .Or (b :: r) pos) (simT C W B)) : PW X (.BoolOp .Or (a :: b :: r) pos) (simT C W (tOrr A B)) := by
  refine PW.imp (pw_or ha hb) fun σ H Q h => ?_
  obtain ⟨μ, sa, ah, rs, rh, hp⟩ := sim.step (rel := relB) (m := A) (f := fun sa c => if c = true then M.pure true else B sa) h
  refine ⟨μ, sa, ah, rs, rh, Post.mono hp fun v H1 ⟨μ, sa, ah, a, rs, rh, ra, hp⟩ => ?_⟩
  have e : v = a := ra
  subst e
  cases v with
  | false => exact ⟨μ, sa, ah, rs, rh, hp⟩
  | true => exact hp μ H1 _ Fut.refl rh rfl
/-! #### and, or, not, if as values -/
theorem s_one {op : BoolOp} {a : Expr} {A : SEm} {pos : Pos} (ha : PE X a (simE C W A)) : PE X (.BoolOp op [a] pos) (simE C W A) := pe_one ha
theorem s_and {a b : Expr} {r : List Expr} {A B : SEm} {pos : Pos} (ha : PE X a (simE C W A)) (hb : PE X (.BoolOp .And (b :: r) pos) (simE C W B)) : PE X (.BoolOp .And (a :: b :: r) pos) (simE C W (eAnd A B)) := by
  refine PE.imp (pe_and ha hb) fun σ H Q h => ?_
  obtain ⟨μ, sa, ah, rs, rh, hp⟩ := sim.step (rel := RV C.K) (m := A) (f := fun sa x => M.bind (aBl x) fun c => if c = true then B sa else M.pure (.bl false)) h
  refine ⟨μ, sa, ah, rs, rh, Post.mono hp fun v H1 ⟨μ, sa, ah, a, rs, rh, ra, hp⟩ => ?_⟩
  obtain ⟨c, e, hp⟩ := bl_of ra hp
  refine ⟨c, e, ?_⟩
  cases c with
  | true => exact ⟨μ, sa, ah, rs, rh, hp⟩
  | false => exact Post.val (a := .bl false) rh hp rv_bl
theorem s_or {a b : Expr} {r : List Expr} {A B : SEm} {pos : Pos} (ha : PE X a (simE C W A)) (hb : PE X (.BoolOp .Or (b :: r) pos) (simE C W B)) : PE X (.BoolOp .Or (a :: b :: r) pos) (simE C W (eOr A B)) := by
  refine PE.imp (pe_or ha hb) fun σ H Q h => ?_
  obtain ⟨μ, sa, ah, rs, rh, hp⟩ := sim.step (rel := RV C.K) (m := A) (f := fun sa x => M.bind (aBl x) fun c => if c = true then M.pure (AV.bl true) else B sa) h
  refine ⟨μ, sa, ah, rs, rh, Post.mono hp fun v H1 ⟨μ, sa, ah, a, rs, rh, ra, hp⟩ => ?_⟩
  obtain ⟨c, e, hp⟩ := bl_of ra hp
  refine ⟨c, e, ?_⟩
  cases c with
  | false => exact ⟨μ, sa, ah, rs, rh, hp⟩
  | true => exact Post.val (a := .bl true) rh hp rv_bl
def aNot (a : AV) : M AV := M.bind (aBl a) fun c => M.pure (.bl (!c))
theorem s_not {a : Expr} {A : SEm} {pos : Pos} (ha : PE X a (simE C W A)) : PE X (.UnaryOp .Not a pos) (simE C W (eUn aNot A)) := by
  refine PE.imp (pe_not ha) fun σ H Q h => ?_
  obtain ⟨μ, sa, ah, rs, rh, hp⟩ := sim.step (rel := RV C.K) (m := A) (f := fun sa x => aNot x) h
  refine ⟨μ, sa, ah, rs, rh, Post.mono hp fun v H1 ⟨μ, sa, ah, a, rs, rh, ra, hp⟩ => ?_⟩
  obtain ⟨c, e, hp⟩ := bl_of ra hp
  exact ⟨c, e, Post.val (a := .bl (!c)) rh hp rv_bl⟩
theorem s_ife {t a b : Expr} {T : STm} {A B : SEm} {pos : Pos} (ht : PT X t (simT C W T)) (ha : PE X a (simE C W A)) (hb : PE X b (simE C W B)) : PE X (.IfExp t a b pos) (simE C W (eIf T A B)) := by
  refine PE.imp (pe_ifExp ht ha hb) fun σ H Q h => ?_
  obtain ⟨μ, sa, ah, rs, rh, hp⟩ := sim.step (rel := relB) (m := T) (f := fun sa c => if c = true then A sa else B sa) h
  refine ⟨μ, sa, ah, rs, rh, Post.mono hp fun v H1 ⟨μ, sa, ah, a, rs, rh, ra, hp⟩ => ?_⟩
  have e : v = a := ra
  subst e
  cases v with
  | true => exact ⟨μ, sa, ah, rs, rh, hp⟩
  | false => exact ⟨μ, sa, ah, rs, rh, hp⟩
theorem bl_of' {μ : List Addr} {H : Hp} {E : XK} {r : R AV} {v : V} {H1 : Hp} {α β : Type} {rel : Rel α β} {Q : β → Hp → Prop} {f : Bool → M α} {a : AV} {ah : AH} (ra : RV C.K μ H1 a v) (hp : Post C E μ H1 rel (M.bind (aBl a) f ah) Q) : ∃ c, v = .bl c ∧ Post C E μ H1 rel (f c ah) Q := bl_of ra hp
theorem chain_sim {r r' : AV → AV → M AV} {A B D : SEm} {σ : St} {H : Hp} {Q : VK} (h : sim C W (RV C.K) (eChain r r' A B D) σ H Q) : tChain (rS2 C r) (rS2 C r') (simE C W A) (simE C W B) (simE C W D) σ H Q := by
  obtain ⟨μ, sa, ah, rs, rh, hp⟩ := sim.step (rel := RV C.K) (m := A) (f := fun sa x => M.bind (B sa) fun y => M.bind (r x y) fun z => M.bind (aBl z) fun k => if k = true then M.bind (D sa) fun w => r' y w else M.pure (.bl false)) h
  refine ⟨μ, sa, ah, rs, rh, Post.mono hp fun v H1 h1 => ?_⟩
  obtain ⟨μ, sa, ah, rs, rh, hp⟩ := sim.next (rel0 := RV C.K) (rel := RV C.K) (m := B) (f := fun sa x y => M.bind (r x y) fun z => M.bind (aBl z) fun k => if k = true then M.bind (D sa) fun w => r' y w else M.pure (.bl false)) (fun f h => RV.fut f _ _ h) h1
  refine ⟨μ, sa, ah, rs, rh, Post.mono hp fun w H2 h2 => ?_⟩
  obtain ⟨μ, sa, ah, x, y, rs, rh, rx, ry, hp⟩ := h2
  refine ⟨_, μ, ah, x, y, rh, rx, ry, Post.mono (Post.bind hp) fun z H3 h3 => ?_⟩
  obtain ⟨μ3, c, h3, f3, r3, rc, hp⟩ := h3
  obtain ⟨k, e, hp⟩ := bl_of rc hp
  refine ⟨k, e, ?_⟩
  cases k with
  | false => exact Post.val (a := .bl false) r3 hp rv_bl
  | true =>
    refine ⟨μ3, sa, h3, rs.fut f3, r3, Post.mono (Post.bind hp) fun v4 H4 h4 => ?_⟩
    obtain ⟨μ4, d, h4, f4, r4, rd, hp⟩ := h4
    exact ⟨_, μ4, h4, y, d, r4, RV.fut f4 _ _ (RV.fut f3 _ _ ry), rd, hp⟩
theorem s_chain {op op' : CmpOp} {r r' : AV → AV → M AV} {a b d : Expr} {A B D : SEm} {pos : Pos} (ho : OpR X (compareOp op) (rS2 C r)) (ho' : OpR X (compareOp op') (rS2 C r')) (ha : PE X a (simE C W A)) (hb : PE X b (simE C W B)) (hd : PE X d (simE C W D))
    (hm : lastMarks [op, op'] [b, d] = false) : PE X (.Compare a [op, op'] [b, d] pos) (simE C W (eChain r r' A B D)) :=
  PE.imp (pe_chain ho ho' ha hb hd hm) fun σ H Q h => chain_sim h
def tChn (f g : AV → AV → M AV) (a b c : SEm) : STm := fun σ => M.bind (eChain f g a b c σ) aBl
theorem s_tchain {op op' : CmpOp} {r r' : AV → AV → M AV} {a b d : Expr} {A B D : SEm} {pos : Pos} (ho : OpR X (compareOp op) (rS2 C r)) (ho' : OpR X (compareOp op') (rS2 C r')) (ha : PE X a (simE C W A)) (hb : PE X b (simE C W B)) (hd : PE X d (simE C W D))
    (hm : lastMarks [op, op'] [b, d] = false) : PT X (.Compare a [op, op'] [b, d] pos) (simT C W (tChn r r' A B D)) := by
  refine PT.imp (pt_chain ho ho' ha hb hd hm) fun σ H Q h => ?_
  obtain ⟨μ, sa, ah, rs, rh, hp⟩ := sim.step (rel := RV C.K) (m := eChain r r' A B D) (f := fun sa x => aBl x) h
  refine chain_sim ⟨μ, sa, ah, rs, rh, Post.mono hp fun v H1 ⟨μ, sa, ah, a, rs, rh, ra, hp⟩ => ?_⟩
  obtain ⟨k, e, q⟩ := bl_end ra rh hp
  exact ⟨k, e, q⟩
/-! #### argument lists, displays -/
theorem s_anil : PA X [] (simA C W aNil) := PA.imp pa_nil fun σ H Q ⟨μ, sa, ah, rs, rh, hp⟩ => hp μ H [] Fut.refl rh RVs.nil
theorem s_acons {a : Expr} {as : List Expr} {A : SEm} {AS : SAm} (ha : PE X a (simE C W A)) (has : PA X as (simA C W AS)) (hs : starEach (a :: as) X.env = (false, eval a X.env) :: starEach as X.env) : PA X (a :: as) (simA C W (aCons A AS)) := by
  refine PA.imp (pa_cons ha has hs) fun σ H Q h => ?_
  obtain ⟨μ, sa, ah, rs, rh, hp⟩ := sim.step (rel := RV C.K) (m := A) (f := fun sa x => M.bind (AS sa) fun xs => M.pure (x :: xs)) h
  refine ⟨μ, sa, ah, rs, rh, Post.mono hp fun v H1 h1 => ?_⟩
  obtain ⟨μ, sa, ah, rs, rh, hp⟩ := sim.next (rel0 := RV C.K) (rel := RVs C.K) (m := AS) (f := fun sa x xs => M.pure (x :: xs)) (fun f h => RV.fut f _ _ h) h1
  refine ⟨μ, sa, ah, rs, rh, Post.mono hp fun w H2 h2 => ?_⟩
  obtain ⟨μ, sa, ah, x, y, rs, rh, rx, ry, hp⟩ := h2
  exact hp μ H2 _ Fut.refl rh (RVs.cons rx ry)
theorem s_tup {as : List Expr} {AS : SAm} {k : Nat} {pos : Pos} (ha : PA X as (simA C W AS)) (hl : ∀ sa ah xs h, AS sa ah = .ok xs h → xs.length ≤ 16777216) : PE X (.Tuple as k pos) (simE C W (eTup AS)) := by
  refine PE.imp (pe_tup ha) fun σ H Q ⟨μ, sa, ah, rs, rh, hp⟩ => ?_
  refine ⟨μ, sa, ah, rs, rh, ?_⟩
  have hp : Post C _ μ H (RV C.K) ((AS sa ah).bind fun xs => M.pure (.tup xs)) Q := hp
  have hb := Post.bind (rel := RVs C.K) hp
  cases e : AS sa ah with
  | stk => rw [e] at hb; exact hb
  | exc c a h => rw [e] at hb; exact hb
  | ok xs h =>
    rw [e] at hb
    intro μ' H' vs f r rv
    obtain ⟨μ1, a, h1, f1, r1, ra, q⟩ := hb μ' H' vs f r rv
    rw [e] at hp
    have hp : Post C _ μ H (RV C.K) (.ok (AV.tup xs) h) Q := hp
    exact ⟨by rw [rv.length, line_eq]; exact hl _ _ _ _ e, Post.tup r (Post.fut f hp) rv⟩
theorem s_lst {as : List Expr} {AS : SAm} {pos : Pos} (ha : PA X as (simA C W AS)) (hl : ∀ sa ah xs h, AS sa ah = .ok xs h → xs.length ≤ 16777216) : PE X (.List as pos) (simE C W (eLst AS)) := by
  refine PE.imp (pe_lst ha) fun σ H Q ⟨μ, sa, ah, rs, rh, hp⟩ => ?_
  refine ⟨μ, sa, ah, rs, rh, ?_⟩
  have hp : Post C _ μ H (RV C.K) ((AS sa ah).bind fun xs => alloc (.lst xs)) Q := hp
  cases e : AS sa ah with
  | stk => rw [e] at hp; exact hp
  | exc c a h => rw [e] at hp; exact hp
  | ok xs h =>
    rw [e] at hp
    have hp : Post C _ μ H (RV C.K) (alloc (.lst xs) h) Q := hp
    exact fun μ' H' vs f r rv => ⟨by rw [rv.length, line_eq]; exact hl _ _ _ _ e, Post.alloc r (Post.fut f hp) rv⟩
/-! #### calls of built-ins, methods, items, slices -/
theorem s_fnB {id : String} {x : PySem.Str} {e : Expr} {es : List Expr} {f : List AV → M AV} {AS : SAm} {p pos : Pos} (hc : CallR X (.builtin id) (rSL C f)) (hg : Gl X x) (hm : X.mg x = none) (hv : bootBuiltins x = some (.builtin id)) (ha : PA X (e :: es) (simA C W AS)) (hn : x ≠ "__name__")
    (hdb : (x == ("__debug__" : PySem.Str)) = false) (he : starEach (e :: es) X.env = (false, eval e X.env) :: starEach es X.env) (hpl : (backTo pos (starEach es X.env)).any (·.1) = false) : PE X (.Call (.Name x p) (e :: es) [] pos) (simE C W (eFn f AS)) := by
  refine PE.imp (pe_callB hc hg hm hv ha hn hdb he hpl) fun σ H Q h => ?_
  obtain ⟨μ, sa, ah, rs, rh, hp⟩ := sim.step (rel := RVs C.K) (m := AS) (f := fun sa x => f x) h
  exact ⟨μ, sa, ah, rs, rh, Post.mono hp fun v H1 ⟨μ, sa, ah, a, rs, rh, ra, hp⟩ => ⟨_, μ, ah, a, rh, ra, hp⟩⟩
theorem s_fnT {T : String} {x : PySem.Str} {e : Expr} {es : List Expr} {f : List AV → M AV} {AS : SAm} {p pos : Pos} (hc : CallR X (.type T) (rSL C f)) (hg : Gl X x) (hm : X.mg x = none) (hv : bootBuiltins x = some (.type T)) (ha : PA X (e :: es) (simA C W AS)) (hn : x ≠ "__name__")
    (hdb : (x == ("__debug__" : PySem.Str)) = false) (he : starEach (e :: es) X.env = (false, eval e X.env) :: starEach es X.env) (hpl : (backTo pos (starEach es X.env)).any (·.1) = false) : PE X (.Call (.Name x p) (e :: es) [] pos) (simE C W (eFn f AS)) := by
  refine PE.imp (pe_callTy hc hg hm hv ha hn hdb he hpl) fun σ H Q h => ?_
  obtain ⟨μ, sa, ah, rs, rh, hp⟩ := sim.step (rel := RVs C.K) (m := AS) (f := fun sa x => f x) h
  exact ⟨μ, sa, ah, rs, rh, Post.mono hp fun v H1 ⟨μ, sa, ah, a, rs, rh, ra, hp⟩ => ⟨_, μ, ah, a, rh, ra, hp⟩⟩
/-- the abstract value is of a built-in type -/
def tyB (T : String) (a : AV) (h : AH) : Bool := match a with
  | .str _ => T == "str"
  | .int _ => T == "int"
  | .ref n => match h[n]? with
    | some (.lst _) => T == "list"
    | some (.dic _) => T == "dict"
    | _ => false
  | _ => false
theorem tyB_rv {K : PySem.W.Frag} {T : String} {μ : List Addr} {H : Hp} {ah : AH} {a : AV} {v : V} (rh : RelH C μ H ah) (ra : RV C.K μ H a v) (h : tyB T a ah = true) : tyV K T v H := by
  cases a <;> try (cases h)
  · cases ra.intI; exact beq_iff_eq.mp h
  · obtain ⟨rfl, _⟩ := ra.strI; exact beq_iff_eq.mp h
  · rename_i n
    unfold tyB at h
    simp only at h
    split at h
    · rename_i xs e
      obtain ⟨p, vs, rfl, _, h1, _⟩ := rh.lst_of e ra
      exact .inl ⟨beq_iff_eq.mp h, vs, .inl (.inl h1)⟩
    · rename_i kvs e
      simp only [RV] at ra
      obtain ⟨p, rfl, hp⟩ := ra
      obtain ⟨o, ho, hr⟩ := rh.lt hp
      rw [e] at ho; cases ho
      obtain ⟨vs, h1, _⟩ := hr
      exact .inr (.inr (.inl ⟨beq_iff_eq.mp h, .inl ⟨vs, h1⟩⟩))
    · cases h
def eMthT (T : String) (f : AV → List AV → M AV) (o : SEm) (as : SAm) : SEm := fun σ => M.bind (o σ) fun x h => if tyB T x h = true then M.bind (as σ) (fun xs => f x xs) h else .stk
/-- o.m(args), m of the built-in type T -/
theorem s_mth {T id : String} {name : PySem.Str} {o e : Expr} {es : List Expr} {f : AV → List AV → M AV} {O : SEm} {AS : SAm} {apos cpos : Pos} (pa : PlainAttrs T) (slot : Slot T name id) (hty : typeOf (.builtin id) = pure (.type "method_descriptor")) (hm : MtR X id (rMt C f))
    (ho : PE X o (simE C W O)) (ha : PA X (e :: es) (simA C W AS))
    (hbase : attributeBase o name X.env (eval o X.env) = eval o X.env)
    (hfew : ((backTo cpos (starEach (e :: es) X.env)).all (fun x => !x.1) && (backToKw cpos (keywordEach [] X.env)).all (fun x => x.1.isSome) && decide ((e :: es).length + ([] : List Keyword).length + (if ([] : List Keyword).isEmpty then 0 else 1) < 30)) = true)
    (hline : (apos.endLine == cpos.line) = true) (hs : starEach (e :: es) X.env = (false, eval e X.env) :: starEach es X.env) (hplain : (backTo cpos (starEach es X.env)).any (·.1) = false) :
    PE X (.Call (.Attribute o name apos) (e :: es) [] cpos) (simE C W (eMthT T f O AS)) := by
  refine PE.imp (pe_bm pa slot hty hm ho ha hbase hfew hline hs hplain) fun σ H Q h => ?_
  obtain ⟨μ, sa, ah, rs, rh, hp⟩ := sim.step (rel := RV C.K) (m := O) (f := fun sa x h => if tyB T x h = true then M.bind (AS sa) (fun xs => f x xs) h else .stk) h
  refine ⟨μ, sa, ah, rs, rh, Post.mono hp fun v H1 ⟨μ, sa, ah, a, rs, rh, ra, hp⟩ => ?_⟩
  obtain ⟨ht, hp⟩ := Post.ifE' hp
  refine ⟨tyB_rv rh ra ht, μ, sa, ah, rs, rh, Post.mono (Post.bind hp) fun vs H2 h2 => ?_⟩
  obtain ⟨μ2, xs, h2, f2, r2, rx, hp⟩ := h2
  exact ⟨_, μ2, h2, a, xs, r2, RV.fut f2 _ _ ra, rx, hp⟩
theorem s_mth0 {T id : String} {name : PySem.Str} {o : Expr} {f : AV → List AV → M AV} {O : SEm} {apos cpos : Pos} (pa : PlainAttrs T) (slot : Slot T name id) (hty : typeOf (.builtin id) = pure (.type "method_descriptor")) (hm : MtR X id (rMt C f))
    (ho : PE X o (simE C W O)) (hbase : attributeBase o name X.env (eval o X.env) = eval o X.env) (hline : (apos.endLine == cpos.line) = true) :
    PE X (.Call (.Attribute o name apos) [] [] cpos) (simE C W (eMthT T f O aNil)) := by
  refine PE.imp (pe_bm0 pa slot hty hm ho hbase hline) fun σ H Q h => ?_
  obtain ⟨μ, sa, ah, rs, rh, hp⟩ := sim.step (rel := RV C.K) (m := O) (f := fun sa x h => if tyB T x h = true then M.bind (aNil sa) (fun xs => f x xs) h else .stk) h
  refine ⟨μ, sa, ah, rs, rh, Post.mono hp fun v H1 ⟨μ, sa, ah, a, rs, rh, ra, hp⟩ => ?_⟩
  obtain ⟨ht, hp⟩ := Post.ifE' hp
  exact ⟨tyB_rv rh ra ht, _, μ, ah, a, [], rh, ra, RVs.nil, hp⟩
def eAlt (a b : SEm) : SEm := fun σ h => match a σ h with
  | .stk => b σ h
  | r => r
theorem s_alt {e : Expr} {A B : SEm} (ha : PE X e (simE C W A)) (hb : PE X e (simE C W B)) : PE X e (simE C W (eAlt A B)) := by
  refine ⟨fun pins s σ H Q I ⟨μ, sa, ah, rs, rh, hp⟩ => ?_⟩
  unfold eAlt at hp
  split at hp
  · exact hb.run pins s σ H Q I ⟨μ, sa, ah, rs, rh, hp⟩
  · exact ha.run pins s σ H Q I ⟨μ, sa, ah, rs, rh, hp⟩
theorem s_idx {a b : Expr} {A B : SEm} {pos : Pos} (hK : X.K = C.K) (ha : PE X a (simE C W A)) (hb : PE X b (simE C W B)) (hs : PlainIx b) : PE X (.Subscript a b pos) (simE C W (eBin aIdx A B)) := by
  have hr : IxR X (rS2 C aIdx) := viaK (T := fun C => IxR X (rS2 C aIdx)) hK ixr
  refine PE.imp (pe_ix hr ha hb hs) fun σ H Q h => ?_
  obtain ⟨μ, sa, ah, rs, rh, hp⟩ := sim.step (rel := RV C.K) (m := A) (f := fun sa x => M.bind (B sa) fun y => aIdx x y) h
  refine ⟨μ, sa, ah, rs, rh, Post.mono hp fun v H1 h1 => ?_⟩
  obtain ⟨μ, sa, ah, rs, rh, hp⟩ := sim.next (rel0 := RV C.K) (rel := RV C.K) (m := B) (f := fun sa x y => aIdx x y) (fun f h => RV.fut f _ _ h) h1
  refine ⟨μ, sa, ah, rs, rh, Post.mono hp fun w H2 h2 => ?_⟩
  obtain ⟨μ, sa, ah, x, y, rs, rh, rx, ry, hp⟩ := h2
  exact ⟨_, μ, ah, x, y, rh, rx, ry, hp⟩
/-- the bounds of a slice -/
def simO (C : Cf) (W : XW) (m : AS → M (Option Int)) : TO := sim C W (fun _ _ (a b : Option Int) => b = a) m
theorem PO.imp {X : Cx} {e : Option Expr} {t t' : TO} (h : PO X e t) (i : ∀ σ H Q, t' σ H Q → t σ H Q) : PO X e t' := ⟨fun pins s σ H Q I q => h.run pins s σ H Q I (i σ H Q q)⟩
theorem s_onone : PO X none (simO C W oNone) := PO.imp po_none fun σ H Q ⟨μ, sa, ah, rs, rh, hp⟩ => hp μ H _ Fut.refl rh rfl
theorem s_osome {e : Expr} {A : SEm} (ha : PE X e (simE C W A)) : PO X (some e) (simO C W (oSome A)) := by
  refine PO.imp (po_some ha) fun σ H Q h => ?_
  obtain ⟨μ, sa, ah, rs, rh, hp⟩ := sim.step (rel := RV C.K) (m := A) (f := fun sa x h => match x with | .int i => .ok (some i) h | _ => .stk) h
  refine ⟨μ, sa, ah, rs, rh, Post.mono hp fun v H1 ⟨μ, sa, ah, a, rs, rh, ra, hp⟩ => ?_⟩
  cases a <;> try exact (show False from hp).elim
  cases ra.intI
  exact ⟨_, rfl, hp μ H1 _ Fut.refl rh rfl⟩
theorem s_slc {a : Expr} {lo hi : Option Expr} {A : SEm} {L U : AS → M (Option Int)} {p2 pos : Pos} (hK : X.K = C.K) (ha : PE X a (simE C W A)) (hl : PO X lo (simO C W L)) (hu : PO X hi (simO C W U)) : PE X (.Subscript a (.Slice lo hi none p2) pos) (simE C W (eSlc A L U)) := by
  have hr : SlR X (rSlc C) := viaK (T := fun C => SlR X (rSlc C)) hK slr
  refine PE.imp (pe_slice hr ha hl hu) fun σ H Q h => ?_
  obtain ⟨μ, sa, ah, rs, rh, hp⟩ := sim.step (rel := RV C.K) (m := A) (f := fun sa x => M.bind (L sa) fun l => M.bind (U sa) fun u => aSlc x l u) h
  refine ⟨μ, sa, ah, rs, rh, Post.mono hp fun v H1 h1 => ?_⟩
  obtain ⟨μ, sa, ah, a, rs, rh, ra, hp⟩ := h1
  refine ⟨μ, sa, ah, rs, rh, Post.mono (Post.bind hp) fun l H2 h2 => ?_⟩
  obtain ⟨μ2, l2, h2, f2, r2, el, hp⟩ := h2
  have el : l = l2 := el
  subst el
  refine ⟨μ2, sa, h2, rs.fut f2, r2, Post.mono (Post.bind hp) fun u H3 h3 => ?_⟩
  obtain ⟨μ3, u2, h3, f3, r3, eu, hp⟩ := h3
  have eu : u = u2 := eu
  subst eu
  exact ⟨_, μ3, h3, a, r3, RV.fut f3 _ _ (RV.fut f2 _ _ ra), hp⟩
def aNeg (a : AV) : M AV := fun h => match a with
  | .int i => .ok (.int (-i)) h
  | _ => .stk
theorem s_neg {a : Expr} {A : SEm} {pos : Pos} (ha : PE X a (simE C W A)) : PE X (.UnaryOp .USub a pos) (simE C W (eUn aNeg A)) := by
  refine PE.imp (pe_un un_neg ha) fun σ H Q h => ?_
  obtain ⟨μ, sa, ah, rs, rh, hp⟩ := sim.step (rel := RV C.K) (m := A) (f := fun sa x => aNeg x) h
  refine ⟨μ, sa, ah, rs, rh, Post.mono hp fun v H1 ⟨μ, sa, ah, a, rs, rh, ra, hp⟩ => ?_⟩
  cases a <;> try exact (show False from hp).elim
  cases ra.intI
  exact ⟨_, rfl, Post.val rh hp rv_int⟩
end
end Z

set_option maxHeartbeats 2000000
namespace Z
open PySem PySem.Spec PyProof.Rows L2
/-! ### what is walked -/
structure Src where
  len : Nat
  src : Nat → AH → Option (Option AV)
abbrev SSrc := AS → M Src
structure SrcOk (C : Cf) (J : It) (s : Src) (P : List Addr → Hp → Prop) : Prop where
  mono : ∀ {μ H μ' H'}, Fut μ H μ' H' → P μ H → P μ' H'
  stop : ∀ i μ H ah, RelH C μ H ah → P μ H → s.src i ah = some none → J.stop i H
  go : ∀ i μ H ah a, RelH C μ H ah → P μ H → s.src i ah = some (some a) → J.go i H ∧ ∀ x H', J.yld i H x H' → Fut μ H μ H' ∧ RelH C μ H' ah ∧ RV C.K μ H' a x
def relSrc (C : Cf) : Rel Src It := fun μ H s J => ∃ P, P μ H ∧ SrcOk C J s P
def simI (C : Cf) (W : XW) (m : SSrc) : TI := fun σ H R => ∃ μ sa ah, RelS C.K μ H sa σ ∧ RelH C μ H ah ∧ Post C (fun c d H => W c d σ H) μ H (relSrc C) (m sa ah) R
theorem PI.imp {X : Cx} {tg e : Expr} {t t' : TI} (h : PI X tg e t) (i : ∀ σ H Q, t' σ H Q → t σ H Q) : PI X tg e t' := ⟨fun pins s σ H Q I q => h.run pins s σ H Q I (i σ H Q q)⟩
/-- the source of a value that can be walked by itself -/
def srcOf (a : AV) : M Src := fun h => match a with
  | .tup xs => .ok ⟨xs.length, fun i _ => some xs[i]?⟩ h
  | .str x => .ok ⟨x.length, fun i _ => some (x[i]?.map fun c => .str [c])⟩ h
  | .lsc ns => .ok ⟨ns.length, fun i _ => some (ns[i]?.map .int)⟩ h
  | .ref n => (match h[n]? with
    | some (.lst xs) => .ok ⟨xs.length, fun i h => match h[n]? with
      | some (.lst ys) => if ys.length = xs.length then some ys[i]? else none
      | _ => none⟩ h
    | _ => .stk)
  | _ => .stk
def iVal (A : SEm) : SSrc := fun σ => M.bind (A σ) srcOf
def iRange1 (A : SAm) : SSrc := fun σ => M.bind (A σ) fun xs h => match xs with
  | [.int j] => if -1000000000 ≤ j ∧ j ≤ 1000000000 then .ok ⟨j.toNat, fun i _ => some (if i < j.toNat then some (.int i) else none)⟩ h else .stk
  | _ => .stk
def iRange2 (A : SAm) : SSrc := fun σ => M.bind (A σ) fun xs h => match xs with
  | [.int j, .int k] => if (-1000000000 ≤ j ∧ j ≤ 1000000000) ∧ -1000000000 ≤ k ∧ k ≤ 1000000000 then .ok ⟨(k - j).toNat, fun i _ => some (if i < (k - j).toNat then some (.int (j + i)) else none)⟩ h else .stk
  | _ => .stk
section
variable {X : Cx} {C : Cf} {W : XW} {tg : Expr}
theorem srcOk_tup {a : Addr} {xs : List AV} : SrcOk C (Itt C.K a) ⟨xs.length, fun i _ => some xs[i]?⟩ fun μ H => ∃ vs, SqT C.K H a vs ∧ RVs C.K μ H xs vs := by
  refine ⟨fun f ⟨vs, h1, h2⟩ => ⟨vs, SqT.fut f h1, RVs.fut f _ _ h2⟩, fun i μ H ah rh ⟨vs, h1, h2⟩ e => ?_, fun i μ H ah b rh ⟨vs, h1, h2⟩ e => ?_⟩
  · have e : xs[i]? = none := Option.some.inj e
    exact ⟨vs, h1, by rw [h2.length]; exact List.getElem?_eq_none_iff.mp e⟩
  · have e : xs[i]? = some b := Option.some.inj e
    obtain ⟨v, e1, r⟩ := RVs.get h2 e
    refine ⟨⟨vs, v, h1, e1⟩, fun x H' ⟨y1, y2⟩ => ?_⟩
    subst y1
    have := y2 vs h1
    rw [e1] at this
    cases this
    exact ⟨Fut.refl, rh, r⟩
theorem srcOk_str {x : List Nat} (hx : ∀ c ∈ x, c < 1114112) : SrcOk C (Its (mkS x)) ⟨x.length, fun i _ => some (x[i]?.map fun c => .str [c])⟩ fun _ _ => True := by
  refine ⟨fun _ _ => trivial, fun i μ H ah rh _ e => ?_, fun i μ H ah b rh _ e => ?_⟩
  · have e : (x[i]?.map fun c => AV.str [c]) = none := Option.some.inj e
    show (mkS x).cps.size ≤ i
    have : x[i]? = none := by simpa using e
    simpa using List.getElem?_eq_none_iff.mp this
  · have e : (x[i]?.map fun c => AV.str [c]) = some b := Option.some.inj e
    cases h : x[i]? with
    | none => rw [h] at e; cases e
    | some c =>
      rw [h] at e
      cases e
      refine ⟨?_, fun v H' ⟨y1, c', y2, y3⟩ => ?_⟩
      · show i < (mkS x).cps.size
        simpa using (List.getElem?_eq_some_iff.mp h).1
      · subst y1 y3
        have : (mkS x).cps[i]? = x[i]? := by simp
        rw [this, h] at y2
        cases y2
        exact ⟨Fut.refl, rh, rv_str fun d hd => by
          have : d = c := by simpa using hd
          subst this
          exact hx _ (List.mem_of_getElem? h)⟩
theorem srcOk_lsc {a : Addr} {ns : List Int} : SrcOk C (Itl C.K a) ⟨ns.length, fun i _ => some (ns[i]?.map .int)⟩ fun _ H => SqF C.K H a (ns.map V.int) := by
  refine ⟨fun f h => SqF.fut f h, fun i μ H ah rh h e => ?_, fun i μ H ah b rh h e => ?_⟩
  · have e : (ns[i]?.map AV.int) = none := Option.some.inj e
    exact ⟨_, h.sq, by simpa using e⟩
  · have e : (ns[i]?.map AV.int) = some b := Option.some.inj e
    cases hn : ns[i]? with
    | none => rw [hn] at e; cases e
    | some c =>
      rw [hn] at e
      cases e
      have e1 : (ns.map V.int)[i]? = some (.int c) := by rw [List.getElem?_map, hn]; rfl
      refine ⟨⟨_, _, h.sq, e1⟩, fun x H' ⟨y1, y2⟩ => ?_⟩
      subst y1
      have := y2 _ h.sq
      rw [e1] at this
      cases this
      exact ⟨Fut.refl, rh, rv_int⟩
theorem srcOk_lst {a : Addr} {n len : Nat} : SrcOk C (Itl C.K a) ⟨len, fun i h => match h[n]? with
      | some (.lst ys) => if ys.length = len then some ys[i]? else none
      | _ => none⟩ fun μ _ => μ[n]? = some a := by
  have key : ∀ {i : Nat} {μ : List Addr} {H : Hp} {ah : AH} {r : Option AV}, RelH C μ H ah → μ[n]? = some a → (match ah[n]? with
      | some (.lst ys) => if ys.length = len then some ys[i]? else none
      | _ => none) = some r → ∃ ys vs, SqL C.K H a vs ∧ RVs C.K μ H ys vs ∧ ys[i]? = r := fun {i μ H ah r} rh hn e => by
    split at e
    · rename_i ys hy
      split at e
      · obtain ⟨p, vs, e1, e2, h1, h2⟩ := rh.lst_of hy (v := .ref a) (by simp only [RV]; exact ⟨a, rfl, hn⟩)
        cases e1
        exact ⟨ys, vs, .inl (.inl h1), h2, Option.some.inj e⟩
      · cases e
    · cases e
  refine ⟨fun f h => f.pre _ _ h, fun i μ H ah rh h e => ?_, fun i μ H ah b rh h e => ?_⟩
  · obtain ⟨ys, vs, h1, h2, e⟩ := key rh h e
    exact ⟨vs, h1, by rw [h2.length]; exact List.getElem?_eq_none_iff.mp e⟩
  · obtain ⟨ys, vs, h1, h2, e⟩ := key rh h e
    obtain ⟨v, e1, r⟩ := RVs.get h2 e
    refine ⟨⟨vs, v, h1, e1⟩, fun x H' ⟨y1, y2⟩ => ?_⟩
    subst y1
    have := y2 vs h1
    rw [e1] at this
    cases this
    exact ⟨Fut.refl, rh, r⟩
theorem srcOk_rng {lo : Int} {n : Nat} : SrcOk C (Itr lo n) ⟨n, fun i _ => some (if i < n then some (.int (lo + i)) else none)⟩ fun _ _ => True := by
  refine ⟨fun _ _ => trivial, fun i μ H ah rh _ e => ?_, fun i μ H ah b rh _ e => ?_⟩
  · have e : (if i < n then some (AV.int (lo + i)) else none) = none := Option.some.inj e
    split at e
    · cases e
    · exact Nat.le_of_not_lt (by assumption)
  · have e : (if i < n then some (AV.int (lo + i)) else none) = some b := Option.some.inj e
    split at e
    · cases e
      refine ⟨by assumption, fun x H' ⟨y1, y2⟩ => ?_⟩
      subst y1 y2
      exact ⟨Fut.refl, rh, rv_int⟩
    · cases e
/-- a value walked by itself -/
theorem s_ival {e : Expr} {A : SEm} (hK : X.K = C.K) (ha : PE X e (simE C W A)) : PI X tg e (simI C W (iVal A)) := by
  refine ⟨fun pins s σ H R I h => ?_⟩
  obtain ⟨μ, sa, ah, rs, rh, hp⟩ := h
  have hp : Post C _ μ H (relSrc C) ((A sa ah).bind srcOf) R := hp
  have fin : ∀ {TI : TI}, PI X tg e TI → TI σ H R → wpAny (model X.prog X.w) X.A (eval e X.env) (fun v s1 => wpAny (model X.prog X.w) X.A (pyIter v) (PIE X pins σ tg R) X.xe s1) X.xe s := fun hq ht => hq.run pins s σ H R I ht
  have hb := Post.bind (rel := RV C.K) hp
  cases hA : A sa ah with
  | stk => rw [hA] at hb; exact (show False from hb).elim
  | exc c a h =>
    rw [hA] at hb
    refine fin (pi_list ha) ⟨μ, sa, ah, rs, rh, ?_⟩
    rw [hA]
    exact hb
  | ok a h1 =>
    rw [hA] at hp
    have hp : Post C _ μ H (relSrc C) (srcOf a h1) R := hp
    unfold srcOf at hp
    cases a
    case tup xs =>
      refine fin (pi_tup ha) ⟨μ, sa, ah, rs, rh, ?_⟩
      rw [hA]
      intro μ' H' v f r rv
      obtain ⟨p, vs, rfl, h2, h3⟩ := rv.tupI
      exact ⟨p, rfl, ⟨vs, by rw [hK]; exact h2⟩, by rw [hK]; exact hp μ' H' _ f r ⟨_, ⟨vs, h2, h3⟩, srcOk_tup⟩⟩
    case str x =>
      refine fin (pi_str ha) ⟨μ, sa, ah, rs, rh, ?_⟩
      rw [hA]
      intro μ' H' v f r rv
      obtain ⟨rfl, hx⟩ := rv.strI
      exact ⟨_, rfl, hp μ' H' _ f r ⟨_, trivial, srcOk_str hx⟩⟩
    case lsc ns =>
      refine fin (pi_list ha) ⟨μ, sa, ah, rs, rh, ?_⟩
      rw [hA]
      intro μ' H' v f r rv
      simp only [RV] at rv
      obtain ⟨p, rfl, h2⟩ := rv
      exact ⟨p, rfl, ⟨_, by rw [hK]; exact h2.sq⟩, by rw [hK]; exact hp μ' H' _ f r ⟨_, h2, srcOk_lsc⟩⟩
    case ref n =>
      simp only at hp
      split at hp
      · rename_i xs hx
        refine fin (pi_list ha) ⟨μ, sa, ah, rs, rh, ?_⟩
        rw [hA]
        intro μ' H' v f r rv
        obtain ⟨p, vs, rfl, hn, h2, _⟩ := r.lst_of hx rv
        exact ⟨p, rfl, ⟨vs, .inl (.inl h2)⟩, by rw [hK]; exact hp μ' H' _ f r ⟨_, hn, srcOk_lst⟩⟩
      · exact (show False from hp).elim
    all_goals exact (show False from hp).elim
theorem s_irange1 {a : Expr} {A : SAm} {p pos : Pos} (hg : Gl X "range") (hm : X.mg "range" = none) (ha : PA X [a] (simA C W A)) (hs : starEach [a] X.env = [(false, eval a X.env)]) : PI X tg (.Call (.Name "range" p) [a] [] pos) (simI C W (iRange1 A)) := by
  refine PI.imp (pi_range1 hg hm ha hs) fun σ H R h => ?_
  obtain ⟨μ, sa, ah, rs, rh, hp⟩ := h
  refine ⟨μ, sa, ah, rs, rh, Post.mono (Post.bind hp) fun vs H1 ⟨μ1, xs, h1, f1, r1, rx, hp⟩ => ?_⟩
  split at hp
  · rename_i j
    obtain ⟨v, rfl, h1⟩ := rx.one
    cases h1.intI
    obtain ⟨hl, hp⟩ := Post.ifE' hp
    refine ⟨j, rfl, by omega, by omega, hp μ1 H1 _ Fut.refl r1 ⟨fun _ _ => True, trivial, ?_⟩⟩
    have := srcOk_rng (C := C) (lo := 0) (n := j.toNat)
    simpa using this
  · exact (show False from hp).elim
theorem s_irange2 {a b : Expr} {A : SAm} {p pos : Pos} (hg : Gl X "range") (hm : X.mg "range" = none) (ha : PA X [a, b] (simA C W A)) (hs : starEach [a, b] X.env = [(false, eval a X.env), (false, eval b X.env)]) (hs2 : starEach [b] X.env = [(false, eval b X.env)]) : PI X tg (.Call (.Name "range" p) [a, b] [] pos) (simI C W (iRange2 A)) := by
  refine PI.imp (pi_range2 hg hm ha hs hs2) fun σ H R h => ?_
  obtain ⟨μ, sa, ah, rs, rh, hp⟩ := h
  refine ⟨μ, sa, ah, rs, rh, Post.mono (Post.bind hp) fun vs H1 ⟨μ1, xs, h1, f1, r1, rx, hp⟩ => ?_⟩
  split at hp
  · rename_i j k
    obtain ⟨v, w, rfl, h1, h2⟩ := rx.two
    cases h1.intI
    cases h2.intI
    obtain ⟨hl, hp⟩ := Post.ifE' hp
    exact ⟨j, k, rfl, ⟨by omega, by omega, by omega, by omega⟩, hp μ1 H1 _ Fut.refl r1 ⟨_, trivial, srcOk_rng⟩⟩
  · exact (show False from hp).elim
end

/-! ### targets -/
abbrev SGm := AV → AS → M AS
def gNm (i : Nat) : SGm := fun a σ => M.pure (σ.set i (some a))
def goGs : List SGm → List AV → AS → M AS
  | g :: gs, a :: as, σ => M.bind (g a σ) fun σ => goGs gs as σ
  | _, _, σ => M.pure σ
/-- a, b, .. = a tuple -/
def gTp (gs : List SGm) : SGm := fun a σ h => match a with
    | .tup xs => if xs.length = gs.length then goGs gs xs σ h else .stk
    | _ => .stk
/-- o[i] = a -/
def aSet (o i a : AV) : M Unit := fun h => match o, i with
  | .ref n, .int k => (match h[n]? with
    | some (.lst xs) => (match ixN xs.length k with
      | some j => .ok () (h.set n (.lst (xs.set j a)))
      | none => .stk)
    | _ => .stk)
  | _, _ => .stk
def gIx (O I : SEm) : SGm := fun a σ => M.bind (O σ) fun o => M.bind (I σ) fun i => M.bind (aSet o i a) fun _ => M.pure σ
/-- the slots a comprehension may touch: vs; all: none told -/
def Bw (vs : Option (List Nat)) (σ σ' : St) : Prop := match vs with
  | none => True
  | some vs => wipe σ' vs = wipe σ vs
def relSB (K : PySem.W.Frag) (vs : Option (List Nat)) (σ : St) : Rel AS St := fun μ H sa σ' => RelS K μ H sa σ' ∧ Bw vs σ σ'
def simG (C : Cf) (W : XW) (vs : Option (List Nat)) (g : SGm) : TG := fun v σ H Q => ∃ μ sa ah a, RelS C.K μ H sa σ ∧ RelH C μ H ah ∧ RV C.K μ H a v ∧ Post C (fun c d H => ∀ σ, W c d σ H) μ H (relSB C.K vs σ) (g a sa ah) Q
theorem Bw.refl {vs : Option (List Nat)} {σ : St} : Bw vs σ σ := by cases vs <;> simp [Bw]
theorem Bw.trans {vs : Option (List Nat)} {σ σ1 σ2 : St} (a : Bw vs σ σ1) (b : Bw vs σ1 σ2) : Bw vs σ σ2 := by
  cases vs with
  | none => trivial
  | some vs => exact (show wipe σ2 vs = wipe σ1 vs from b).trans a
theorem wipe_set {i : Nat} {o : Option V} {σ : St} : ∀ {vs : List Nat}, i ∈ vs → wipe (σ.set i o) vs = wipe σ vs
  | v :: vs, h => by
    unfold wipe
    rcases List.mem_cons.mp h with rfl | h
    · have : ∀ vs : List Nat, (wipe (σ.set i o) vs).set i none = (wipe σ vs).set i none := by
        intro vs
        induction vs with
        | nil => simp [wipe, List.set_set]
        | cons w vs ih =>
          simp only [wipe]
          by_cases e : w = i
          · subst e
            simp only [List.set_set]
            exact ih
          · rw [List.set_comm _ _ e, List.set_comm _ _ e, ih]
      exact this vs
    · rw [wipe_set h]
theorem Bw.set {vs : Option (List Nat)} {σ : St} {i : Nat} {v : V} (h : ∀ l, vs = some l → i ∈ l) : Bw vs σ (σ.set i (some v)) := by
  cases vs with
  | none => trivial
  | some vs => exact wipe_set (h vs rfl)
theorem PG.imp {X : Cx} {e : Expr} {t t' : TG} (h : PG X e t) (i : ∀ v σ H Q, t' v σ H Q → t v σ H Q) : PG X e t' := ⟨fun pins s σ H v u Q I r q => h.run pins s σ H v u Q I r (i v σ H Q q)⟩
section
variable {X : Cx} {C : Cf} {W : XW}
theorem s_gnm {vs : Option (List Nat)} {i : Nat} {x : PySem.Str} {pos : Pos} (hN : X.N.Nodup) (hi : X.N[i]? = some x) (hx : Loc X.env.scope x) (hf : X.fn x = true ∨ X.env.scope.names.lookup x = some .local) (hv : ∀ l, vs = some l → i ∈ l) : PG X (.Name x pos) (simG C W vs (gNm i)) := by
  refine PG.imp (pg_name hN hi hx hf) fun v σ H Q ⟨μ, sa, ah, a, rs, rh, ra, hp⟩ => ?_
  exact hp μ H _ Fut.refl rh ⟨rs.set i ra, Bw.set hv⟩
theorem Post.weakE {α β : Type} {C : Cf} {E E' : XK} {μ : List Addr} {H : Hp} {rel : Rel α β} {r : R α} {Q : β → Hp → Prop} (h : Post C E μ H rel r Q) (i : ∀ c d H, E c d H → E' c d H) : Post C E' μ H rel r Q := by
  cases r with
  | ok a ah => exact h
  | exc c a ah => exact fun μ2 H2 d v f1 r1 r2 e => i _ _ _ (h μ2 H2 d v f1 r1 r2 e)
  | stk => exact h
theorem Post.relI {α β : Type} {C : Cf} {E : XK} {μ : List Addr} {H : Hp} {rel rel' : Rel α β} {r : R α} {Q : β → Hp → Prop} (h : Post C E μ H rel r Q) (i : ∀ μ H a b, rel' μ H a b → rel μ H a b) : Post C E μ H rel' r Q := by
  cases r with
  | ok a ah => exact fun μ2 H2 v f1 r1 r2 => h μ2 H2 v f1 r1 (i _ _ _ _ r2)
  | exc c a ah => exact h
  | stk => exact h
/-- several targets -/
def simGs (C : Cf) (W : XW) (vs : Option (List Nat)) (gs : List SGm) : TGs := fun us σ H Q => ∃ μ sa ah as, RelS C.K μ H sa σ ∧ RelH C μ H ah ∧ RVs C.K μ H as us ∧ as.length = gs.length ∧ Post C (fun c d H => ∀ σ, W c d σ H) μ H (relSB C.K vs σ) (goGs gs as sa ah) Q
theorem PGs.imp {X : Cx} {e : List Expr} {t t' : TGs} (h : PGs X e t) (i : ∀ v σ H Q, t' v σ H Q → t v σ H Q) : PGs X e t' := ⟨fun pins s σ H v u Q I r q => h.run pins s σ H v u Q I r (i v σ H Q q)⟩
theorem s_gsnil {vs : Option (List Nat)} : PGs X [] (simGs C W vs []) := by
  refine PGs.imp pgs_nil fun us σ H Q ⟨μ, sa, ah, as, rs, rh, ra, hl, hp⟩ => ?_
  cases as with
  | cons => cases hl
  | nil =>
    simp only [RVs] at ra
    exact ⟨ra, hp μ H _ Fut.refl rh ⟨rs, Bw.refl⟩⟩
theorem s_gscons {vs : Option (List Nat)} {e : Expr} {es : List Expr} {g : SGm} {gs : List SGm} (h1 : PG X e (simG C W vs g)) (h2 : PGs X es (simGs C W vs gs)) (hs : (assignEach (e :: es) X.env).map (·.2) = assign e X.env :: (assignEach es X.env).map (·.2)) : PGs X (e :: es) (simGs C W vs (g :: gs)) := by
  refine PGs.imp (pgs_cons h1 h2 hs) fun us σ H Q ⟨μ, sa, ah, as, rs, rh, ra, hl, hp⟩ => ?_
  cases as with
  | nil => cases hl
  | cons a as =>
    simp only [RVs] at ra
    obtain ⟨v, ws, rfl, r1, r2⟩ := ra
    refine ⟨v, ws, rfl, μ, sa, ah, a, rs, rh, r1, Post.mono (Post.bind (rel := relSB C.K vs σ) hp) fun σ1 H1 ⟨μ1, sa1, h1, f1, rh1, rs1, hp⟩ => ?_⟩
    refine ⟨μ1, sa1, h1, as, rs1.1, rh1, RVs.fut f1 _ _ r2, by simpa using hl, ?_⟩
    have := rs1.2
    exact Post.relI hp fun μ2 H2 sa2 σ2 q => ⟨q.1, this.trans q.2⟩
theorem s_gtup {vs : Option (List Nat)} {es : List Expr} {k : Nat} {pos : Pos} {gs : List SGm} (hK : X.K = C.K) (hc : X.calm = true) (h : PGs X es (simGs C W vs gs)) (hn : (assignEach es X.env).length = gs.length) (hst : (assignEach es X.env).findIdx? (·.1) = none) : PG X (.Tuple es k pos) (simG C W vs (gTp gs)) := by
  refine PG.imp (pg_tup hc h hn hst) fun v σ H Q ⟨μ, sa, ah, a, rs, rh, ra, hp⟩ => ?_
  unfold gTp at hp
  split at hp
  · rename_i xs
    obtain ⟨hl, hp⟩ := Post.ifE' hp
    obtain ⟨p, vs, rfl, h1, r1⟩ := ra.tupI
    exact ⟨p, vs, rfl, by rw [hK]; exact h1, by rw [r1.length]; exact hl, μ, sa, ah, xs, rs, rh, r1, hl, hp⟩
  · exact (show False from hp).elim
theorem ixN_lt {n : Nat} {i : Int} {j : Nat} (h : ixN n i = some j) : j < n := (ixN_seq h).2.1
theorem s_gix {o i : Expr} {O I : SEm} {pos : Pos} (ho : PE X o (simE C W O)) (hi : PE X i (simE C W I))
    (ha : ∀ v, assign (.Subscript o i pos) X.env v = (do
      let ov ← holding [v] (eval o X.env)
      let iv ← holding [v, ov] (eval i X.env)
      standAt pos
      holding [v, ov, iv] (setItem ov iv v)
      release [v, ov, iv] [])) : PG X (.Subscript o i pos) (simG C W none (gIx O I)) := by
  refine PG.imp (pg_sub ho hi set_list ha) fun v σ H Q ⟨μ, sa, ah, a, rs, rh, ra, hp⟩ => ?_
  refine ⟨μ, sa, ah, rs, rh, Post.mono (Post.weakE (Post.bind (rel := RV C.K) (r := O sa ah) (f := fun o => M.bind (I sa) fun i => M.bind (aSet o i a) fun _ => M.pure sa) hp) fun c d H e => e σ) fun vo H1 ⟨μ1, ao, h1, f1, rh1, ro, hp⟩ => ?_⟩
  refine ⟨μ1, sa, h1, rs.fut f1, rh1, Post.mono (Post.weakE (Post.bind (rel := RV C.K) (r := I sa h1) (f := fun i => M.bind (aSet ao i a) fun _ => M.pure sa) hp) fun c d H e => e σ) fun vi H2 ⟨μ2, ai, h2, f2, rh2, ri, hp⟩ => ?_⟩
  have hp : Post C _ μ2 H2 (relSB C.K none σ) ((aSet ao ai a h2).bind fun _ => M.pure sa) Q := hp
  have ra2 := RV.fut (f1.trans f2) _ _ ra
  have ro2 := RV.fut f2 _ _ ro
  unfold aSet at hp
  cases ao with
  | ref n => cases ai with
    | int k =>
      simp only at hp
      split at hp
      · rename_i xs hx
        split at hp
        · rename_i j hj
          cases ri.intI
          obtain ⟨p, vs, rfl, hn, h3, r3⟩ := rh2.lst_of hx ro2
          refine ⟨p, vs, k, j, rfl, rfl, h3, by rw [r3.length]; exact hj, ?_⟩
          have f := rh2.futset (o := .lst (vs.set j v)) hn
          exact hp μ2 _ _ f (rh2.set hn ⟨_, upd_same, RVs.fut f _ _ (r3.set j ra2)⟩) ⟨(rs.fut (f1.trans f2)).fut f, trivial⟩
        · exact (show False from hp).elim
      · exact (show False from hp).elim
    | _ => exact (show False from hp).elim
  | _ => exact (show False from hp).elim
end
/-! ### statements -/
inductive Fl where
  | nx (σ : AS) | rt (v : AV) | bk (σ : AS) | ct (σ : AS)
abbrev SSm := AS → M Fl
def PostS (C : Cf) (W : XW) (μ : List Addr) (H : Hp) (r : R Fl) (D : Ends) : Prop := match r with
  | .ok (.nx sa) h => ∀ μ' H' σ', Fut μ H μ' H' → RelH C μ' H' h → RelS C.K μ' H' sa σ' → D.nx σ' H'
  | .ok (.rt a) h => ∀ μ' H' v, Fut μ H μ' H' → RelH C μ' H' h → RV C.K μ' H' a v → D.rt v H'
  | .ok (.bk sa) h => ∀ μ' H' σ', Fut μ H μ' H' → RelH C μ' H' h → RelS C.K μ' H' sa σ' → D.bk σ' H'
  | .ok (.ct sa) h => ∀ μ' H' σ', Fut μ H μ' H' → RelH C μ' H' h → RelS C.K μ' H' sa σ' → D.ct σ' H'
  | .exc c a h => ∀ μ' H' d v, Fut μ H μ' H' → RelH C μ' H' h → RV C.K μ' H' a v → H' d = some (.xd [(C.fld c, v)]) → ∀ σ, W (.ref (C.cls c)) (some d) σ H'
  | .stk => False
def simS (C : Cf) (W : XW) (m : SSm) : TS := fun D σ H => ∃ μ sa ah, RelS C.K μ H sa σ ∧ RelH C μ H ah ∧ PostS C W μ H (m sa ah) D
section
variable {X : Cx} {C : Cf} {W : XW} {μ μ' : List Addr} {H H' : Hp}
theorem PostS.fut {r : R Fl} {D : Ends} (f : Fut μ H μ' H') (h : PostS C W μ H r D) : PostS C W μ' H' r D := by
  cases r with
  | ok a ah => cases a <;> exact fun μ2 H2 v g => h μ2 H2 v (f.trans g)
  | exc c a ah => exact fun μ2 H2 d v g => h μ2 H2 d v (f.trans g)
  | stk => exact h
theorem PostS.bind {α β : Type} {rel : Rel α β} {r : R α} {f : α → M Fl} {D : Ends} (h : PostS C W μ H (r.bind f) D) (σ : St) :
    Post C (fun c d H => W c d σ H) μ H rel r fun v H1 => ∃ μ1 a h1, Fut μ H μ1 H1 ∧ RelH C μ1 H1 h1 ∧ rel μ1 H1 a v ∧ PostS C W μ1 H1 (f a h1) D := by
  cases r with
  | ok a ah => exact fun μ1 H1 v g r1 r2 => ⟨μ1, a, ah, g, r1, r2, PostS.fut g h⟩
  | exc c a ah => exact fun μ2 H2 d v f1 r1 r2 e => h μ2 H2 d v f1 r1 r2 e σ
  | stk => exact h
theorem PostS.bindG {β : Type} {rel : Rel AS β} {r : R AS} {f : AS → M Fl} {D : Ends} (h : PostS C W μ H (r.bind f) D) :
    Post C (fun c d H => ∀ σ, W c d σ H) μ H rel r fun v H1 => ∃ μ1 a h1, Fut μ H μ1 H1 ∧ RelH C μ1 H1 h1 ∧ rel μ1 H1 a v ∧ PostS C W μ1 H1 (f a h1) D := by
  cases r with
  | ok a ah => exact fun μ1 H1 v g r1 r2 => ⟨μ1, a, ah, g, r1, r2, PostS.fut g h⟩
  | exc c a ah => exact h
  | stk => exact h
def sNil : SSm := fun σ => M.pure (.nx σ)
def sSeq (a b : SSm) : SSm := fun σ => M.bind (a σ) fun f => match f with
  | .nx σ => b σ
  | f => M.pure f
def sAsg (A : SEm) (g : SGm) : SSm := fun σ => M.bind (A σ) fun a => M.bind (g a σ) fun σ => M.pure (.nx σ)
def sDrop (A : SEm) : SSm := fun σ => M.bind (A σ) fun _ => M.pure (.nx σ)
def sRet (A : SEm) : SSm := fun σ => M.bind (A σ) fun a => M.pure (.rt a)
def sRetN : SSm := fun _ => M.pure (.rt .non)
def sIf (t : STm) (a b : SSm) : SSm := fun σ => M.bind (t σ) fun c => if c = true then a σ else b σ
def sBrk : SSm := fun σ => M.pure (.bk σ)
def sCnt : SSm := fun σ => M.pure (.ct σ)
theorem s_nil : PSs X [] (simS C W sNil) := PSs.imp pss_nil fun σ H D ⟨μ, sa, ah, rs, rh, hp⟩ => hp μ H σ Fut.refl rh rs
theorem s_pass {pos : Pos} : PS X (.Pass pos) (simS C W sNil) := PS.imp ps_pass fun σ H D ⟨μ, sa, ah, rs, rh, hp⟩ => hp μ H σ Fut.refl rh rs
theorem s_brk {pos : Pos} : PS X (.Break pos) (simS C W sBrk) := PS.imp ps_break fun σ H D ⟨μ, sa, ah, rs, rh, hp⟩ => hp μ H σ Fut.refl rh rs
theorem s_cnt {pos : Pos} : PS X (.Continue pos) (simS C W sCnt) := PS.imp ps_continue fun σ H D ⟨μ, sa, ah, rs, rh, hp⟩ => hp μ H σ Fut.refl rh rs
theorem s_cons {st : Stmt} {r : List Stmt} {A B : SSm} (h1 : PS X st (simS C W A)) (h2 : PSs X r (simS C W B)) : PSs X (st :: r) (simS C W (sSeq A B)) := by
  refine PSs.imp (pss_cons h1 h2) fun σ H D ⟨μ, sa, ah, rs, rh, hp⟩ => ?_
  refine ⟨μ, sa, ah, rs, rh, ?_⟩
  have hp : PostS C W μ H ((A sa ah).bind fun f => match f with
    | .nx σ => B σ
    | f => M.pure f) D := hp
  cases e : A sa ah with
  | stk => rw [e] at hp; exact hp
  | exc c a h => rw [e] at hp; exact hp
  | ok f h =>
    rw [e] at hp
    cases f with
    | nx sa' =>
      have hp : PostS C W μ H (B sa' h) D := hp
      exact fun μ' H' σ' g r1 r2 => ⟨μ', sa', h, r2, r1, PostS.fut g hp⟩
    | rt a => exact hp
    | bk a => exact hp
    | ct a => exact hp
theorem s_sone {st : Stmt} {A : SSm} (h1 : PS X st (simS C W A)) : PSs X [st] (simS C W A) := PSs.imp (pss_one h1) fun _ _ _ h => h
theorem s_asg {tg e : Expr} {A : SEm} {g : SGm} {pos : Pos} (he : PE X e (simE C W A)) (hg : PG X tg (simG C W none g)) (hs : swapsWithSole [tg] e pos.line X.env = pure false) (hw : swappedStores [tg] e X.env = pure none)
    (h1 : (assignEach [tg] X.env).map (·.2) = [assign tg X.env]) : PS X (.Assign [tg] e pos) (simS C W (sAsg A g)) := by
  refine PS.imp (ps_asg he hg hs hw h1) fun σ H D ⟨μ, sa, ah, rs, rh, hp⟩ => ?_
  refine ⟨μ, sa, ah, rs, rh, Post.mono (PostS.bind (rel := RV C.K) hp σ) fun v H1 ⟨μ1, a, h1, f1, r1, ra, hp⟩ => ?_⟩
  refine ⟨μ1, sa, h1, a, rs.fut f1, r1, ra, Post.mono (PostS.bindG (rel := relSB C.K none σ) hp) fun σ2 H2 ⟨μ2, sa2, h2, f2, r2, ⟨rs2, _⟩, hp⟩ => ?_⟩
  exact hp μ2 H2 σ2 Fut.refl r2 rs2
theorem s_drop {e : Expr} {A : SEm} {pos : Pos} (he : PE X e (simE C W A)) (hs : swapsWith e none pos.line X.env = pure false) : PS X (.Expr e pos) (simS C W (sDrop A)) := by
  refine PS.imp (ps_expr he hs) fun σ H D ⟨μ, sa, ah, rs, rh, hp⟩ => ?_
  refine ⟨μ, sa, ah, rs, rh, Post.mono (PostS.bind (rel := RV C.K) hp σ) fun v H1 ⟨μ1, a, h1, f1, r1, ra, hp⟩ => ?_⟩
  exact hp μ1 H1 σ Fut.refl r1 (rs.fut f1)
theorem s_ret {e : Expr} {A : SEm} {pos : Pos} (he : PE X e (simE C W A)) : PS X (.Return (some e) pos) (simS C W (sRet A)) := by
  refine PS.imp (ps_ret he) fun σ H D ⟨μ, sa, ah, rs, rh, hp⟩ => ?_
  refine ⟨μ, sa, ah, rs, rh, Post.mono (PostS.bind (rel := RV C.K) hp σ) fun v H1 ⟨μ1, a, h1, f1, r1, ra, hp⟩ => ?_⟩
  exact hp μ1 H1 v Fut.refl r1 ra
theorem s_retN {pos : Pos} : PS X (.Return none pos) (simS C W sRetN) := PS.imp ps_retN fun σ H D ⟨μ, sa, ah, rs, rh, hp⟩ => hp μ H .non Fut.refl rh rv_non
theorem s_if {c : Expr} {a b : List Stmt} {T : STm} {A B : SSm} {pos : Pos} (hc : PT X c (simT C W T)) (ha : PSs X a (simS C W A)) (hb : PSs X b (simS C W B)) : PS X (.If c a b pos) (simS C W (sIf T A B)) := by
  refine PS.imp (ps_if hc ha hb) fun σ H D ⟨μ, sa, ah, rs, rh, hp⟩ => ?_
  refine ⟨μ, sa, ah, rs, rh, Post.mono (PostS.bind (rel := relB) hp σ) fun v H1 ⟨μ1, a, h1, f1, r1, ra, hp⟩ => ?_⟩
  have e : v = a := ra
  subst e
  cases v with
  | true => exact ⟨μ1, sa, h1, rs.fut f1, r1, hp⟩
  | false => exact ⟨μ1, sa, h1, rs.fut f1, r1, hp⟩
/-! #### while, for -/
def whileF (t : STm) (b : SSm) : Nat → SSm
  | 0 => fun _ => M.stk
  | n + 1 => fun σ => M.bind (t σ) fun c => if c = true then M.bind (b σ) (fun f => match f with
      | .nx σ => whileF t b n σ
      | .ct σ => whileF t b n σ
      | .bk σ => M.pure (.nx σ)
      | .rt v => M.pure (.rt v)) else M.pure (.nx σ)
def sWhile (n : Nat) (t : STm) (b : SSm) : SSm := whileF t b n
theorem s_while {c : Expr} {body : List Stmt} {T : STm} {B : SSm} {pos : Pos} {n : Nat} (hp : PassesOwn (model X.prog X.w) X.A X.env X.xe) (hc : PT X c (simT C W T)) (hb : PSs X body (simS C W B)) : PS X (.While c body [] pos) (simS C W (sWhile n T B)) := by
  refine PS.imp (ps_while hp hc hb) fun σ H D ⟨μ, sa, ah, rs, rh, hp⟩ => ?_
  refine ⟨fun m σ H => ∃ μ sa ah, RelS C.K μ H sa σ ∧ RelH C μ H ah ∧ PostS C W μ H (whileF T B m sa ah) D, ⟨n, μ, sa, ah, rs, rh, hp⟩, ?_⟩
  rintro m σ H ⟨μ, sa, ah, rs, rh, hp⟩
  cases m with
  | zero => exact (show False from hp).elim
  | succ m =>
    refine ⟨μ, sa, ah, rs, rh, Post.mono (PostS.bind (rel := relB) hp σ) fun v H1 ⟨μ1, a, h1, f1, r1, ra, hp⟩ => ?_⟩
    have e : v = a := ra
    subst e
    cases v with
    | false => exact hp μ1 H1 σ Fut.refl r1 (rs.fut f1)
    | true =>
      refine ⟨fun σ H => ∃ μ sa ah, RelS C.K μ H sa σ ∧ RelH C μ H ah ∧ PostS C W μ H (whileF T B m sa ah) D, fun σ' H' q => ⟨m, Nat.lt_succ_self _, q⟩, μ1, sa, h1, rs.fut f1, r1, ?_⟩
      have hp : PostS C W μ1 H1 ((B sa h1).bind fun f => match f with
        | .nx σ => whileF T B m σ
        | .ct σ => whileF T B m σ
        | .bk σ => M.pure (.nx σ)
        | .rt v => M.pure (.rt v)) D := hp
      cases e : B sa h1 with
      | stk => rw [e] at hp; exact hp
      | exc c a h => rw [e] at hp; exact hp
      | ok f h =>
        rw [e] at hp
        cases f with
        | nx sa' => exact fun μ' H' σ' g q1 q2 => ⟨μ', sa', h, q2, q1, PostS.fut g hp⟩
        | ct sa' => exact fun μ' H' σ' g q1 q2 => ⟨μ', sa', h, q2, q1, PostS.fut g hp⟩
        | bk sa' => exact hp
        | rt a => exact hp
def forF (s : Src) (g : SGm) (b : SSm) : Nat → Nat → SSm
  | 0, _ => fun _ => M.stk
  | n + 1, i => fun σ h => match s.src i h with
    | none => .stk
    | some none => .ok (.nx σ) h
    | some (some a) => (g a σ h).bind fun σ => M.bind (b σ) fun f => match f with
      | .nx σ => forF s g b n (i + 1) σ
      | .ct σ => forF s g b n (i + 1) σ
      | .bk σ => M.pure (.nx σ)
      | .rt v => M.pure (.rt v)
def sFor (I : SSrc) (g : SGm) (b : SSm) : SSm := fun σ => M.bind (I σ) fun s => forF s g b (s.len + 1) 0 σ
theorem s_for {tg iter : Expr} {body : List Stmt} {I : SSrc} {g : SGm} {B : SSm} {pos : Pos} (hp : PassesOwn (model X.prog X.w) X.A X.env X.xe) (hc : X.calm = true) (hi : PI X tg iter (simI C W I)) (hg : PG X tg (simG C W none g)) (hb : PSs X body (simS C W B))
    (hs : ∀ x, foldedSetIterable iter X.env x = pure x) : PS X (.For tg iter body [] pos) (simS C W (sFor I g B)) := by
  refine PS.imp (ps_for hp hc hi hg hb hs) fun σ H D ⟨μ, sa, ah, rs, rh, hp⟩ => ?_
  refine ⟨μ, sa, ah, rs, rh, Post.mono (PostS.bind (rel := relSrc C) hp σ) fun J H1 ⟨μ1, s, h1, f1, r1, ⟨P, p1, ok⟩, hp⟩ => ?_⟩
  refine ⟨fun i m σ H => ∃ μ sa ah, RelS C.K μ H sa σ ∧ RelH C μ H ah ∧ P μ H ∧ PostS C W μ H (forF s g B m i sa ah) D, ⟨s.len + 1, μ1, sa, h1, rs.fut f1, r1, p1, hp⟩, ?_⟩
  rintro i m σ H ⟨μ, sa, ah, rs, rh, p, hp⟩
  cases m with
  | zero => exact (show False from hp).elim
  | succ m =>
    unfold forF at hp
    cases e : s.src i ah with
    | none => rw [e] at hp; exact (show False from hp).elim
    | some o =>
      rw [e] at hp
      cases o with
      | none => exact .inl ⟨ok.stop i μ H ah rh p e, hp μ H σ Fut.refl rh rs⟩
      | some a =>
        obtain ⟨go, yl⟩ := ok.go i μ H ah a rh p e
        refine .inr ⟨go, fun σ H => ∃ μ sa ah, RelS C.K μ H sa σ ∧ RelH C μ H ah ∧ P μ H ∧ PostS C W μ H (forF s g B m (i + 1) sa ah) D, fun σ' H' q => ⟨m, Nat.lt_succ_self _, q⟩, fun x H2 y => ?_⟩
        obtain ⟨f2, r2, rx⟩ := yl x H2 y
        refine ⟨μ, sa, ah, a, rs.fut f2, r2, rx, Post.mono (PostS.bindG (rel := relSB C.K none σ) (PostS.fut f2 hp)) fun σ3 H3 ⟨μ3, sa3, h3, f3, r3, ⟨rs3, _⟩, hp⟩ => ?_⟩
        refine ⟨μ3, sa3, h3, rs3, r3, ?_⟩
        have p3 := ok.mono (f2.trans f3) p
        have hp : PostS C W μ3 H3 ((B sa3 h3).bind fun f => match f with
          | .nx σ => forF s g B m (i + 1) σ
          | .ct σ => forF s g B m (i + 1) σ
          | .bk σ => M.pure (.nx σ)
          | .rt v => M.pure (.rt v)) D := hp
        cases e : B sa3 h3 with
        | stk => rw [e] at hp; exact hp
        | exc c a h => rw [e] at hp; exact hp
        | ok f h =>
          rw [e] at hp
          cases f with
          | nx sa' => exact fun μ' H' σ' g q1 q2 => ⟨μ', sa', h, q2, q1, ok.mono g p3, PostS.fut g hp⟩
          | ct sa' => exact fun μ' H' σ' g q1 q2 => ⟨μ', sa', h, q2, q1, ok.mono g p3, PostS.fut g hp⟩
          | bk sa' => exact hp
          | rt a => exact hp
end
end Z

set_option maxHeartbeats 2000000
namespace Z
open PySem PySem.Spec PyProof.Rows L2
/-! ### comprehensions -/
def M.ne {α : Type} (m : M α) : M α := fun h => match m h with
  | .ok a h => .ok a h
  | _ => .stk
def wipeA (σ : AS) : List Nat → AS
  | [] => σ
  | v :: vs => (wipeA σ vs).set v none
def compApp (d : Nat) (y : AV) : M Unit := fun h => match h[d]? with
  | some (.lst acc) => if acc.length < 16777216 then .ok () (h.set d (.lst (acc ++ [y]))) else .stk
  | _ => .stk
def compF (s : Src) (g : SGm) (t : STm) (e : SEm) (d : Nat) (σ : AS) : Nat → Nat → M AV
  | 0, _ => M.stk
  | n + 1, i => fun h => match s.src i h with
    | none => .stk
    | some none => .ok (.ref d) h
    | some (some a) => (M.ne (g a σ) h).bind fun σ2 => M.bind (M.ne (t σ2)) fun b => if b = true then M.bind (M.ne (e σ2)) fun y => M.bind (compApp d y) fun _ => compF s g t e d σ n (i + 1) else compF s g t e d σ n (i + 1)
def eComp (vs : List Nat) (I : SSrc) (g : SGm) (t : STm) (e : SEm) : SEm := fun σ => M.bind (I σ) fun s h => compF s g t e h.length (wipeA σ vs) (s.len + 1) 0 (h ++ [.lst []])
def tYs : STm := fun _ => M.pure true
abbrev W0 : XW := fun _ _ _ _ => False
section
variable {X : Cx} {C : Cf} {W : XW} {μ : List Addr} {H : Hp} {ah : AH}
theorem Post.ne {α β γ δ : Type} {E : XK} {rel : Rel α β} {rel' : Rel γ δ} {m : M α} {f : α → M γ} {Q : δ → Hp → Prop} (h : Post C E μ H rel' ((M.ne m ah).bind f) Q) :
    Post C NoE μ H rel (m ah) fun v H1 => ∃ μ1 a h1, Fut μ H μ1 H1 ∧ RelH C μ1 H1 h1 ∧ rel μ1 H1 a v ∧ Post C E μ1 H1 rel' (f a h1) Q := by
  unfold M.ne at h
  cases e : m ah with
  | ok a ah' => rw [e] at h; exact fun μ1 H1 v g r1 r2 => ⟨μ1, a, ah', g, r1, r2, Post.fut g h⟩
  | exc c a ah' => rw [e] at h; exact (show False from h).elim
  | stk => rw [e] at h; exact (show False from h).elim
theorem RelS.wipe {K : PySem.W.Frag} {sa : AS} {σ : St} (r : RelS K μ H sa σ) : ∀ vs : List Nat, RelS K μ H (wipeA sa vs) (wipe σ vs)
  | [] => r
  | v :: vs => by
    have ih := RelS.wipe r vs
    refine ⟨by simp [wipeA, L2.wipe, ih.len], fun i a e => ?_⟩
    simp only [wipeA] at e
    simp only [L2.wipe]
    by_cases hi : v = i
    · subst hi
      by_cases hl : v < (wipeA sa vs).length
      · rw [List.getElem?_set_self hl] at e; cases e
      · rw [List.getElem?_eq_none (by simpa using hl)] at e; cases e
    · rw [List.getElem?_set_ne hi] at e ⊢
      exact ih.at_ i a e
def simTs (C : Cf) (m : STm) : TT := simT C W0 m
theorem PTs.imp {X : Cx} {e : List Expr} {t t' : TT} (h : PTs X e t) (i : ∀ σ H Q, t' σ H Q → t σ H Q) : PTs X e t' := ⟨fun pins s σ H Q I q => h.run pins s σ H Q I (i σ H Q q)⟩
theorem s_ts0 : PTs X [] (simT C W tYs) := PTs.imp pts_nil fun σ H Q ⟨μ, sa, ah, rs, rh, hp⟩ => hp μ H true Fut.refl rh rfl
theorem s_ts1 {c : Expr} {T : STm} (h : PT X c (simT C W T)) : PTs X [c] (simT C W T) := pts_one h
/-- an item put behind the new list -/
theorem app_post {α β : Type} {E : XK} {rel : Rel α β} {Q : β → Hp → Prop} {d : Nat} {D : Addr} {y : AV} {v : V} {f : Unit → M α} (rh : RelH C μ H ah) (hd : μ[d]? = some D) (ry : RV C.K μ H y v) (hp : Post C E μ H rel ((compApp d y ah).bind f) Q) :
    ∃ acc, H D = some (.lst acc) ∧ acc.length < sizeLine ∧ ∃ ah', Fut μ H μ (upd H D (.lst (acc ++ [v]))) ∧ RelH C μ (upd H D (.lst (acc ++ [v]))) ah' ∧ Post C E μ (upd H D (.lst (acc ++ [v]))) rel (f () ah') Q := by
  unfold compApp at hp
  cases e : ah[d]? with
  | none => rw [e] at hp; exact (show False from hp).elim
  | some o =>
    rw [e] at hp
    cases o with
    | lst acc =>
      simp only at hp
      by_cases hl : acc.length < 16777216
      · rw [if_pos hl] at hp
        obtain ⟨p, vs, e1, e2, h1, r1⟩ := rh.lst_of e (v := .ref D) (by simp only [RV]; exact ⟨D, rfl, hd⟩)
        cases e1
        have f1 := rh.futset (o := .lst (vs ++ [v])) hd
        exact ⟨vs, h1, by rw [r1.length, line_eq]; exact hl, ah.set d (.lst (acc ++ [y])), f1, rh.set (u := .lst (acc ++ [y])) hd ⟨_, upd_same, RVs.fut f1 _ _ (r1.append (RVs.cons ry RVs.nil))⟩, Post.fut f1 hp⟩
      · rw [if_neg hl] at hp; exact (show False from hp).elim
    | _ => exact (show False from hp).elim
theorem comp_imp {I : SSrc} {g : SGm} {t : STm} {e : SEm} {vs : List Nat} {σ : St} {H : Hp} {Q : VK} (h : simE C W (eComp vs I g t e) σ H Q) : tLc (simI C W I) (simG C W0 (some vs) g) (simT C W0 t) (simE C W0 e) vs σ H Q := by
  obtain ⟨μ, sa, ah, rs, rh, hp⟩ := h
  refine ⟨μ, sa, ah, rs, rh, Post.mono (Post.bind hp) fun J H1 ⟨μ1, s, h1, f1, r1, ⟨P, p1, sok⟩, hp⟩ D hD => ?_⟩
  have fD := Fut.push (μ := μ1) (o := .lst []) hD
  have r2 : RelH C (μ1 ++ [D]) (upd H1 D (.lst [])) (h1 ++ [.lst []]) := r1.push hD ⟨[], upd_same, RVs.nil⟩
  have hd : (μ1 ++ [D])[h1.length]? = some D := by rw [← r1.len, List.getElem?_append_right (Nat.le_refl _)]; simp
  refine ⟨fun i m H => ∃ μ ah, RelS C.K μ H (wipeA sa vs) (wipe σ vs) ∧ RelH C μ H ah ∧ P μ H ∧ μ[h1.length]? = some D ∧ Post C (fun c d H => W c d σ H) μ H (RV C.K) (compF s g t e h1.length (wipeA sa vs) m i ah) Q,
    ⟨s.len + 1, _, _, ((rs.fut f1).fut fD).wipe vs, r2, sok.mono fD p1, hd, Post.fut fD hp⟩, ?_⟩
  rintro i m H ⟨μ, ah, rs, rh, p, hd, hp⟩
  cases m with
  | zero => exact (show False from hp).elim
  | succ m =>
    unfold compF at hp
    cases es : s.src i ah with
    | none => rw [es] at hp; exact (show False from hp).elim
    | some o =>
      rw [es] at hp
      cases o with
      | none => exact .inl ⟨sok.stop i μ H ah rh p es, Post.val rh hp (by simp only [RV]; exact ⟨D, rfl, hd⟩)⟩
      | some a =>
        obtain ⟨go, yl⟩ := sok.go i μ H ah a rh p es
        refine .inr ⟨go, fun H => ∃ μ ah, RelS C.K μ H (wipeA sa vs) (wipe σ vs) ∧ RelH C μ H ah ∧ P μ H ∧ μ[h1.length]? = some D ∧ Post C (fun c d H => W c d σ H) μ H (RV C.K) (compF s g t e h1.length (wipeA sa vs) m (i + 1) ah) Q, fun H' q => ⟨m, Nat.lt_succ_self _, q⟩, fun x H2 y => ?_⟩
        obtain ⟨f2, r2, rx⟩ := yl x H2 y
        have rs2 := rs.fut f2
        refine ⟨μ, _, ah, a, rs2, r2, rx, Post.weakE (Post.mono (Post.ne (rel := relSB C.K (some vs) (wipe σ vs)) (Post.fut f2 hp)) fun σ3 H3 ⟨μ3, sa3, h3, f3, r3, ⟨rs3, hw⟩, hp⟩ => ⟨?_, ?_⟩) fun _ _ _ z => z.elim⟩
        · have hw : wipe σ3 vs = wipe (wipe σ vs) vs := hw
          have hww : ∀ (vs us : List Nat), (∀ v ∈ us, v ∈ vs) → wipe (wipe σ vs) us = wipe σ vs := by
            intro vs us
            induction us with
            | nil => intro _; rfl
            | cons u us ih =>
              intro hh
              have hu := hh u List.mem_cons_self
              show (wipe (wipe σ vs) us).set u none = wipe σ vs
              rw [ih fun v hv => hh v (List.mem_cons_of_mem _ hv)]
              clear ih hh
              induction vs with
              | nil => cases hu
              | cons w ws ihw =>
                simp only [L2.wipe]
                rcases List.mem_cons.mp hu with rfl | hu
                · rw [List.set_set]
                · by_cases e : w = u
                  · subst e; rw [List.set_set]
                  · rw [List.set_comm _ _ e, ihw hu]
          rw [hw]
          exact hww vs vs fun _ h => h
        · refine ⟨μ3, sa3, h3, rs3, r3, Post.weakE (Post.mono (Post.ne (rel := relB) hp) fun b H4 ⟨μ4, b', h4, f4, r4, eb, hp⟩ => ?_) fun _ _ _ z => z.elim⟩
          have eb : b = b' := eb
          subst eb
          have p4 := sok.mono ((f2.trans f3).trans f4) p
          have hd4 := f4.pre _ _ (f3.pre _ _ hd)
          have rs4 := (rs2.fut f3).fut f4
          cases b with
          | false => exact ⟨μ4, h4, rs4, r4, p4, hd4, hp⟩
          | true =>
            refine ⟨μ4, sa3, h4, rs3.fut f4, r4, Post.weakE (Post.mono (Post.ne (rel := RV C.K) hp) fun y H5 ⟨μ5, ya, h5, f5, r5, ry, hp⟩ => ?_) fun _ _ _ z => z.elim⟩
            obtain ⟨acc, e1, e2, ah', f6, r6, hp⟩ := app_post r5 (f5.pre _ _ hd4) ry hp
            exact ⟨acc, e1, e2, μ5, ah', (rs4.fut f5).fut f6, r6, sok.mono (f5.trans f6) p4, f6.pre _ _ (f5.pre _ _ hd4), hp⟩
theorem s_comp {elt tg iter : Expr} {ifs : List Expr} {scope : Scope} {own : List (PySem.Str × Nat)} {pos : Pos} {I : SSrc} {g : SGm} {t : STm} {e : SEm} (hc : X.calm = true) (hN : X.N.Nodup) (hi : PI X tg iter (simI C W I)) (ok : BlkOk X.N X.env.scope scope own)
    (hg : ∀ (s : Shared) (H : Hp) (c : Addr) (cl : List (PySem.Str × Addr)) (fp : List Addr), PG (X.blk s H scope (compEnvC scope cl c X.env) fp) tg (simG C W0 (some (own.map (·.2))) g))
    (ht : ∀ (s : Shared) (H : Hp) (c : Addr) (cl : List (PySem.Str × Addr)) (fp : List Addr), PTs (X.blk s H scope (compEnvC scope cl c X.env) fp) ifs (simT C W0 t))
    (he : ∀ (s : Shared) (H : Hp) (c : Addr) (cl : List (PySem.Str × Addr)) (fp : List Addr), PE (X.blk s H scope (compEnvC scope cl c X.env) fp) elt (simE C W0 e)) (hs : ∀ x, foldedSetIterable iter X.env x = pure x) :
    PE X (.ListComp elt [⟨tg, iter, ifs, 0⟩] scope pos) (simE C W (eComp (own.map (·.2)) I g t e)) := by
  exact PE.imp (pe_lc hc hN hi ok hg ht he hs) fun σ H Q h => comp_imp h
/-- y = [..] on one line, y a plain local name -/
theorem s_setLc {i : Nat} {y : PySem.Str} {py : Pos} {elt tg iter : Expr} {ifs : List Expr} {scope : Scope} {own : List (PySem.Str × Nat)} {pos spos : Pos} {I : SSrc} {g : SGm} {t : STm} {e : SEm} (hc : X.calm = true) (hN : X.N.Nodup) (hy : X.N[i]? = some y) (hyl : X.env.scope.names.lookup y = some .local)
    (hsw : swapsWith (.ListComp elt [⟨tg, iter, ifs, 0⟩] scope pos) (some (.Name y py)) spos.line X.env = pure true) (hi : PI X tg iter (simI C W I)) (ok : BlkOk X.N X.env.scope scope own)
    (hg : ∀ (s : Shared) (H : Hp) (c : Addr) (cl : List (PySem.Str × Addr)) (fp : List Addr), PG (X.blk s H scope (compEnvC scope cl c X.env) fp) tg (simG C W0 (some (own.map (·.2))) g))
    (ht : ∀ (s : Shared) (H : Hp) (c : Addr) (cl : List (PySem.Str × Addr)) (fp : List Addr), PTs (X.blk s H scope (compEnvC scope cl c X.env) fp) ifs (simT C W0 t))
    (he : ∀ (s : Shared) (H : Hp) (c : Addr) (cl : List (PySem.Str × Addr)) (fp : List Addr), PE (X.blk s H scope (compEnvC scope cl c X.env) fp) elt (simE C W0 e)) (hs : ∀ x, foldedSetIterable iter X.env x = pure x) :
    PS X (.Assign [.Name y py] (.ListComp elt [⟨tg, iter, ifs, 0⟩] scope pos) spos) (simS C W (sAsg (eComp (own.map (·.2)) I g t e) (gNm i))) := by
  refine PS.imp (ps_setLc hc hN hy hyl hsw hi ok hg ht he hs) fun σ H D ⟨μ, sa, ah, rs, rh, hp⟩ => comp_imp ⟨μ, sa, ah, rs, rh, Post.mono (PostS.bind (rel := RV C.K) hp σ) fun v H1 ⟨μ1, a, h1, f1, r1, ra, hp⟩ => ?_⟩
  exact hp μ1 H1 _ Fut.refl r1 ((rs.fut f1).set i ra)
end
end Z

set_option maxHeartbeats 2000000
namespace Z
open PySem PySem.Spec PyProof.Rows L2
/-! ### defs: what they promise, their calls -/
def mkF (np nl : Nat) (B : SSm) : List AV → M AV := fun as h => if as.length = np then (match B (as.map some ++ List.replicate nl none) h with
    | .ok (.rt v) h => .ok v h
    | .ok (.nx _) h => .ok .non h
    | .ok (.bk _) _ => .stk
    | .ok (.ct _) _ => .stk
    | .exc c v h => .exc c v h
    | .stk => .stk) else .stk
def spOf (C : Cf) (g : List AV → M AV) : Sp := fun vs H Q E => ∃ μ as ah, RVs C.K μ H as vs ∧ RelH C μ H ah ∧ Post C E μ H (RV C.K) (g as ah) Q
def Strict (g : List AV → M AV) (n : Nat) : Prop := ∀ as h, as.length ≠ n → g as h = .stk
theorem strict_mkF {np nl : Nat} {B : SSm} : Strict (mkF np nl B) np := fun as h e => if_neg e
theorem strict_stk {n : Nat} : Strict (fun _ => M.stk) n := fun _ _ _ => rfl
theorem spOf_len {C : Cf} {g : List AV → M AV} {n : Nat} (s : Strict g n) {vs : List V} {H : Hp} {Q : VK} {E : XK} (h : spOf C g vs H Q E) : vs.length = n := by
  obtain ⟨μ, as, ah, ra, rh, hp⟩ := h
  by_cases e : as.length = n
  · rw [ra.length, e]
  · rw [s as ah e] at hp; exact (show False from hp).elim
theorem relS_start {K : PySem.W.Frag} {μ : List Addr} {H : Hp} {as : List AV} {vs : List V} {N : List Str} {np nl : Nat} (ra : RVs K μ H as vs) (h1 : as.length = np) (h2 : N.length = np + nl) : RelS K μ H (as.map some ++ List.replicate nl none) (L2.start N vs) := by
  have e : N.length - vs.length = nl := by rw [ra.length, h1, h2]; omega
  unfold L2.start
  rw [e]
  refine ⟨by simp [ra.length], fun i a hi => ?_⟩
  by_cases hl : i < as.length
  · rw [List.getElem?_append_left (by simpa using hl), List.getElem?_map] at hi
    cases q : as[i]? with
    | none => rw [q] at hi; cases hi
    | some b =>
      rw [q] at hi
      cases hi
      obtain ⟨v, e1, r⟩ := ra.get q
      exact ⟨v, by rw [List.getElem?_append_left (by simpa [ra.length] using hl), List.getElem?_map, e1]; rfl, r⟩
  · rw [List.getElem?_append_right (by simpa using Nat.le_of_not_lt hl)] at hi
    rw [List.getElem?_replicate] at hi
    split at hi <;> cases hi
theorem fn_ok {P : Program} {w : World} {K : PySem.W.Frag} {mg : Str → Option Value} {base : Heap} {x qual : Str} {params : Arguments} {body : List Stmt} {scope : Scope} {f : Addr} {fd : FuncData} {N ps : List Str} {np nl k : Nat} {C : Cf} {B : SSm} {dvs : List V} {kws : List (Str × V)}
    (F : FunD K x qual params body scope dvs kws f fd) (S : FnScope N ps scope) (h1 : ps.length = np) (h2 : N.length = np + nl) (hK : C.K = K)
    (hb : ∀ (cdv : Value) (A : Around) (outer : List Env) (s : Shared) (H : Hp) (E : XK), fd.code = cdv → Room k (A.deeper (envOfC qual scope s.heap.objs.size f cdv)) → PSs (cxOf (L2.CX P w) P w K mg base N qual scope f cdv A outer s H E) body (simS C (fun cls d _ H => E cls d H) B)) :
    FnOk P w K mg base (L2.CX P w) (k + 1) f fd ps (spOf C (mkF np nl B)) := by
  obtain ⟨oc, od, dV, kV, doc, pm, an, cdv, ct, osl, rfl, lk, hcd, _, _⟩ := F.ex
  refine fn_of lk hcd S (fun vs H Q E h => by rw [h1]; exact spOf_len strict_mkF h) fun A outer s H vs Q E hr h => ⟨_, hb cdv A outer s H E rfl hr, ?_⟩
  obtain ⟨μ, as, ah, ra, rh, hp⟩ := h
  unfold mkF at hp
  obtain ⟨hl, hp⟩ := Post.ifE' hp
  refine ⟨μ, as.map some ++ List.replicate nl none, ah, relS_start ra hl h2, rh, ?_⟩
  cases e : B (as.map some ++ List.replicate nl none) ah with
  | stk => rw [e] at hp; exact hp
  | exc c v h => rw [e] at hp; exact fun μ' H' d v f r1 r2 e _ => hp μ' H' d v f r1 r2 e
  | ok fl h =>
    rw [e] at hp
    cases fl with
    | nx σ => exact fun μ' H' σ' f r1 r2 => hp μ' H' .non f r1 rv_non
    | rt v => exact hp
    | bk σ => exact (show False from hp).elim
    | ct σ => exact (show False from hp).elim
theorem fn_stk {P : Program} {w : World} {K : PySem.W.Frag} {mg : Str → Option Value} {base : Heap} {f : Addr} {fd : FuncData} {ps : List Str} {k : Nat} {C : Cf} {CX : CXT} : FnOk P w K mg base CX k f fd ps (spOf C fun _ => M.stk) :=
  ⟨fun _ _ _ _ ⟨_, _, _, _, _, hp⟩ => (show False from hp).elim, fun _ _ _ _ _ _ _ _ _ _ _ _ _ ⟨_, _, _, _, _, hp⟩ => (show False from hp).elim⟩
section
variable {X : Cx} {C : Cf} {W : XW}
theorem s_call {k : Nat} {f : Addr} {fd : FuncData} {ps : List Str} {g : List AV → M AV} {x : Str} {e : Expr} {es : List Expr} {AS : SAm} {p pos : Pos} (F : FnOk X.prog X.w X.K X.mg X.base (L2.CX X.prog X.w) k f fd ps (spOf C g)) (hr : Room k X.A) (tk : Takes X W) (hg : Gl X x) (hm : X.mg x = some (.ref f))
    (hk : PySem.W.keepIn X.K (.ref f) = true) (hb : Binds X.K fd ps []) (ha : PA X (e :: es) (simA C W AS)) (hdb : (x == ("__debug__" : Str)) = false) (he : starEach (e :: es) X.env = (false, eval e X.env) :: starEach es X.env) (hpl : (backTo pos (starEach es X.env)).any (·.1) = false) :
    PE X (.Call (.Name x p) (e :: es) [] pos) (simE C W (eFn g AS)) := by
  refine PE.imp (pe_callS (E := WE W) F hr hg hm hk hb (fun σ => passAt tk σ) ha hdb he hpl) fun σ H Q h => ?_
  obtain ⟨μ, sa, ah, rs, rh, hp⟩ := sim.step (rel := RVs C.K) (m := AS) (f := fun sa x => g x) h
  exact ⟨μ, sa, ah, rs, rh, Post.mono hp fun v H1 ⟨μ, sa, ah, a, rs, rh, ra, hp⟩ => ⟨μ, a, ah, ra, rh, hp⟩⟩
theorem s_call0 {k : Nat} {f : Addr} {fd : FuncData} {ps : List Str} {g : List AV → M AV} {x : Str} {p pos : Pos} (F : FnOk X.prog X.w X.K X.mg X.base (L2.CX X.prog X.w) k f fd ps (spOf C g)) (hr : Room k X.A) (tk : Takes X W) (hg : Gl X x) (hm : X.mg x = some (.ref f))
    (hk : PySem.W.keepIn X.K (.ref f) = true) (hb : Binds X.K fd ps []) (hdb : (x == ("__debug__" : Str)) = false) :
    PE X (.Call (.Name x p) [] [] pos) (simE C W (eFn g aNil)) := by
  refine ⟨fun pins s σ H Q I h => ?_⟩
  refine wpAny_Call_Name_kw (ld_glob I hg hm ?_ hdb)
  obtain ⟨μ, sa, ah, rs, rh, hp⟩ := h
  exact PySem.W.callWith_K0 I.kIn hk (run_fnS (E := WE W) (us := []) F hr hb (passAt tk σ) I .nil ⟨μ, [], ah, RVs.nil, rh, hp⟩)
/-! ### isinstance of the built-in types -/
inductive Ty where
  | non | bl | int | str | lst | tup | dic
  deriving DecidableEq
def Ty.nm : Ty → String
  | .non => "NoneType" | .bl => "bool" | .int => "int" | .str => "str" | .lst => "list" | .tup => "tuple" | .dic => "dict"
def tyOf (a : AV) (h : AH) : Option Ty := match a with
  | .non => some .non
  | .bl _ => some .bl
  | .int _ => some .int
  | .str _ => some .str
  | .tup _ => some .tup
  | .lsc _ => some .lst
  | .ref n => (match h[n]? with
    | some (.lst _) => some .lst
    | some (.dic _) => some .dic
    | _ => none)
def isT (t T : Ty) : Bool := decide (t = T) || (decide (t = .bl) && decide (T = .int))
theorem kit_isT (t T : Ty) : kitB t.nm T.nm = some (isT t T) := by
  cases t <;> cases T <;> decide +kernel
def aIsi (T : Ty) (a : AV) : M AV := fun h => match tyOf a h with
  | some t => .ok (.bl (isT t T)) h
  | none => .stk
theorem tyX_of {K : PySem.W.Frag} {μ : List Addr} {H : Hp} {ah : AH} {a : AV} {v : V} {t : Ty} (rh : RelH C μ H ah) (ra : RV C.K μ H a v) (h : tyOf a ah = some t) (hK : C.K = K) : TyX K H v (.type t.nm) := by
  subst hK
  cases a with
  | non => simp only [RV] at ra; cases h; subst ra; exact .base .non
  | bl b => cases ra.blI; cases h; exact .base (.bl _)
  | int i => cases ra.intI; cases h; exact .base (.int _)
  | str x => obtain ⟨rfl, _⟩ := ra.strI; cases h; exact .base (.str _)
  | tup xs =>
    obtain ⟨p, vs, rfl, h1, _⟩ := ra.tupI
    cases h
    rcases h1 with (h1 | ⟨o, h1⟩) | ⟨o, us, n, h1, h2, _⟩
    · exact .base (.tup h1)
    · exact .fTuple h1
    · exact .kTuple h1 h2
  | lsc ns =>
    simp only [RV] at ra
    obtain ⟨p, rfl, h1⟩ := ra
    cases h
    rcases h1 with ⟨o, h1⟩ | ⟨o, its, n, h1, h2, _⟩
    · exact .base (.frz h1)
    · exact .kList h1 h2
  | ref n =>
    unfold tyOf at h
    simp only at h
    split at h
    · rename_i xs e
      obtain ⟨p, vs, rfl, _, h1, _⟩ := rh.lst_of e ra
      cases h
      exact .base (.lst h1)
    · rename_i kvs e
      simp only [RV] at ra
      obtain ⟨p, rfl, hp⟩ := ra
      obtain ⟨o, ho, hr⟩ := rh.lt hp
      rw [e] at ho; cases ho
      obtain ⟨vs, h1, _⟩ := hr
      cases h
      exact .base (.dK h1)
    · cases h
theorem s_isi {T : Ty} {x : Str} {e : Expr} {A : SEm} {p p2 pos : Pos} (hK : X.K = C.K) (hg : Gl X "isinstance") (hm : X.mg "isinstance" = none) (hg2 : Gl X x) (hm2 : X.mg x = none) (hv : bootBuiltins x = some (.type T.nm)) (ha : PE X e (simE C W A)) (hn2 : x ≠ "__name__") (hd2 : (x == ("__debug__" : Str)) = false)
    (he : starEach [e, .Name x p2] X.env = [(false, eval e X.env), (false, eval (.Name x p2) X.env)]) (hpl : (backTo pos (starEach [.Name x p2] X.env)).any (·.1) = false) (he2 : starEach [.Name x p2] X.env = [(false, eval (.Name x p2) X.env)]) :
    PE X (.Call (.Name "isinstance" p) [e, .Name x p2] [] pos) (simE C W (eUn (aIsi T) A)) := by
  have hA : PA X [e, .Name x p2] (tCons (simE C W A) (tCons (tC (.ty T.nm)) tNil)) := pa_cons ha (pa_cons (pe_bltn hg2 hm2 hv rfl hn2 hd2) pa_nil (by rw [he2]; rfl)) (by rw [he, he2])
  refine PE.imp (pe_callB call_isi hg hm (by rfl) hA (by decide) (by decide) (by rw [he, he2]) hpl) fun σ H Q h => ?_
  obtain ⟨μ, sa, ah, rs, rh, hp⟩ := sim.step (rel := RV C.K) (m := A) (f := fun sa x => aIsi T x) h
  refine ⟨μ, sa, ah, rs, rh, Post.mono hp fun v H1 ⟨μ, sa, ah, a, rs, rh, ra, hp⟩ => ?_⟩
  unfold aIsi at hp
  cases e : tyOf a ah with
  | none => rw [e] at hp; exact (show False from hp).elim
  | some t =>
    rw [e] at hp
    exact ⟨v, .ty T.nm, .type t.nm, .type T.nm, isT t T, rfl, .ty _, tyX_of rh ra e hK.symm, kit_ty (kit_isT t T), Post.val rh hp rv_bl⟩
/-! ### f'..' -/
def aFmt (a : AV) : M AV := fun h => match a with
  | .str x => if x.length ≤ 16777216 then .ok (.str x) h else .stk
  | .int i => if 0 ≤ i ∧ i < 10 ^ 18 then .ok (.str (numT i.toNat)) h else .stk
  | _ => .stk
end
end Z

set_option maxHeartbeats 2000000
namespace PySem
namespace ZX
open PySem.W PySem.Calls PyProof.Rows PySem.HandSPX
/-! ### the text of an error's __init__ -/
def iA (fl : Str) (p1 p2 : Pos) : Arguments := { posonlyargs := [], args := [{ arg := "self", annotation := none, pos := p1 }, { arg := fl, annotation := none, pos := p2 }], vararg := none, kwonlyargs := [], kw_defaults := [], kwarg := none, defaults := [] }
def iB (fl : Str) (q1 q2 q3 q4 : Pos) : List Stmt := [.Assign [.Attribute (.Name "self" q1) fl q2] (.Name fl q3) q4]
def iS (fl : Str) : Scope := { kind := .function, names := [(PySem.Str.ofString "self", .local), (fl, .local)], isGenerator := false, isCoroutine := false, more := [] }
/-- the class object of an error class whose chain ends by ValueError's -/
def errCls (K : Frag) (C : Addr) : Bool := match K.lookup C with
  | some ⟨.type "type", _, .cls cd, sl⟩ => (match cd.mro, sl.toList with
    | .ref C' :: bm, [_, _, _, _, some (.builtin n), _] => C' == C && (n == "ValueError.__new__" && (!cd.hasDel && (cd.hasDict && refsVE bm)))
    | _, _ => false)
  | _ => false
theorem errCls_ok {K : Frag} {C : Addr} (q : errCls K C = true) : ∃ nm q N bs bm sn sub ab col dd k0 k1 k2 k3 k5, K.lookup C = some (excClassObj nm q C N bs bm true sn sub ab col dd k0 k1 k2 k3 k5 "ValueError.__new__") ∧ refsVE bm = true := by
  unfold errCls at q
  split at q
  · rename_i dd cd sl ho
    split at q
    · rename_i C' bm k0 k1 k2 k3 n k5 hm hs
      simp only [Bool.and_eq_true, beq_iff_eq, Bool.not_eq_true'] at q
      obtain ⟨rfl, rfl, hdel, hd, ht⟩ := q
      obtain ⟨nm, bs, mro, ns, qn, hdd, sn, sub, ab, col, del⟩ := cd
      dsimp only at hm hdel hd
      subst hm hdel hd
      have hsl : sl = #[k0, k1, k2, k3, some (.builtin "ValueError.__new__"), k5] := by
        obtain ⟨l⟩ := sl
        simp only at hs
        rw [hs]
      subst hsl
      exact ⟨nm, qn, ns, bs, bm, sn, sub, ab, col, dd, k0, k1, k2, k3, k5, ho, ht⟩
    · cases q
  · cases q
/-- what the written part says of the class x at C, whose field is fl, and of its __init__, at fI -/
structure ErrTxt (K : Frag) (mg : Str → Option Value) (x fl : Str) (C fI : Addr) : Prop where
  gC : mg x = some (.ref C)
  cls : ∃ nm q N bs bm sn sub ab col dd k0 k1 k2 k3 k5, K.lookup C = some (excClassObj nm q C N bs bm true sn sub ab col dd k0 k1 k2 k3 k5 "ValueError.__new__") ∧ refsVE bm = true
  sa : findIn K (.ref C) "__setattr__" = some (some (.builtin "object.__setattr__"))
  ga : findIn K (.ref C) "__getattribute__" = some (some (.builtin "BaseException.__getattribute__"))
  gg : findIn K (.ref C) "__getattr__" = some none
  noN : findIn K (.ref C) fl = some none
  iC : findIn K (.ref C) "__init__" = some (some (.ref fI))
  tC : typeIn K (.ref fI) = some (.type "function")
  kC : keepIn K (.ref C) = true
  exC : subIn K (.ref C) (.type "BaseException") = some true
  tyC : typeIn K (.ref C) = some (.type "type")
  hdC : hasDictIn K C = true
  fn : ∃ (oc : Value) (od : Option Addr) (dV kV doc pm : Value) (an : Option Addr) (cdv ct : Value) (osl : Array (Option Value)) (p1 p2 q1 q2 q3 q4 : Pos) (ql : Str),
    K.lookup fI = some ⟨oc, od, .func (fnOf "__init__" ql (iA fl p1 p2) (iB fl q1 q2 q3 q4) (iS fl) .none kV doc pm an cdv ct), osl⟩ ∧ codeIn K cdv ql = true
theorem one_size (v : Value) : [v].length ≤ sizeLine := by
  rw [sizeLine_eq]
  exact (by decide : 1 ≤ 16777216)
theorem ldC {M : Model} {s : Shared} {name : Str} {scope : Scope} {L a : Addr} {cd : Value} {m : Str → Option Value} {x : Str} {pos : Pos} {v : Value} {Q : Value → Shared → Prop} {A : Around} {E : Value → Shared → Prop} (hn : s.heap.Ns L m) (hv : m x = some v) (h : Q v s)
    (hk : scope.kind = .function := by rfl) (hl : (envOfC name scope L a cd).kindOf x = some .local := by rfl) (hd : (x == ("__debug__" : Str)) = false := by decide) :
    wpAny M A (eval (.Name x pos) (envOfC name scope L a cd)) Q E s := wpAny_Name (wpAny_loadName_local hk hl hn hv h) hd
/-- what __init__ leaves of a fresh exception at x -/
structure InitEnd (fl : Str) (h h' : Heap) (x C dx t1 : Addr) (v : Value) : Prop where
  keep : ∀ b o, b ≠ x → h.get? b = some o → h'.get? b = some o
  obj : h'.get? x = some { cls := .ref C, dict := some dx, data := .fields #[.ref t1, .none, .none, .none, .bool false, .none] }
  dbig : h.objs.size ≤ dx
  dne : dx ≠ x
  ns : h'.Ns1 dx (fun y => if y = fl then some v else none)
/-- a made error -/
structure OwnMade (fl : Str) (h h' : Heap) (e C d : Addr) (v : Value) : Prop where
  keep : ∀ b o, h.get? b = some o → h'.get? b = some o
  new : h.objs.size ≤ e
  obj : ∃ oe vs, h'.get? e = some oe ∧ oe.cls = .ref C ∧ oe.dict = some d ∧ oe.data = .fields vs ∧ vs[1]? = some .none
  dbig : h.objs.size ≤ d
  dne : d ≠ e
  ns : h'.Ns1 d (fun y => if y = fl then some v else none)
def FlOk (fl : Str) : Prop := fl = "given" ∨ fl = "index"
section
variable {prog : Program} {w : World} {A : Around} {E : Value → Shared → Prop} {R : Result → Shared → Prop} {s : Shared} {K : Frag} {mg : Str → Option Value} {cx fl : Str} {C fI : Addr}
theorem err_init (hfl : FlOk fl) (T : ErrTxt K mg cx fl C fI) {x t0 : Addr} {v : Value} (X : K.In s.heap) (hlim : s.heap.NoLimit) (hx : s.heap.get? x = some (excO C t0)) (hnx : K.lookup x = none) (hroom : A.depth < recursionLimit)
    (hq : ∀ h' tk dx, InitEnd fl s.heap h' x C dx t0 v → R (.ok (.ret .none)) { s with heap := h', toks := tk }) :
    codeAny (model prog w) A (.call (.ref fI) ⟨[.ref x, v], []⟩) R s := by
  obtain ⟨oc, od, _, kV, doc, pm, an, cdv, ct, osl, p1, p2, q1, q2, q3, q4, ql, ho, hcd⟩ := T.fn
  obtain ⟨nm, q, N, bs, bm, sn, sub, ab, col, dd, k0, k1, k2, k3, k5, hC, hbm⟩ := T.cls
  have hcl : clsIn K C = some { name := nm, bases := bs, mro := .ref C :: bm, ns := N, qualname := q, hasDict := true, slotNames := sn, subclasses := sub, abstract := ab, collection := col, hasDel := false } := by unfold clsIn; rw [hC] <;> rfl
  rcases hfl with rfl | rfl
  · refine Att.call_fn (binds := [("self", .ref x), ("given", v)]) X hlim ho hcd hroom (BindsTo.of_eq (by first | rfl | with_unfolding_all rfl)) (by first | rfl | decide | with_unfolding_all rfl) (fun s₁ IC => ?_) rfl rfl rfl
    obtain ⟨h₁, tk₁, rfl⟩ := IC.toInCall.same
    have k : ∀ b o, s.heap.get? b = some o → h₁.get? b = some o := IC.toInCall.keep
    have hn := IC.toInCall.ns
    have X₁ : K.In h₁ := X.keeps k
    have hx₁ := k _ _ hx
    show wpAny _ _ (execs _ _) _ _ _
    refine wpAny_execs_cons (plainObj_wpAny_Assign_Attribute ?_)
    refine ldC (v := v) hn (by first | rfl | with_unfolding_all rfl | kernel_rfl) (ldC (v := .ref x) hn (by first | rfl | with_unfolding_all rfl | kernel_rfl) ?_)
    refine set_plain X₁ (ox := excO C t0) (od := none) ⟨hx₁, rfl, rfl, trivial⟩ T.sa ?_
    refine exc_osa X₁ hx₁ hcl (show refsVE (.ref C :: bm) = true from hbm) rfl T.noN (fun h₃ tk₃ dx k₃ dn dne hx₃ hn₃ => ?_)
    show wpAny _ _ (execs _ _) _ _ _
    have z : s.heap.objs.size < h₁.objs.size := hn.lt
    exact wpAny_execs_nil (hq h₃ tk₃ dx ⟨fun b o hb e => k₃ b o hb (k b o e), hx₃, Nat.le_of_lt (Nat.lt_of_lt_of_le z dn), dne, hn₃⟩)
  · refine Att.call_fn (binds := [("self", .ref x), ("index", v)]) X hlim ho hcd hroom (BindsTo.of_eq (by first | rfl | with_unfolding_all rfl)) (by first | rfl | decide | with_unfolding_all rfl) (fun s₁ IC => ?_) rfl rfl rfl
    obtain ⟨h₁, tk₁, rfl⟩ := IC.toInCall.same
    have k : ∀ b o, s.heap.get? b = some o → h₁.get? b = some o := IC.toInCall.keep
    have hn := IC.toInCall.ns
    have X₁ : K.In h₁ := X.keeps k
    have hx₁ := k _ _ hx
    show wpAny _ _ (execs _ _) _ _ _
    refine wpAny_execs_cons (plainObj_wpAny_Assign_Attribute ?_)
    refine ldC (v := v) hn (by first | rfl | with_unfolding_all rfl | kernel_rfl) (ldC (v := .ref x) hn (by first | rfl | with_unfolding_all rfl | kernel_rfl) ?_)
    refine set_plain X₁ (ox := excO C t0) (od := none) ⟨hx₁, rfl, rfl, trivial⟩ T.sa ?_
    refine exc_osa X₁ hx₁ hcl (show refsVE (.ref C :: bm) = true from hbm) rfl T.noN (fun h₃ tk₃ dx k₃ dn dne hx₃ hn₃ => ?_)
    show wpAny _ _ (execs _ _) _ _ _
    have z : s.heap.objs.size < h₁.objs.size := hn.lt
    exact wpAny_execs_nil (hq h₃ tk₃ dx ⟨fun b o hb e => k₃ b o hb (k b o e), hx₃, Nat.le_of_lt (Nat.lt_of_lt_of_le z dn), dne, hn₃⟩)
theorem err_made (hfl : FlOk fl) (T : ErrTxt K mg cx fl C fI) {v : Value} (X : K.In s.heap) (hlim : s.heap.NoLimit) (hroom : A.depth + 1 < recursionLimit)
    (hq : ∀ h' tk e d, OwnMade fl s.heap h' e C d v → R (.ok (.ret (.ref e))) { s with heap := h', toks := tk }) :
    codeAny (model prog w) A (.call (.ref C) ⟨[v], []⟩) R s := by
  obtain ⟨nm, q, N, bs, bm, sn, sub, ab, col, dd, k0, k1, k2, k3, k5, hC, hbm⟩ := T.cls
  obtain ⟨hp, g, dr, tk, os⟩ := s
  have k : ∀ b o, hp.get? b = some o → ((hp.push (kdv_tup [v])).push (excO C hp.objs.size)).get? b = some o := fun b o e => Heap.get?_push_of_some _ (Heap.get?_push_of_some _ e)
  have hget : ((hp.push (kdv_tup [v])).push (excO C hp.objs.size)).get? (hp.objs.size + 1) = some (excO C hp.objs.size) := by heap_get
  have hnx : K.lookup (hp.objs.size + 1) = none := by
    cases e : K.lookup (hp.objs.size + 1) with
    | none => rfl
    | some o =>
      have z : hp.get? (hp.objs.size + 1) = some o := X _ _ e
      exact absurd (Nat.lt_of_succ_lt (Heap.lt_size z)) (Nat.lt_irrefl _)
  refine call_own F.excBase_ValueError (fun X => refsVE_contains X bm hbm) (X _ _ hC) (looks_findIn X T.iC) (fun self => bind_fn X self T.tC) (one_size v) ?_
  refine err_init (s := ⟨(hp.push (kdv_tup [v])).push (excO C hp.objs.size), g, dr, tk, os⟩) hfl T (X.keeps k) (hlim.keeps k) hget hnx ?_ fun h' tk' dx ⟨k', hx, dn, dne, hns⟩ => ?_
  · show A.depth + 1 < recursionLimit
    exact hroom
  · have old : ∀ b o, hp.get? b = some o → h'.get? b = some o := fun b o e => k' b o (Nat.ne_of_lt (Nat.lt_succ_of_lt (Heap.lt_size e))) (k b o e)
    have z : hp.objs.size + 1 + 1 ≤ dx := by
      first
        | (simpa only [Heap.size_push] using dn)
        | exact dn
        | (have q := dn; rw [Heap.size_push, Heap.size_push] at q; exact q)
    exact ⟨rfl, hq h' tk' (hp.objs.size + 1) dx ⟨old, Nat.le_succ _, ⟨_, _, hx, rfl, rfl, rfl, rfl⟩, Nat.le_trans (Nat.le_trans (Nat.le_succ _) (Nat.le_succ _)) z, dne, hns⟩⟩
end
end ZX
end PySem
namespace Z
open PySem PySem.Spec PyProof.Rows L2 PySem.ZX
theorem relO_err {fl : Str} {v : V} {v' : Value} (r : RelV v v') (f : Str) : RelO (List.lookup f [(fl, v)]) (if f = fl then some v' else none) := by
  by_cases hw : f = fl
  · subst hw
    rw [if_pos rfl]
    have q : List.lookup f [(f, v)] = some v := by simp [List.lookup]
    rw [q]
    exact r
  · rw [if_neg hw]
    have qw : (f == fl) = false := by simpa using hw
    have q2 : List.lookup f [(fl, v)] = none := by simp [List.lookup, qw]
    rw [q2]
    trivial
section
variable {X : Cx} {C : Cf} {W : XW} {Ca fI : Addr} {x fl : Str}
/-- C(e) -/
def tMkErr (fl : Str) (C : Addr) (ta : TA) : St → Hp → XK → Prop := fun σ H Q => ta σ H fun vs H1 => ∃ v, vs = [v] ∧ ∀ d, H1 d = none → Q (.ref C) (some d) (upd H1 d (.xd [(fl, v)]))
theorem pmk_err (hfl : FlOk fl) {a : Expr} {ta : TA} {p pos : Pos} {k : Nat} (T : ErrTxt X.K X.mg x fl Ca fI) (hr : Room k X.A) (ha : PA X [a] ta) (hg : Gl X x) (hdb : (x == ("__debug__" : Str)) = false)
    (he : starEach (a :: []) X.env = (false, eval a X.env) :: starEach [] X.env) (hpl : (backTo pos (starEach [] X.env)).any (·.1) = false) :
    PMk X (.Call (.Name x p) [a] [] pos) (tMkErr fl Ca ta) := by
  intro pins s σ H Q I h
  refine wpAny_Call_Name_kw (ld_glob I hg T.gC ?_ hdb)
  refine PySem.W.callWith_K (h₀ := X.base) I.ok.mod.kin T.kC (thn (ha.run pos pins s σ H _ I h) fun us s1 hh => ?_) he hpl
  obtain ⟨vs, H1, I1, r1, v, ev, q1⟩ := hh
  subst ev
  refine ⟨I1.kIn, ?_⟩
  cases r1 with
  | cons rv rn =>
    rename_i v' us'
    cases rn
    show wpAny _ _ (call (.ref Ca) [v']) _ _ _
    have hlim := I1.nolimit
    obtain ⟨hp, g, dr, tk, os⟩ := s1
    refine wpAny_call (err_made hfl T I1.kIn hlim (by have := hr.dp; omega) fun h' tk' e d M => ?_)
    show MkP X pins σ Q (.ref e) ⟨h', g, dr, tk', os⟩
    obtain ⟨oe, fv, hoe, hc, hd, hdat, h1⟩ := M.obj
    have hns := M.ns
    obtain ⟨G', g1, g2⟩ := restrict h' fun b => decide (b ≠ e)
    have gk : ∀ b, b ≠ e → G'.get? b = h'.get? b := fun b hb => g1 b (decide_eq_true hb)
    have ge : G'.get? e = none := g2 e (by simp)
    have old : ∀ b o, hp.get? b = some o → G'.get? b = some o := fun b o q => (gk b (Nat.ne_of_lt (Nat.lt_of_lt_of_le (Heap.lt_size q) M.new))).trans (M.keep b o q)
    have ob : ObjOk X.prog X.w (upd H1 d (.xd [(fl, v)])) G' d (.xd [(fl, v)]) :=
      ⟨_, hns.at (fun o q => (gk d M.dne).trans q), fun f => relO_err rv f⟩
    have J : L2.Inv X pins σ (upd H1 d (.xd [(fl, v)])) ⟨G', g, dr, tk', os⟩ := I1.laid (t' := tk') old M.dbig ob
    refine ⟨e, oe, fv, ⟨G', g, dr, tk', os⟩, _, .ref Ca, some d, rfl, J, fun b o q => ?_, ge, hoe, ⟨hc, hd⟩, hdat, h1, ?_, rfl, I1.bare, raises_own T.exC T.tyC, q1 d (I1.hok.fresh M.dbig)⟩
    · by_cases hb : b = e
      · have q' : G'.get? b = some o := q
        rw [hb, ge] at q'; cases q'
      · exact (gk b hb).symm.trans q
    · rw [upd_ne (Ne.symm M.dne)]
      exact I1.hok.fresh M.new
def sRaise (c : Str) (A : SEm) : SSm := fun σ => M.bind (A σ) fun v h => .exc c v h
/-- raise C(e) -/
theorem s_raise (hfl : FlOk fl) {a : Expr} {A : SEm} {p pos pos2 : Pos} {k : Nat} (hcls : C.cls x = Ca) (hfld : C.fld x = fl) (hc : X.calm = true) (T : ErrTxt X.K X.mg x fl Ca fI) (hr : Room k X.A) (tk : Takes X W) (ha : PE X a (simE C W A)) (hg : Gl X x) (hdb : (x == ("__debug__" : Str)) = false)
    (he : starEach [a] X.env = [(false, eval a X.env)]) (hpl : (backTo pos (starEach [] X.env)).any (·.1) = false) (he0 : starEach [] X.env = []) :
    PS X (.Raise (some (.Call (.Name x p) [a] [] pos)) none pos2) (simS C W (sRaise x A)) := by
  have hA : PA X [a] (tCons (simE C W A) tNil) := pa_cons ha pa_nil (by rw [he, he0])
  refine PS.imp (ps_raise hc tk (pmk_err hfl T hr hA hg hdb (by rw [he, he0]) hpl)) fun σ H D ⟨μ, sa, ah, rs, rh, hp⟩ => ?_
  refine ⟨μ, sa, ah, rs, rh, Post.mono (PostS.bind (rel := RV C.K) hp σ) fun v H1 ⟨μ1, a, h1, f1, r1, ra, hp⟩ => ⟨v, rfl, fun d hd => ?_⟩⟩
  have hp := hp μ1 (upd H1 d (.xd [(fl, v)])) d v (Fut.new hd) (r1.new hd) (RV.fut (Fut.new hd) _ _ ra) (by rw [hfld]; exact upd_same) σ
  rw [hcls] at hp
  exact hp
end
end Z

set_option maxHeartbeats 2000000
namespace Z
open PySem PySem.Spec PyProof.Rows L2 PySem.ZX LamX
/-! ### a lambda handed to a def that calls it within a try -/
section
variable {X : Cx} {pins : List (Addr × Obj)} {σ : St} {H : Hp} {s : Shared}
/-- the lambda is called in the def that got it: what is wished of an exception is told at the slots of the call -/
theorem pe_actW {CXg : CXT} {Eg : XK} {Ng : List Str} {qg : Str} {sg : Scope} {g f c' : Addr} {cdg pm ctv : Value} {params : Arguments} {body : Expr} {scope : Scope} {k i : Nat} {a : Str} {pn : List (Addr × Obj)} {xe : Value → Shared → Prop} {W : WX} {tb : XK → TE} {p1 p2 : Pos}
    (I : L2.Inv X pins σ H s) (L : LamS X.env.scope scope) (hf : s.heap.get? f = some (PySem.W.kla_obj "<lambda>" (X.env.qual ++ "<lambda>") params body scope (cloFrom X.env.cells scope.names []) pm c' ctv)) (hfn : H f = none) (hfr : f ∉ frs X.stack)
    (hbind : bindArgs (PySem.W.kla_fn "<lambda>" (X.env.qual ++ "<lambda>") params body scope (cloFrom X.env.cells scope.names []) pm (.ref c') ctv) ⟨[], []⟩ = pure [])
    (tk : Takes ((cxOf CXg X.prog X.w X.K X.mg X.base Ng qg sg g cdg X.A X.stack s H Eg).tr pn xe) W) (hr : Room (k + 1) (X.A.deeper (envOfC qg sg s.heap.objs.size g cdg)))
    (hbody : ∀ (E : XK) (A : Around) (outer : List Env) (s : Shared) (H : Hp), Room k (A.deeper (lamEnv X scope s.heap.objs.size f c')) → PE (lamCx X A outer s H E scope f c') body (tb E))
    (hN : Ng[i]? = some a) (hv : Vis sg a) (hd : (a == ("__debug__" : Str)) = false) (hcd : (a == ("__classdict__" : Str)) = false) :
    PE ((cxOf CXg X.prog X.w X.K X.mg X.base Ng qg sg g cdg X.A X.stack s H Eg).tr pn xe) (.Call (.Name a p1) [] [] p2)
      (fun σZ HZ Q => σZ[i]? = some (some (.ref f)) ∧ HZ c' = some (CodeO c' (X.env.qual ++ "<lambda>")) ∧ tb (fun cls d H => W cls d σZ H) σ HZ Q) := by
  refine ⟨fun pinsZ sZ σZ HZ Q IZ h => ?_⟩
  obtain ⟨hs, hc, ht⟩ := h
  have hvar := (pe_var (pos := p1) (i := i) hN hv hd hcd).run pinsZ sZ σZ HZ (fun v H1 => v = .ref f ∧ H1 = HZ) IZ ⟨.ref f, hs, rfl, rfl⟩
  refine wpAny_Call_Name_kw (thn hvar fun u s1 hu => ?_)
  obtain ⟨v, H1, I1, r1, rfl, rfl⟩ := hu
  obtain rfl : u = Value.ref f := r1
  have of1 := I1.base.keep f _ hf hfn hfr (fun z => nomatch (show f ∈ ([] : List Addr) from z))
  obtain ⟨⟨oc, vs, t, hoc, hdc, hvc⟩, _, _⟩ := I1.hok c' _ hc
  have rc : codeAny (model X.prog X.w) (X.A.deeper (envOfC qg sg s.heap.objs.size g cdg)) (.call (.ref f) ⟨[], []⟩) (CR (L2.CX X.prog X.w) (envOfC qg sg s.heap.objs.size g cdg :: X.stack) X.prog X.w H1 s1 Q fun cls d H => W cls d σZ H) s1 := by
    refine PySem.W.kla_callFunE hr.depth of1 rfl L.co L.gen rfl ⟨c', oc, vs, t, rfl, hoc, hdc, hvc⟩ ?_
    rw [hbind]
    refine wpAny_pure (wpAny_newFunctionEnv (fun y hy => (L.own y hy).2) (fun y hy => absurd hy (by simp)) (fun h₁ hns hsb => ⟨I1.nolimit.fresh _ hsb, ?_⟩) L.kind)
    have J := lam_start2 (E := fun cls d H => W cls d σZ H) (f := f) (c' := c') (tk := s1.toks + ([] : List (Str × Value)).length) I L I1.env0 hr.hd I1.base hns fun b o e => hsb.extBut b o (Nat.ne_of_lt (Heap.lt_size e)) (Heap.get?_push_of_some _ e)
    refine PySem.W.kla_codeExpr (wpAny_mono ((hbody _ _ _ s1 H1 (hr.deeper _)).run [] _ _ H1 Q J ht) (fun v s' hq => ?_) fun e s' hq => hq)
    obtain ⟨w', H', J', rv, q⟩ := hq
    exact ⟨w', H', J'.os, J'.bare, J'.base, J'.hok, rv, q⟩
  refine PySem.W.callWith_F0 ⟨_, _, _, _, of1⟩ (wpAny_call (codeAny_mono rc fun r s' hq => ?_))
  cases r with
  | error e => exact passAt tk σZ pinsZ H1 s1 e s' I1 hq
  | ok fl =>
    cases fl with
    | ret u => exact I1.after hq
    | next => exact False.elim hq
    | brk => exact False.elim hq
    | cont => exact False.elim hq
end
/-- what the def makes of the lambda's reading -/
def GivesW (X : Cx) (Ng : List Str) (x : Str) (sg : Scope) (g : Addr) (cdg : Value) (bg : List Stmt) (a : Str) (q : Str) (TT : (XK → Hp → VK → Prop) → Hp → VK → Prop) : Prop :=
  ∀ (f c' : Addr) (s : Shared) (H : Hp) (Q : VK) (tl : XK → Hp → VK → Prop),
    (∀ (W : WX) (pn : List (Addr × Obj)) (xe : Value → Shared → Prop) (p1 p2 : Pos), Takes ((cxOf C8.CX0 X.prog X.w X.K X.mg X.base Ng x sg g cdg X.A X.stack s H C8.E0).tr pn xe) W →
      PE ((cxOf C8.CX0 X.prog X.w X.K X.mg X.base Ng x sg g cdg X.A X.stack s H C8.E0).tr pn xe) (.Call (.Name a p1) [] [] p2) (fun σZ HZ Q => σZ[0]? = some (some (.ref f)) ∧ HZ c' = some (CodeO c' q) ∧ tl (fun cls d H => W cls d σZ H) HZ Q)) →
    (∀ E E' H Q Q', (∀ c d H, E c d H → E' c d H) → (∀ v H, Q v H → Q' v H) → tl E H Q → tl E' H Q') → H c' = some (CodeO c' q) → TT tl H Q →
    ∃ t, PSs (cxOf C8.CX0 X.prog X.w X.K X.mg X.base Ng x sg g cdg X.A X.stack s H C8.E0).nox bg t ∧ t { nx := fun _ H' => Q .non H', rt := Q } (L2.start Ng [.ref f]) H
section
variable {X : Cx}
/-- x(lambda: body) -/
theorem pe_lamW {T : List (Addr × Str)} {TT : (XK → Hp → VK → Prop) → Hp → VK → Prop} {x a : Str} {g c P : Addr} {k : Nat} {pg : Arguments} {bg : List Stmt} {sg : Scope} {dV kV doc pm cdv ct oc : Value} {an od : Option Addr} {osl : Array (Option Value)} {Ng : List Str}
    {params : Arguments} {body : Expr} {scope : Scope} {t : XK → TE} {p lpos pos : Pos} (hg : Gl X x) (hm : X.mg x = some (.ref g)) (hk : PySem.W.keepIn X.K (.ref g) = true)
    (lk : X.K.lookup g = some ⟨oc, od, .func (PySem.W.fnOf x x pg bg sg dV kV doc pm an cdv ct), osl⟩) (hcg : PySem.W.codeIn X.K cdv x = true) (hb : L2.Binds X.K (PySem.W.fnOf x x pg bg sg dV kV doc pm an cdv ct) [a] []) (Sg : FnScope Ng [a] sg) (hNg : Ng[0]? = some a) (hva : Vis sg a)
    (hG : GivesW X Ng x sg g cdv bg a (X.env.qual ++ "<lambda>") TT)
    (TB : TabB X.base X.mg c P) (hcode : X.env.code = .ref c) (hmT : (P, X.env.qual ++ "<lambda>") ∈ T) (hu : ∀ p ∈ T, p.1 = P → p.2 = X.env.qual ++ "<lambda>") (hr : Room (k + 2) X.A) (L : LamS X.env.scope scope) (hdef : defaultsOf params X.env = ([], []))
    (hbind : ∀ (q : Str) (cl : List (Str × Addr)) (pm cv ctv : Value), bindArgs (PySem.W.kla_fn "<lambda>" q params body scope cl pm cv ctv) ⟨[], []⟩ = pure [])
    (hbody : ∀ (E : XK) (A : Around) (outer : List Env) (s : Shared) (H : Hp) (f c' : Addr), Room k (A.deeper (lamEnv X scope s.heap.objs.size f c')) → PE (lamCx X A outer s H E scope f c') body (t E))
    (hmono : ∀ (E E' : XK) σ H (Q Q' : VK), (∀ c d H, E c d H → E' c d H) → (∀ v H, Q v H → Q' v H) → t E σ H Q → t E' σ H Q')
    (hdb : (x == ("__debug__" : Str)) = false) (hd : (a == ("__debug__" : Str)) = false) (hcd : (a == ("__classdict__" : Str)) = false) :
    PE X (.Call (.Name x p) [.Lambda params body scope lpos] [] pos) (tLam T TT t) := by
  refine ⟨fun pins s σ H Q I h => ?_⟩
  obtain ⟨hT, h⟩ := h
  refine wpAny_Call_Name_kw (ld_glob I hg hm (PySem.W.callWith_K (h₀ := X.base) I.ok.mod.kin hk ?_ (by rfl) (by rfl)) hdb)
  refine Calls.spliced_cons (lam_make2 I TB hcode hmT hu hT hdef (L.has I.ok) fun f c' pm' ctv H1 s' I1 eN T1 hf hfn hfr hco => Calls.spliced_nil ⟨I1.kIn, ?_⟩)
  refine wpAny_call (codeAny_mono (R := CR C8.CX0 X.stack X.prog X.w H1 s' Q C8.E0) ?_ ?_)
  · refine run_ofS (N := Ng) (ps := [a]) (us := [.ref f]) (vs := [.ref f]) lk hcg Sg hr I1.env0 (hb s' [.ref f] I1.kIn rfl) (.cons rfl .nil) rfl fun hr' => ?_
    obtain ⟨t', ht', hq'⟩ := hG f c' s' H1 Q (fun E H' Q' => t E σ H' Q') (fun W pn xe p1 p2 tk => pe_actW (i := 0) I1 L hf hfn hfr (hbind _ _ _ _ _) tk hr' (fun E A outer s H hr2 => hbody E A outer s H f c' hr2) hNg hva hd hcd) (fun E E' H' Q1 Q2 => hmono E E' σ H' Q1 Q2) hco (h H1 eN T1)
    exact ⟨t', ht'.nox, hq'⟩
  · intro r s2 hq
    cases r with
    | error e => exact (show False from hq).elim
    | ok fl =>
      cases fl with
      | ret u => exact I1.after hq
      | next => exact False.elim hq
      | brk => exact False.elim hq
      | cont => exact False.elim hq
/-- e.fl, e the exception that the suite holds -/
theorem pe_errFld {mg : Str → Option Value} {x fl : Str} {Ca fI a : Addr} {oe : Obj} {cls : Value} {d : Option Addr} {pn : List (Addr × Obj)} {e : Expr} {te : TE} {pos : Pos} (T : ErrTxt X.K mg x fl Ca fI) (hz : Zc cls d oe) (hf : ∃ vs, oe.data = .fields vs) (he : PE (X.suite a ((a, oe) :: pn)) e te)
    (hb : attributeBase e fl X.env (eval e X.env) = eval e X.env) :
    PE (X.suite a ((a, oe) :: pn)) (.Attribute e fl pos) (fun σ H Q => te σ H fun x H1 => x = .ref a ∧ cls = .ref Ca ∧ ∃ (dd : Addr) (v : V), d = some dd ∧ H1 dd = some (.xd [(fl, v)]) ∧ Q v H1) := by
  refine ⟨fun pins s σ H Q I h => attr_of hb (thn (he.run pins s σ H _ I h) fun u s1 hh => ?_)⟩
  obtain ⟨x, H1, I1, rx, rfl, rfl, dd, v, rfl, ea, q⟩ := hh
  obtain rfl : u = Value.ref a := rx
  obtain ⟨ha, _⟩ := I1.pin (a, oe) (List.mem_append_left _ List.mem_cons_self)
  obtain ⟨vs, hd⟩ := hf
  obtain ⟨mA, hns, hr⟩ := (show ObjOk X.prog X.w H1 s1.heap dd (.xd [(fl, v)]) from I1.hok dd _ ea)
  obtain ⟨od, ho, hl⟩ := lookIn_ns hns
  obtain ⟨u, hu, ru⟩ := RelO.some_of (v := v) (o := mA fl) (by
    have l : List.lookup fl [(fl, v)] = some v := by simp [List.lookup]
    rw [← l]; exact hr fl)
  exact HandSPX.exc_get I1.kIn (⟨ha, hz.1, by unfold PySem.W.notCls; rw [hd] <;> rfl, by rw [hz.2]; exact ho⟩ : PySem.W.InstAt s1.heap a oe Ca (some od)) T.ga T.gg T.exC (PySem.W.findObj_own T.hdC T.noN rfl (by rw [hl, hu])) (handed_of ru) ⟨v, H1, I1.tok _, ru, q⟩
end
/-- told: try: return [told, a()] / except y as n: return [tag, n.fl] -/
def TTl (y : Addr) (fl : Str) (told tag : Str) : (XK → Hp → VK → Prop) → Hp → VK → Prop := fun tl H Q =>
  tl (fun cls d H' => cls = .ref y ∧ ∃ dd v, d = some dd ∧ H' dd = some (.xd [(fl, v)]) ∧ ∀ p, H' p = none → Q (.ref p) (upd H' p (.lst [.str tag, v]))) H (fun v H' => ∀ p, H' p = none → Q (.ref p) (upd H' p (.lst [.str told, v])))
section
variable {X : Cx}
theorem tk_nox {X : Cx} : Takes X.nox (fun _ _ _ _ => False) := fun _ _ x => by
  obtain ⟨_, _, _, _, _, _, _, _, _, _, _, _, _, _, _, _, z⟩ := x
  exact z.elim
theorem gives_told {Ng : List Str} {x a y n q told tag fl : Str} {sg : Scope} {g Cy fI : Addr} {cdg : Value} {j j0 : Nat} {np p0 p1 p2 p3 p5 p6 p7 p8 p9 p10 p11 p12 : Pos} (T : ErrTxt X.K X.mg y fl Cy fI) (hge : sg.names.lookup y = some .globalImplicit) (hde : (y == ("__debug__" : Str)) = false)
    (hex : PySem.W.exmOne X.K (.ref Cy) (.ref Cy) = some true) (hN : Ng = [a, n]) (hnd : Ng.Nodup) (hln : ∀ L : Addr, (envOfC x sg L g cdg).kindOf n = some .local) (hvn : Vis sg n) (hdn : (n == ("__debug__" : Str)) = false) (hcn : (n == ("__classdict__" : Str)) = false)
    (hs1 : ∀ (env : Env), starEach [.Constant (.str told) j0 p0, .Call (.Name a p1) [] [] p2] env = [(false, eval (.Constant (.str told) j0 p0) env), (false, eval (.Call (.Name a p1) [] [] p2) env)])
    (hs2 : ∀ (env : Env), starEach [.Call (.Name a p1) [] [] p2] env = [(false, eval (.Call (.Name a p1) [] [] p2) env)])
    (hs3 : ∀ (env : Env), starEach [.Constant (.str tag) j p5, .Attribute (.Name n p10) fl p11] env = [(false, eval (.Constant (.str tag) j p5) env), (false, eval (.Attribute (.Name n p10) fl p11) env)])
    (hs4 : ∀ (env : Env), starEach [.Attribute (.Name n p10) fl p11] env = [(false, eval (.Attribute (.Name n p10) fl p11) env)])
    (hab : ∀ (L : Addr), attributeBase (.Name n p10) fl (envOfC x sg L g cdg) (eval (.Name n p10) (envOfC x sg L g cdg)) = eval (.Name n p10) (envOfC x sg L g cdg)) :
    GivesW X Ng x sg g cdg [.Try [.Return (some (.List [.Constant (.str told) j0 p0, .Call (.Name a p1) [] [] p2] p9)) p3] [.ExceptHandler (some (.Name y np)) (some n) [.Return (some (.List [.Constant (.str tag) j p5, .Attribute (.Name n p10) fl p11] p12)) p6] p7] [] [] p8] a q (TTl Cy fl told tag) := by
  intro f c' s H Q tl act mono hc h
  subst hN
  refine ⟨_, pss_one (ps_try_as (X := (cxOf C8.CX0 X.prog X.w X.K X.mg X.base [a, n] x sg g cdg X.A X.stack s H C8.E0).nox) (c := .ref Cy) (i := 1) (Wout := fun _ _ _ _ => False)
      (tb := fun W => tRet (tLst (tCons (tC (.str told)) (tCons (fun σZ HZ Q => σZ[0]? = some (some (.ref f)) ∧ HZ c' = some (CodeO c' q) ∧ tl (fun cls d H => W cls d σZ H) HZ Q) tNil))))
      (ts := fun a cls d => tRet (tLst (tCons (tC (.str tag)) (tCons (fun σ H Q => tVar 1 σ H fun x H1 => x = .ref a ∧ cls = .ref Cy ∧ ∃ (dd : Addr) (v : V), d = some dd ∧ H1 dd = some (.xd [(fl, v)]) ∧ Q v H1) tNil))))
      rfl rfl hnd rfl (hln _) ⟨hge, hde, .inl T.gC⟩ tk_nox (fun W pn xe tk _ => ?_) (fun a oe cls d pn hz hf => ?_)), ?_⟩
  · exact pss_one (ps_ret (pe_lst (pa_cons pe_str (pa_cons (act W pn xe p1 p2 tk) pa_nil (hs2 _)) (by rw [hs1, hs2]))))
  · refine pss_one (ps_ret (pe_lst (pa_cons pe_str (pa_cons (pe_errFld (X := (cxOf C8.CX0 X.prog X.w X.K X.mg X.base [_, n] x sg g cdg X.A X.stack s H C8.E0).nox) T hz hf (pe_var (i := 1) rfl hvn hdn hcn) (hab _)) pa_nil (hs4 _)) (by rw [hs3, hs4]))))
  · have two : ∀ x y : V, [x, y].length ≤ sizeLine := fun x y => by rw [line_eq]; exact (by decide : 2 ≤ 16777216)
    refine ⟨rfl, hc, mono _ _ _ _ _ (fun cls d H' z => ?_) (fun v H' z => ⟨two _ _, z⟩) h⟩
    obtain ⟨rfl, dd, v, rfl, e1, z⟩ := z
    refine ⟨true, hex, fun _ a ha => ?_, fun z => Bool.noConfusion z⟩
    exact ⟨.ref a, rfl, rfl, rfl, dd, v, rfl, e1, two _ _, z⟩
end
end Z

set_option maxHeartbeats 2000000
namespace Z
open PySem PySem.Spec PyProof.Rows L2 PySem.ZX LamX
section
variable {C : Cf} {μ : List Addr} {H H1 : Hp}
theorem RO.extN {a : Addr} {o : AO} (f : Fut μ H μ H1) (e : ExtN H H1) (h : RO C μ H a o) : RO C μ H1 a o := by
  cases o with
  | lst xs => obtain ⟨vs, h1, h2⟩ := h; exact ⟨vs, e _ _ h1 (fun _ z => nomatch z), RVs.fut f _ _ h2⟩
  | dic kvs => obtain ⟨vs, h1, h2⟩ := h; exact ⟨vs, e _ _ h1 (fun _ z => nomatch z), KVa.fut f _ _ h2⟩
  | ins c fs => obtain ⟨dx, vs, h1, h2⟩ := h; exact ⟨dx, vs, e _ _ h1 (fun _ z => nomatch z), FVa.fut f _ _ h2⟩
theorem Fut.extN (e : ExtN H H1) : Fut μ H μ H1 := ⟨fun _ _ h => h, fun b xs h => e _ _ h (fun _ z => nomatch z), fun b o u h => e _ _ h (fun _ z => nomatch z)⟩
theorem RelH.extN {ah : AH} (r : RelH C μ H ah) (e : ExtN H H1) (t : Tabs C.T H1) : RelH C μ H1 ah :=
  ⟨r.len, r.nd, fun i o h => let ⟨a, ha, ho⟩ := r.at_ i o h; ⟨a, ha, RO.extN (Fut.extN e) e ho⟩, t⟩
theorem Post.mono2 {α β : Type} {E E' : XK} {rel : Rel α β} {r : R α} {Q Q' : β → Hp → Prop} (h : Post C E μ H rel r Q) (i : ∀ c d H, E c d H → E' c d H) (j : ∀ v H, Q v H → Q' v H) : Post C E' μ H rel r Q' := Post.weakE (Post.mono h j) i
end
/-- what the def makes of the lambda -/
def Hears (C : Cf) (TT : (XK → Hp → VK → Prop) → Hp → VK → Prop) (F : M AV → M AV) : Prop :=
  ∀ (tl : XK → Hp → VK → Prop) (μ : List Addr) (H : Hp) (E : XK) (Q : VK) (m : M AV) (ah : AH), (∀ E Q', Post C E μ H (RV C.K) (m ah) Q' → tl E H Q') → Post C E μ H (RV C.K) (F m ah) Q → TT tl H Q
def heardF (y : Str) (told tag : List Nat) (m : M AV) : M AV := fun h => match m h with
  | .ok a h => alloc (.lst [.str told, a]) h
  | .exc c v h => if c = y then alloc (.lst [.str tag, v]) h else .stk
  | .stk => .stk
theorem hears_told {C : Cf} {y fl : Str} {Cy : Addr} {told tag : List Nat} (hcls : C.cls y = Cy) (hfld : C.fld y = fl) (h1 : ∀ c ∈ told, c < 1114112) (h2 : ∀ c ∈ tag, c < 1114112) : Hears C (TTl Cy fl (mkS told) (mkS tag)) (heardF y told tag) := by
  intro tl μ H E Q m ah htl hp
  unfold heardF at hp
  unfold TTl
  refine htl _ _ ?_
  cases e : m ah with
  | stk => rw [e] at hp; exact hp
  | ok a h =>
    rw [e] at hp
    exact fun μ' H' v f r rv => Post.alloc r (Post.fut f hp) (RVs.cons (rv_str h1) (RVs.cons rv RVs.nil))
  | exc c a h =>
    rw [e] at hp
    by_cases hc : c = y
    · subst hc
      have hp : Post C E μ H (RV C.K) (alloc (.lst [.str tag, a]) h) Q := by simpa using hp
      intro μ' H' d v f r rv hd
      rw [hcls]
      rw [hfld] at hd
      exact ⟨rfl, d, v, rfl, hd, Post.alloc r (Post.fut f hp) (RVs.cons (rv_str h2) (RVs.cons rv RVs.nil))⟩
    · simp only [if_neg hc] at hp
      exact (show False from hp).elim
def eLam (F : M AV → M AV) (m : SEm) : SEm := fun σ => F (m σ)
section
variable {X : Cx} {C : Cf} {W : XW}
/-- heard(lambda: body) -/
theorem s_lam {TT : (XK → Hp → VK → Prop) → Hp → VK → Prop} {F : M AV → M AV} {m : SEm} {x a : Str} {g c P : Addr} {k : Nat} {pg : Arguments} {bg : List Stmt} {sg : Scope} {dvs : List V} {kws : List (Str × V)} {fd : FuncData} {Ng : List Str}
    {params : Arguments} {body : Expr} {scope : Scope} {p lpos pos : Pos} (hH : Hears C TT F) (hg : Gl X x) (hm : X.mg x = some (.ref g)) (FD : FunD X.K x x pg bg sg dvs kws g fd) (hb : L2.Binds X.K fd [a] []) (Sg : FnScope Ng [a] sg) (hNg : Ng[0]? = some a) (hva : Vis sg a)
    (hG : ∀ cdv, GivesW X Ng x sg g cdv bg a (X.env.qual ++ "<lambda>") TT)
    (TB : TabB X.base X.mg c P) (hcode : X.env.code = .ref c) (hmT : (P, X.env.qual ++ "<lambda>") ∈ C.T) (hu : ∀ p ∈ C.T, p.1 = P → p.2 = X.env.qual ++ "<lambda>") (hr : Room (k + 2) X.A) (L : LamS X.env.scope scope) (hdef : defaultsOf params X.env = ([], []))
    (hbind : ∀ (q : Str) (cl : List (Str × Addr)) (pm cv ctv : Value), bindArgs (PySem.W.kla_fn "<lambda>" q params body scope cl pm cv ctv) ⟨[], []⟩ = pure [])
    (hbody : ∀ (E : XK) (A : Around) (outer : List Env) (s : Shared) (H : Hp) (f c' : Addr), Room k (A.deeper (lamEnv X scope s.heap.objs.size f c')) → PE (lamCx X A outer s H E scope f c') body (simE C (fun c d _ H => E c d H) m))
    (hdb : (x == ("__debug__" : Str)) = false) (hd : (a == ("__debug__" : Str)) = false) (hcd : (a == ("__classdict__" : Str)) = false) :
    PE X (.Call (.Name x p) [.Lambda params body scope lpos] [] pos) (simE C W (eLam F m)) := by
  obtain ⟨oc, od, dV, kV, doc, pm, an, cdv, ct, osl, rfl, lk, hc, _, _⟩ := FD.ex
  refine PE.imp (pe_lamW (T := C.T) (t := fun E => simE C (fun c d _ H => E c d H) m) hg hm FD.kp lk hc hb Sg hNg hva (hG cdv) TB hcode hmT hu hr L hdef hbind hbody ?_ hdb hd hcd) fun σ H Q ⟨μ, sa, ah, rs, rh, hp⟩ => ?_
  · rintro E E' σ H Q Q' i j ⟨μ, sa, ah, rs, rh, hp⟩
    exact ⟨μ, sa, ah, rs, rh, Post.mono2 hp i j⟩
  · refine ⟨rh.tabs, fun H1 e t => ?_⟩
    exact hH _ μ H1 _ Q (m sa) ah (fun E Q' hq => ⟨μ, sa, ah, rs.fut (Fut.extN e), rh.extN e t, hq⟩) (Post.fut (Fut.extN e) hp)
end
end Z

set_option maxHeartbeats 2000000
namespace Z
open PySem PySem.Spec PyProof.Rows L2 PySem.ZX LamX
def visB (sc : Scope) (x : Str) : Bool := match sc.names.lookup x with
  | some .local => true
  | some .cell => true
  | some .free => true
  | _ => false
theorem vis_by {sc : Scope} {x : Str} (h : visB sc x = true) : Vis sc x := by
  unfold visB at h
  unfold Vis
  cases e : sc.names.lookup x with
  | none => rw [e] at h; cases h
  | some k => rw [e] at h; cases k <;> simp at h ⊢
def locB (sc : Scope) (x : Str) : Bool := match sc.names.lookup x with
  | some .local => true
  | some .cell => true
  | _ => false
theorem loc_by {sc : Scope} {x : Str} (h : locB sc x = true) : L2.Loc sc x := by
  unfold locB at h
  unfold L2.Loc
  cases e : sc.names.lookup x with
  | none => rw [e] at h; cases h
  | some k => rw [e] at h; cases k <;> simp at h ⊢
section
variable {X : Cx} {C : Cf} {W : XW}
/-! ### f'..' -/
theorem s_fmt {e : Expr} {A : SEm} {pos : Pos} (ha : PE X e (simE C W A)) : PE X (.FormattedValue e (-1) none pos) (simE C W (eUn aFmt A)) := by
  refine PE.imp (pe_fmt ha) fun σ H Q h => ?_
  obtain ⟨μ, sa, ah, rs, rh, hp⟩ := sim.step (rel := RV C.K) (m := A) (f := fun sa x => aFmt x) h
  refine ⟨μ, sa, ah, rs, rh, Post.mono hp fun v H1 ⟨μ, sa, ah, a, rs, rh, ra, hp⟩ => ?_⟩
  unfold aFmt at hp
  cases a <;> try exact (show False from hp).elim
  · rename_i i
    cases ra.intI
    obtain ⟨⟨l1, l2⟩, hp⟩ := Post.ifE' hp
    refine .inr ⟨i, rfl, ?_, ?_⟩
    · have : i.natAbs < 2 ^ 60 := by omega
      by_cases h0 : i.natAbs = 0
      · rw [h0]; decide
      · have := (Nat.log2_lt h0).mpr this
        omega
    · have e : i = ((i.toNat : Nat) : Int) := by omega
      have e2 := num_str i.toNat
      rw [← e] at e2
      show Q (.str (Str.ofString (toString i))) H1
      rw [e2]
      exact Post.val rh hp (rv_str (num_lt _))
  · rename_i x
    obtain ⟨rfl, hx⟩ := ra.strI
    obtain ⟨l1, hp⟩ := Post.ifE' hp
    exact .inl ⟨mkS x, rfl, by rw [mkS_len, line_eq]; exact l1, Post.val rh hp (rv_str hx)⟩
def joinE : List SEm → List Nat → SEm
  | [], acc => fun _ => M.pure (.str acc)
  | t :: ts, acc => fun σ => M.bind (t σ) fun x h => match x with
    | .str y => if acc.length + y.length ≤ 16777216 then joinE ts (acc ++ y) σ h else .stk
    | _ => .stk
def eJoined (ts : List SEm) : SEm := joinE ts []
theorem joinE_sim : ∀ (ts : List SEm) (acc : List Nat) (σ : St) (H : Hp) (Q : VK) (μ : List Addr) (sa : AS) (ah : AH), (∀ c ∈ acc, c < 1114112) → RelS C.K μ H sa σ → RelH C μ H ah → Post C (fun c d H => W c d σ H) μ H (RV C.K) (joinE ts acc sa ah) Q →
    tJs (ts.map (simE C W)) (mkS acc) σ H fun out H1 => Q (.str out) H1
  | [], acc, σ, H, Q, μ, sa, ah, ha, rs, rh, hp => Post.val (a := .str acc) rh hp (rv_str ha)
  | t :: ts, acc, σ, H, Q, μ, sa, ah, ha, rs, rh, hp => by
    refine ⟨μ, sa, ah, rs, rh, Post.mono (Post.bind hp) fun v H1 ⟨μ1, a, h1, f1, r1, ra, hp⟩ => ?_⟩
    cases a <;> try exact (show False from hp).elim
    rename_i y
    obtain ⟨rfl, hy⟩ := ra.strI
    obtain ⟨l1, hp⟩ := Post.ifE' hp
    refine ⟨mkS y, rfl, by rw [mkS_app, mkS_len, List.length_append, line_eq]; exact l1, ?_⟩
    rw [mkS_app]
    exact joinE_sim ts (acc ++ y) σ H1 Q μ1 sa h1 (fun c hc => by
      rcases List.mem_append.mp hc with z | z
      · exact ha c z
      · exact hy c z) (rs.fut f1) r1 hp
theorem s_joined {v1 v2 : Expr} {rest : List Expr} {ts : List SEm} {pos : Pos} (h : PJ X (v1 :: v2 :: rest) (ts.map (simE C W))) : PE X (.JoinedStr (v1 :: v2 :: rest) pos) (simE C W (eJoined ts)) :=
  PE.imp (pe_joined h) fun σ H Q ⟨μ, sa, ah, rs, rh, hp⟩ => joinE_sim ts [] σ H Q μ sa ah (fun _ h => by cases h) rs rh hp
theorem s_joined1 {e : Expr} {A : SEm} {pos : Pos} (h : PE X e (simE C W A)) : PE X (.JoinedStr [e] pos) (simE C W A) := pe_joined1 h
/-! ### names at once -/
def sPar (i j : Nat) (A : SAm) : SSm := fun σ => M.bind (A σ) fun xs h => match xs with
  | [a, b] => .ok (.nx ((σ.set i (some a)).set j (some b))) h
  | _ => .stk
def sPar3 (i j l : Nat) (A : SAm) : SSm := fun σ => M.bind (A σ) fun xs h => match xs with
  | [a, b, c] => .ok (.nx (((σ.set i (some a)).set j (some b)).set l (some c))) h
  | _ => .stk
theorem s_par {i j : Nat} {x y : Str} {a b : Expr} {A : SAm} {px py pt pos : Pos} {kt k2 : Nat} {pt2 : Pos} (hc : X.calm = true) (hN : X.N.Nodup) (hi : X.N[i]? = some x) (hj : X.N[j]? = some y) (hij : i ≠ j)
    (hx : X.env.scope.names.lookup x = some .local) (hy : X.env.scope.names.lookup y = some .local) (ha : PA X [a, b] (simA C W A))
    (hw : swappedStores [.Tuple [.Name x px, .Name y py] kt pt] (.Tuple [a, b] k2 pt2) X.env = pure (some [x, y]))
    (hs : swapsWithSole [.Tuple [.Name x px, .Name y py] kt pt] (.Tuple [a, b] k2 pt2) pos.line X.env = pure false) :
    PS X (.Assign [.Tuple [.Name x px, .Name y py] kt pt] (.Tuple [a, b] k2 pt2) pos) (simS C W (sPar i j A)) := by
  refine PS.imp (ps_par hc hN hi hj hij hx hy ha hw hs) fun σ H D ⟨μ, sa, ah, rs, rh, hp⟩ => ?_
  refine ⟨μ, sa, ah, rs, rh, Post.mono (PostS.bind (rel := RVs C.K) hp σ) fun vs H1 ⟨μ1, xs, h1, f1, r1, rx, hp⟩ => ?_⟩
  split at hp
  · obtain ⟨v, w, rfl, q1, q2⟩ := rx.two
    exact ⟨v, w, rfl, hp μ1 H1 _ Fut.refl r1 (((rs.fut f1).set i q1).set j q2)⟩
  · exact (show False from hp).elim
theorem RVs.three {K : PySem.W.Frag} {μ : List Addr} {H : Hp} {a b c : AV} {vs : List V} (r : RVs K μ H [a, b, c] vs) : ∃ u v w, vs = [u, v, w] ∧ RV K μ H a u ∧ RV K μ H b v ∧ RV K μ H c w := by
  simp only [RVs] at r
  obtain ⟨v, ws, rfl, h, w, _, rfl, h2, z, _, rfl, h3, rfl⟩ := r
  exact ⟨v, w, z, rfl, h, h2, h3⟩
theorem s_par3 {i j l : Nat} {x y z : Str} {a b c : Expr} {A : SAm} {px py pz pt pos : Pos} {kt k2 : Nat} {pt2 : Pos} (hc : X.calm = true) (hN : X.N.Nodup) (hi : X.N[i]? = some x) (hj : X.N[j]? = some y) (hl : X.N[l]? = some z) (hij : i ≠ j) (hil : i ≠ l) (hjl : j ≠ l)
    (hx : X.env.scope.names.lookup x = some .local) (hy : X.env.scope.names.lookup y = some .local) (hz : X.env.scope.names.lookup z = some .local) (ha : PA X [a, b, c] (simA C W A))
    (hw : swappedStores [.Tuple [.Name x px, .Name y py, .Name z pz] kt pt] (.Tuple [a, b, c] k2 pt2) X.env = pure (some [x, y, z]))
    (hs : swapsWithSole [.Tuple [.Name x px, .Name y py, .Name z pz] kt pt] (.Tuple [a, b, c] k2 pt2) pos.line X.env = pure false) :
    PS X (.Assign [.Tuple [.Name x px, .Name y py, .Name z pz] kt pt] (.Tuple [a, b, c] k2 pt2) pos) (simS C W (sPar3 i j l A)) := by
  refine PS.imp (ps_par3 hc hN hi hj hl hij hil hjl hx hy hz ha hw hs) fun σ H D ⟨μ, sa, ah, rs, rh, hp⟩ => ?_
  refine ⟨μ, sa, ah, rs, rh, Post.mono (PostS.bind (rel := RVs C.K) hp σ) fun vs H1 ⟨μ1, xs, h1, f1, r1, rx, hp⟩ => ?_⟩
  split at hp
  · obtain ⟨u, v, w, rfl, q1, q2, q3⟩ := rx.three
    exact ⟨u, v, w, rfl, hp μ1 H1 _ Fut.refl r1 ((((rs.fut f1).set i q1).set j q2).set l q3)⟩
  · exact (show False from hp).elim
/-! ### e[::-1] -/
def aRev (a : AV) : M AV := match a with
  | .str x => if x.length ≤ 16777216 then M.pure (.str x.reverse) else M.stk
  | .ref n => fun h => match h[n]? with
    | some (.lst xs) => alloc (.lst xs.reverse) h
    | _ => .stk
  | _ => M.stk
theorem pick_rev (x : List Nat) : (Builtin.Str.strSliceIndices none none (-1) x.length).filterMap ((mkS x).cps[·]?) = x.reverse := by
  have h1 : Builtin.Str.strSliceIndices none none (-1) x.length = sliceRange ((x.length : Int) - 1) (-1) (-1) := by
    unfold Builtin.Str.strSliceIndices
    simp
  rw [h1, PySem.W.krv_sliceRange, PySem.W.krv_range]
  have := PySem.W.krv_all (xs := x.toArray)
  rw [List.filterMap_reverse]
  have e : (List.range x.length).filterMap ((mkS x).cps[·]?) = x := by simpa using this
  rw [e]
theorem s_rev {e : Expr} {A : SEm} {k : Nat} {p1 p2 p3 pos : Pos} (hK : X.K = C.K) (ha : PE X e (simE C W A)) : PE X (.Subscript e (.Slice none none (some (.UnaryOp .USub (.Constant (.int 1) k p1) p2)) p3) pos) (simE C W (eUn aRev A)) := by
  refine ⟨fun pins s σ H Q I h => ?_⟩
  have hst : PO X (some (.UnaryOp .USub (.Constant (.int 1) k p1) p2)) (tPart (tUn (rU fun i => .int (-i)) (tC (.int 1)))) := po_some (pe_un un_neg pe_int)
  refine Subscript_ (thn (ha.run pins s σ H (fun v H1 => ∃ μ sa ah a, RelS C.K μ H1 sa σ ∧ RelH C μ H1 ah ∧ RV C.K μ H1 a v ∧ Post C (fun c d H => W c d σ H) μ H1 (RV C.K) (aRev a ah) Q) I (sim.step (rel := RV C.K) (m := A) (f := fun sa x => aRev x) h)) fun v s1 ⟨x, H1, I1, r1, q1⟩ => ?_)
  obtain ⟨μ, sa, ah, a, rs, rh, ra, hp⟩ := q1
  refine wpAny_Slice (thn (po_none.run pins s1 σ H1 (fun o H2 => o = none ∧ H2 = H1) I1 ⟨rfl, rfl⟩) fun vl s2 ⟨l, H2, I2, pl, el, e2⟩ => ?_)
  subst el e2
  refine thn (po_none.run pins s2 σ H2 (fun o H3 => o = none ∧ H3 = H2) I2 ⟨rfl, rfl⟩) fun vu s3 ⟨u, H3, I3, pu, eu, e3⟩ => ?_
  subst eu e3
  refine thn (hst.run pins s3 σ H3 (fun o H4 => o = some (-1) ∧ H4 = H3) I3 ⟨1, rfl, -1, rfl, rfl, rfl⟩) fun vs s4 ⟨o, H4, I4, ps, eo, e4⟩ => ?_
  subst eo e4
  have I5 : L2.Inv X pins σ H4 { s4 with heap := s4.heap.push { cls := .type "slice", data := .fields #[vl, vu, vs] } } := I4.kept (t' := s4.toks) fun b ob q => Heap.get?_push_of_some _ q
  unfold aRev at hp
  cases a <;> try exact (show False from hp).elim
  · rename_i y
    obtain ⟨rfl, hy⟩ := ra.strI
    obtain ⟨t, rfl⟩ := r1
    obtain ⟨l1, hp⟩ := Post.ifE (c := y.length ≤ 16777216) (m := M.pure (AV.str y.reverse)) hp
    cases ps with
    | int _ t1 =>
    cases pl
    cases pu
    show wpAny (model X.prog X.w) X.A (subscriptTail e (.Slice none none (some (.UnaryOp .USub (.Constant (.int 1) k p1) p2)) p3) (.str (mkS y) t) (.ref s4.heap.objs.size)) (EP X pins σ Q) X.xe { s4 with heap := s4.heap.push { cls := .type "slice", data := .fields #[.none, .none, .int (-1) t1] } }
    refine tail_any (ops := [.str (mkS y) t, .ref s4.heap.objs.size]) (typeIs_str _ (mkS y) t) F.slot_str_getitem.lookup ?_ (by with_unfolding_all rfl)
    refine wpAny_getItem_str_slice (l := none) (u := none) (st := some (-1, t1)) ⟨_, Heap.get?_push_size _ rfl, rfl, rfl⟩ rfl ?_
    unfold sliceMade
    rw [if_neg (by simp)]
    have e1 : slicePicked (mkS y) none none (some (-1, t1)) = Builtin.Str.strSliceIndices none none (-1) y.length := by
      unfold slicePicked
      rw [mkS_len]
      rfl
    rw [e1, pick_rev]
    dsimp only [Made.post]
    have fin : ∀ t2 tk2, EP X pins σ Q (.str (mkS y.reverse) t2) ⟨s4.heap.push { cls := .type "slice", data := .fields #[.none, .none, .int (-1) t1] }, s4.gens, s4.drawn, tk2, s4.os⟩ := fun t2 tk2 =>
      ⟨.str (mkS y.reverse), _, I5.tok _, ⟨_, rfl⟩, Post.val rh hp (rv_str fun c hc => hy c (List.mem_reverse.mp hc))⟩
    first
      | exact ⟨fin _ _, by rw [mkS_len, List.length_reverse, line_eq]; exact l1, fin _ _⟩
      | exact fin _ _
      | exact ⟨by rw [mkS_len, List.length_reverse, line_eq]; exact l1, fin _ _⟩
  · rename_i n
    simp only at hp
    split at hp
    · rename_i xs hx
      obtain ⟨a, vs', rfl, hn, h1, rv⟩ := rh.lst_of hx ra
      obtain rfl : v = Value.ref a := r1
      obtain ⟨its, r, ht, hz⟩ := I5.list (.inl (.inl h1))
      show wpAny (model X.prog X.w) X.A (subscriptTail e (.Slice none none (some (.UnaryOp .USub (.Constant (.int 1) k p1) p2)) p3) (.ref a) (.ref s4.heap.objs.size)) (EP X pins σ Q) X.xe { s4 with heap := s4.heap.push { cls := .type "slice", data := .fields #[vl, vu, vs] } }
      refine tail_any (ops := [.ref a, .ref s4.heap.objs.size]) ht.isList.typeIs (PySem.slot_list_getitem.lookup) ?_ (by with_unfolding_all rfl)
      refine wpAny_getItem_list_slice ht.isList (Heap.IsSliceOf.new _ vl vu vs) pl pu ps (by decide) ?_ (by have := r.length; rw [List.size_toArray]; omega)
      rw [PySem.W.krv_pick]
      refine ⟨.ref _, _, I5.laid (t' := s4.toks) (o := .lst vs'.reverse) (fun b ob q => Heap.get?_push_of_some _ q) (Nat.le_refl _) ?_, rfl, Post.alloc rh hp rv.reverse _ (I5.hok.fresh (Nat.le_refl _))⟩
      exact ⟨by rw [List.length_reverse]; exact hz, _, 0, r.reverse, Heap.get?_push_size _ rfl⟩
    · exact (show False from hp).elim
end
end Z

set_option maxHeartbeats 2000000
namespace Z
open PySem PySem.Spec PyProof.Rows L2 PySem.ZX LamX
/-! ### calls by keywords alone -/
def reo {α : Type} (pm : List Nat) (d : α) (ws : List α) : List α := pm.map fun i => ws.getD i d
def KwTo (fd : FuncData) (ps ks : List Str) (pm : List Nat) : Prop := ∀ (s : Shared) (ws : List Value), ws.length = ks.length → BindsTo s fd ⟨[], ks.zip ws⟩ (ps.zip (reo pm Value.none ws))
theorem kwTo_of {K : PySem.W.Frag} {x qual : Str} {params : Arguments} {body : List Stmt} {scope : Scope} {f : Addr} {fd : FuncData} {ps ks : List Str} {pm : List Nat} {kws : List (Str × V)} (F : FunD K x qual params body scope [] kws f fd)
    (h : ∀ (kV doc pmv : Value) (an : Option Addr) (cdv ct : Value) (ws : List Value), ws.length = ks.length → bindArgs (PySem.W.fnOf x qual params body scope .none kV doc pmv an cdv ct) ⟨[], ks.zip ws⟩ = pure (ps.zip (reo pm Value.none ws))) : KwTo fd ps ks pm := fun s ws hl => by
  obtain ⟨oc, od, dV, kV, doc, pmv, an, cdv, ct, osl, rfl, lk, hc, hD, _⟩ := F.ex
  rcases hD with ⟨_, rfl⟩ | ⟨e, _⟩
  · exact .of_eq (h _ _ _ _ _ _ ws hl)
  · exact absurd rfl e
section
variable {K : PySem.W.Frag} {μ : List Addr} {H : Hp}
theorem RVs.getD {as : List AV} {vs : List V} (r : RVs K μ H as vs) (i : Nat) : RV K μ H (as.getD i .non) (vs.getD i .non) := by
  rw [List.getD_eq_getElem?_getD, List.getD_eq_getElem?_getD]
  cases e : as[i]? with
  | some a =>
    obtain ⟨v, e1, r1⟩ := r.get e
    rw [e1]; exact r1
  | none =>
    have : vs[i]? = none := by
      rw [List.getElem?_eq_none_iff] at e ⊢
      rw [r.length]; exact e
    rw [this]
    exact rv_non
theorem RVs.reo {as : List AV} {vs : List V} (r : RVs K μ H as vs) : ∀ pm : List Nat, RVs K μ H (reo pm .non as) (Z.reo pm .non vs)
  | [] => RVs.nil
  | i :: pm => RVs.cons (r.getD i) (RVs.reo r pm)
theorem vals_getD {vs : List V} {us : List Value} (r : Vals vs us) (i : Nat) : RelV (vs.getD i .non) (us.getD i .none) := by
  induction r generalizing i with
  | nil => exact rfl
  | cons p q ih =>
    cases i with
    | zero => exact p
    | succ i => exact ih i
theorem vals_reo {vs : List V} {us : List Value} (r : Vals vs us) : ∀ pm : List Nat, Vals (reo pm .non vs) (reo pm .none us)
  | [] => .nil
  | i :: pm => .cons (vals_getD r i) (vals_reo r pm)
end
section
variable {X : Cx} {C : Cf} {W : XW}
theorem PK.imp {X : Cx} {e : List Keyword} {t t' : TA} (h : PK X e t) (i : ∀ σ H Q, t' σ H Q → t σ H Q) : PK X e t' := ⟨fun p pins s σ H Q I q => h.run p pins s σ H Q I (i σ H Q q)⟩
theorem s_knil : PK X [] (simA C W aNil) := PK.imp pk_nil fun σ H Q ⟨μ, sa, ah, rs, rh, hp⟩ => hp μ H [] Fut.refl rh RVs.nil
theorem s_kcons {a : Expr} {kws : List Keyword} {nm : Option Str} {kpos : Pos} {A : SEm} {AS : SAm} (ha : PE X a (simE C W A)) (has : PK X kws (simA C W AS)) : PK X (⟨nm, a, kpos⟩ :: kws) (simA C W (aCons A AS)) := by
  refine PK.imp (pk_cons ha has) fun σ H Q h => ?_
  obtain ⟨μ, sa, ah, rs, rh, hp⟩ := sim.step (rel := RV C.K) (m := A) (f := fun sa x => M.bind (AS sa) fun xs => M.pure (x :: xs)) h
  refine ⟨μ, sa, ah, rs, rh, Post.mono hp fun v H1 h1 => ?_⟩
  obtain ⟨μ, sa, ah, rs, rh, hp⟩ := sim.next (rel0 := RV C.K) (rel := RVs C.K) (m := AS) (f := fun sa x xs => M.pure (x :: xs)) (fun f h => RV.fut f _ _ h) h1
  refine ⟨μ, sa, ah, rs, rh, Post.mono hp fun w H2 h2 => ?_⟩
  obtain ⟨μ, sa, ah, x, y, rs, rh, rx, ry, hp⟩ := h2
  exact hp μ H2 _ Fut.refl rh (RVs.cons rx ry)
theorem s_callK {k : Nat} {f : Addr} {fd : FuncData} {ps ks : List Str} {pm : List Nat} {g : List AV → M AV} {x : Str} {kws : List Keyword} {AS : SAm} {p pos : Pos} (F : FnOk X.prog X.w X.K X.mg X.base (L2.CX X.prog X.w) k f fd ps (spOf C g)) (hr : Room k X.A) (tk : Takes X W) (hg : Gl X x) (hm : X.mg x = some (.ref f))
    (hk : PySem.W.keepIn X.K (.ref f) = true) (hb : KwTo fd ps ks pm) (hsz : ks.length = kws.length) (ha : PK X kws (simA C W AS)) (hdb : (x == ("__debug__" : Str)) = false) (hall : (backToKw pos (keywordEach kws X.env)).all (·.1.isSome) = true) (hks : (backToKw pos (keywordEach kws X.env)).filterMap (·.1) = ks)
    (hpl : ((backTo pos (starEach [] X.env)).any (·.1) || (backToKw pos (keywordEach kws X.env)).any (·.1.isNone)) = false) (hle : ∀ sa ah xs h, AS sa ah = .ok xs h → xs.length = kws.length) :
    PE X (.Call (.Name x p) [] kws pos) (simE C W (eFn (fun xs => g (reo pm .non xs)) AS)) := by
  refine ⟨fun pins s σ H Q I h => ?_⟩
  refine wpAny_Call_Name_kw (ld_glob I hg hm ?_ hdb)
  have h' : simA C W AS σ H fun zs H2 => zs.length = kws.length ∧ spOf C g (reo pm .non zs) H2 Q fun cls d H => W cls d σ H := by
    obtain ⟨μ, sa, ah, rs, rh, hp⟩ := h
    refine ⟨μ, sa, ah, rs, rh, ?_⟩
    have hp : Post C _ μ H (RV C.K) ((AS sa ah).bind fun xs => g (reo pm .non xs)) Q := hp
    cases e : AS sa ah with
    | stk => rw [e] at hp; exact hp
    | exc c a h => rw [e] at hp; exact hp
    | ok xs h =>
      rw [e] at hp
      exact fun μ' H' zs f r rv => ⟨by rw [rv.length]; exact hle _ _ _ _ e, μ', _, _, rv.reo pm, r, Post.fut f hp⟩
  refine PySem.W.callWith_KW0 (h₀ := X.base) I.ok.mod.kin hk hall (thn (ha.run pos pins s σ H _ I h') fun ws s2 ⟨zs, H2, I2, rz, hz, q2⟩ => ⟨I2.kIn, ?_⟩) hpl
  rw [hks]
  have hl : ws.length = ks.length := by rw [← rz.length, hsz]; exact hz
  refine wpAny_call (codeAny_mono (F.run X.A X.stack s2 H2 ⟨[], ks.zip ws⟩ (reo pm .none ws) (reo pm .non zs) Q (WE W σ) hr I2.env0 (hb s2 ws hl) (vals_reo rz pm) q2) fun r s' hq => ?_)
  cases r with
  | error e => exact passAt tk σ pins H2 s2 e s' I2 hq
  | ok fl =>
    cases fl with
    | ret u => exact I2.after hq
    | next => exact False.elim hq
    | brk => exact False.elim hq
    | cont => exact False.elim hq
/-- lengths of argument lists -/
def ALen (AS : SAm) (n : Nat) : Prop := ∀ sa ah xs h, AS sa ah = .ok xs h → xs.length = n
theorem alen_nil : ALen aNil 0 := fun _ _ _ _ e => by cases e; rfl
theorem alen_cons {A : SEm} {AS : SAm} {n : Nat} (h : ALen AS n) : ALen (aCons A AS) (n + 1) := fun sa ah xs h1 e => by
  unfold aCons M.bind R.bind at e
  cases q : A sa ah with
  | stk => rw [q] at e; cases e
  | exc c a h => rw [q] at e; cases e
  | ok x h2 =>
    rw [q] at e
    simp only at e
    cases q2 : AS sa h2 with
    | stk => rw [q2] at e; cases e
    | exc c a h => rw [q2] at e; cases e
    | ok ys h3 =>
      rw [q2] at e
      cases e
      have := h _ _ _ _ q2
      simp [this]
theorem alen_le {AS : SAm} {n : Nat} (h : ALen AS n) (hn : n ≤ 16777216) : ∀ sa ah xs h, AS sa ah = .ok xs h → xs.length ≤ 16777216 := fun sa ah xs h1 e => by rw [h sa ah xs h1 e]; exact hn
end
end Z

set_option maxHeartbeats 2000000
namespace Z
open PySem PySem.Spec PyProof.Rows L2 PySem.ZX LamX
abbrev aGt (a b : AV) : M AV := aLt b a
abbrev aGe (a b : AV) : M AV := aLe b a
abbrev aEq := aEqR false
abbrev aNe := aEqR true
abbrev aIn := aInR false
abbrev aNin := aInR true
abbrev aIsN := aIs false
abbrev aIsNN := aIs true
section
variable {X : Cx} {C : Cf} {W : XW}
theorem o_add (hK : X.K = C.K) : OpR X (binaryOp .Add) (rS2 C aAdd) := viaK (T := fun C => OpR X (binaryOp .Add) (rS2 C aAdd)) hK opr_add
theorem o_sub (hK : X.K = C.K) : OpR X (binaryOp .Sub) (rS2 C aSub) := viaK (T := fun C => OpR X (binaryOp .Sub) (rS2 C aSub)) hK opr_sub
theorem o_mul (hK : X.K = C.K) : OpR X (binaryOp .Mult) (rS2 C aMul) := viaK (T := fun C => OpR X (binaryOp .Mult) (rS2 C aMul)) hK opr_mul
theorem o_div (hK : X.K = C.K) : OpR X (binaryOp .FloorDiv) (rS2 C aDiv) := viaK (T := fun C => OpR X (binaryOp .FloorDiv) (rS2 C aDiv)) hK opr_div
theorem o_mod (hK : X.K = C.K) : OpR X (binaryOp .Mod) (rS2 C aMod) := viaK (T := fun C => OpR X (binaryOp .Mod) (rS2 C aMod)) hK opr_mod
theorem o_pow (hK : X.K = C.K) : OpR X (binaryOp .Pow) (rS2 C aPow) := viaK (T := fun C => OpR X (binaryOp .Pow) (rS2 C aPow)) hK opr_pow
theorem o_eq (hK : X.K = C.K) (hu : X.A.units + 64 < cLine) : OpR X (compareOp .Eq) (rS2 C aEq) := viaK (T := fun C => OpR X (compareOp .Eq) (rS2 C aEq)) hK (opr_eq hu)
theorem o_ne (hK : X.K = C.K) (hu : X.A.units + 64 < cLine) : OpR X (compareOp .NotEq) (rS2 C aNe) := viaK (T := fun C => OpR X (compareOp .NotEq) (rS2 C aNe)) hK (opr_ne hu)
theorem o_lt (hK : X.K = C.K) : OpR X (compareOp .Lt) (rS2 C aLt) := viaK (T := fun C => OpR X (compareOp .Lt) (rS2 C aLt)) hK opr_lt
theorem o_gt (hK : X.K = C.K) : OpR X (compareOp .Gt) (rS2 C aGt) := viaK (T := fun C => OpR X (compareOp .Gt) (rS2 C aGt)) hK opr_gt
theorem o_le (hK : X.K = C.K) : OpR X (compareOp .LtE) (rS2 C aLe) := viaK (T := fun C => OpR X (compareOp .LtE) (rS2 C aLe)) hK opr_le
theorem o_ge (hK : X.K = C.K) : OpR X (compareOp .GtE) (rS2 C aGe) := viaK (T := fun C => OpR X (compareOp .GtE) (rS2 C aGe)) hK opr_ge
theorem o_is (hK : X.K = C.K) : OpR X (compareOp .Is) (rS2 C aIsN) := viaK (T := fun C => OpR X (compareOp .Is) (rS2 C aIsN)) hK opr_is
theorem o_isn (hK : X.K = C.K) : OpR X (compareOp .IsNot) (rS2 C aIsNN) := viaK (T := fun C => OpR X (compareOp .IsNot) (rS2 C aIsNN)) hK opr_isn
theorem o_in (hK : X.K = C.K) : OpR X (compareOp .In) (rS2 C aIn) := viaK (T := fun C => OpR X (compareOp .In) (rS2 C aIn)) hK (opr_in false)
theorem o_nin (hK : X.K = C.K) : OpR X (compareOp .NotIn) (rS2 C aNin) := viaK (T := fun C => OpR X (compareOp .NotIn) (rS2 C aNin)) hK (opr_in true)
theorem c_len (hK : X.K = C.K) : CallR X (.builtin "len") (rSL C aLen) := viaK (T := fun C => CallR X (.builtin "len") (rSL C aLen)) hK cr_len'
theorem c_abs (hK : X.K = C.K) : CallR X (.builtin "abs") (rSL C aAbs) := viaK (T := fun C => CallR X (.builtin "abs") (rSL C aAbs)) hK cr_abs'
theorem c_min (hK : X.K = C.K) (hc : X.calm = true) : CallR X (.builtin "min") (rSL C aMin2) := viaK (T := fun C => CallR X (.builtin "min") (rSL C aMin2)) hK (cr_min2' hc)
theorem c_max (hK : X.K = C.K) (hc : X.calm = true) : CallR X (.builtin "max") (rSL C aMax2) := viaK (T := fun C => CallR X (.builtin "max") (rSL C aMax2)) hK (cr_max2' hc)
theorem c_sum (hK : X.K = C.K) (hc : X.calm = true) : CallR X (.builtin "sum") (rSL C aSum) := viaK (T := fun C => CallR X (.builtin "sum") (rSL C aSum)) hK (cr_sum' hc)
theorem c_all (hK : X.K = C.K) (hc : X.calm = true) : CallR X (.builtin "all") (rSL C aAll) := viaK (T := fun C => CallR X (.builtin "all") (rSL C aAll)) hK (cr_all' hc)
theorem c_any (hK : X.K = C.K) (hc : X.calm = true) : CallR X (.builtin "any") (rSL C aAny) := viaK (T := fun C => CallR X (.builtin "any") (rSL C aAny)) hK (cr_any' hc)
theorem c_divmod (hK : X.K = C.K) : CallR X (.builtin "divmod") (rSL C aDivmod) := viaK (T := fun C => CallR X (.builtin "divmod") (rSL C aDivmod)) hK cr_divmod'
theorem c_int (hK : X.K = C.K) : CallR X (.type "int") (rSL C aInt) := viaK (T := fun C => CallR X (.type "int") (rSL C aInt)) hK cr_int'
theorem c_str (hK : X.K = C.K) : CallR X (.type "str") (rSL C aStr) := viaK (T := fun C => CallR X (.type "str") (rSL C aStr)) hK cr_str'
theorem c_tuple (hK : X.K = C.K) : CallR X (.type "tuple") (rSL C aTuple) := viaK (T := fun C => CallR X (.type "tuple") (rSL C aTuple)) hK cr_tuple'
theorem c_list (hK : X.K = C.K) : CallR X (.type "list") (rSL C aList) := viaK (T := fun C => CallR X (.type "list") (rSL C aList)) hK cr_list'
theorem t_split (hK : X.K = C.K) : MtR X "str.split" (rMt C aSplit) := viaK (T := fun C => MtR X "str.split" (rMt C aSplit)) hK mtr_split
theorem t_join (hK : X.K = C.K) : MtR X "str.join" (rMt C aJoin) := viaK (T := fun C => MtR X "str.join" (rMt C aJoin)) hK mtr_join
theorem t_append (hK : X.K = C.K) : MtR X "list.append" (rMt C aAppend) := viaK (T := fun C => MtR X "list.append" (rMt C aAppend)) hK mtr_append
theorem s_int {i : Int} {j : Nat} {pos : Pos} : PE X (.Constant (.int i) j pos) (simE C W (eCst (.int i))) := s_cst pe_int fun _ _ => rv_int
theorem s_bl {i : Bool} {j : Nat} {pos : Pos} : PE X (.Constant (.bool i) j pos) (simE C W (eCst (.bl i))) := s_cst pe_bl fun _ _ => rv_bl
theorem s_non {j : Nat} {pos : Pos} : PE X (.Constant .none j pos) (simE C W (eCst .non)) := s_cst pe_non fun _ _ => rv_non
def lowB (l : List Nat) : Bool := l.all fun c => decide (c < 1114112)
theorem lowB_ok {l : List Nat} (h : lowB l = true) : ∀ c ∈ l, c < 1114112 := fun c hc => of_decide_eq_true (List.all_eq_true.mp h c hc)
theorem s_str {x : Str} {l : List Nat} {j : Nat} {pos : Pos} (h : x = mkS l) (hl : lowB l = true) : PE X (.Constant (.str x) j pos) (simE C W (eCst (.str l))) := by
  subst h
  exact s_cst pe_str fun _ _ => rv_str (lowB_ok hl)
theorem s_gint {x : Str} {i : Int} {pos : Pos} (hg : Gl X x) (hm : ∃ t, X.mg x = some (.int i t)) (hd : (x == ("__debug__" : Str)) = false) : PE X (.Name x pos) (simE C W (eCst (.int i))) := by
  obtain ⟨t, hm⟩ := hm
  exact s_cst (pe_glob (v := .int i) hg hm ⟨t, rfl⟩ hd) fun _ _ => rv_int
theorem s_gstr {x : Str} {l : List Nat} {pos : Pos} (hl : lowB l = true) (hg : Gl X x) (hm : ∃ t, X.mg x = some (.str (mkS l) t)) (hd : (x == ("__debug__" : Str)) = false) : PE X (.Name x pos) (simE C W (eCst (.str l))) := by
  obtain ⟨t, hm⟩ := hm
  exact s_cst (pe_glob (v := .str (mkS l)) hg hm ⟨t, rfl⟩ hd) fun _ _ => rv_str (lowB_ok hl)
end
/-! ### the facts of a def -/
structure DefE (K : PySem.W.Frag) (mg : Str → Option Value) (x : Str) (ps : List Str) (params : Arguments) (body : List Stmt) (scope : Scope) (fd : FuncData) : Prop where
  F : FunD K x x params body scope [] [] (He.ga K x) fd
  g : mg x = some (.ref (He.ga K x))
  b : Binds K fd ps []
end Z

set_option maxHeartbeats 4000000
namespace ZT
open PySem PySem.Spec PyProof.Rows L2
/-! ### set(text) -/
def dst (x : List Nat) : List Nat := x.foldl (fun acc c => if c ∈ acc then acc else acc ++ [c]) []
theorem dst_snoc (x : List Nat) (c : Nat) : dst (x ++ [c]) = if c ∈ dst x then dst x else dst x ++ [c] := by
  unfold dst
  rw [List.foldl_append]
  rfl
theorem mem_dst (x : List Nat) (c : Nat) : c ∈ dst x ↔ c ∈ x := by
  have : ∀ (x acc : List Nat), c ∈ x.foldl (fun acc c => if c ∈ acc then acc else acc ++ [c]) acc ↔ c ∈ acc ∨ c ∈ x := by
    intro x
    induction x with
    | nil => intro acc; simp
    | cons d x ih =>
      intro acc
      rw [List.foldl_cons, ih]
      by_cases h : d ∈ acc
      · rw [if_pos h]
        constructor
        · rintro (z | z)
          · exact .inl z
          · exact .inr (List.mem_cons_of_mem _ z)
        · rintro (z | z)
          · exact .inl z
          · rcases List.mem_cons.mp z with rfl | z
            · exact .inl h
            · exact .inr z
      · rw [if_neg h]
        simp only [List.mem_append, List.mem_singleton, List.mem_cons, List.not_mem_nil, or_false]
        exact or_assoc
  have := this x []
  simpa [dst] using this
theorem dst_le (x : List Nat) : (dst x).length ≤ x.length := by
  have : ∀ (x acc : List Nat), (x.foldl (fun acc c => if c ∈ acc then acc else acc ++ [c]) acc).length ≤ acc.length + x.length := by
    intro x
    induction x with
    | nil => intro acc; simp
    | cons d x ih =>
      intro acc
      rw [List.foldl_cons]
      have := ih (if d ∈ acc then acc else acc ++ [d])
      have h2 : (if d ∈ acc then acc else acc ++ [d]).length ≤ acc.length + 1 := by split <;> simp
      simp only [List.length_cons]
      omega
  simpa [dst] using this x []
/-- the set at S holds the signs of x -/
def Holds1 (P : Program) (w : World) (S : Addr) (x : List Nat) (h : Heap) : Prop := ∃ T : Str → Bool, h.SetOf (strKind P w) S T (dst x).length ∧ ∀ c, T ⟨#[c]⟩ = decide (c ∈ x)
section
variable {P : Program} {w : World} {A : Around}
theorem loop_text {I : Addr} {fp wr : List Addr} {G : Array GenState → Array GenState → Prop} {n : Nat} {Pv : Nat → Value → Prop} {St : Nat → Shared → Prop} {R : Result → Shared → Prop}
    (V : WalksS P w A.in1 I fp wr G n Pv St) (S : Addr) (hSf : S ∉ fp) (x : List Nat) (hn : n = x.length) (hb : x.length + 1 < scanBound) (hval : ∀ i v, Pv i v → ∃ c u, x[i]? = some c ∧ v = .str ⟨#[c]⟩ u) :
    ∀ (k i : Nat) (s : Shared), n - i = k → i ≤ n → St i s → Holds1 P w S (x.take i) s.heap → (∀ s', Moved (S :: wr) G s s' → Holds1 P w S x s'.heap → R (.ok (.ret .none)) s') → codeAny (model P w) A (.builtin "set.update.loop" ⟨[.ref S, .ref I], []⟩) R s := by
  have hSw : S ∉ wr := fun h => hSf (V.sub _ h)
  have hsub : ∀ b ∈ wr, b ∈ S :: wr := fun b hb => List.mem_cons_of_mem _ hb
  have mv : ∀ {y : List Nat} {s s' : Shared}, Moved wr G s s' → Holds1 P w S y s.heap → Holds1 P w S y s'.heap := fun {y s s'} hm ⟨T, ⟨o, es, ep, t, ho, rest⟩, hT⟩ => ⟨T, ⟨o, es, ep, t, hm.heap S _ hSw ho, rest⟩, hT⟩
  intro k
  induction k with
  | zero =>
    intro i s hk hi hst hS hR
    obtain rfl : i = n := by omega
    refine codeAny_builtin F.entry_set_update_loop ?_
    rw [Around.under_plainId F.plain_set_update_loop _]
    show wpAny _ A.in1 (pyNext (.ref I) >>= _) _ _ s
    refine wpAny_bind (V.done s _ _ hst fun s' hm => ?_)
    show wpAny _ A.in1 (ret Value.none) _ _ s'
    rw [List.take_of_length_le (by omega)] at hS
    exact wpAny_pure (hR s' (hm.mono hsub) (mv hm hS))
  | succ k ih =>
    intro i s hk hi hst hS hR
    have hlt : i < n := by omega
    refine codeAny_builtin F.entry_set_update_loop ?_
    rw [Around.under_plainId F.plain_set_update_loop _]
    show wpAny _ A.in1 (pyNext (.ref I) >>= _) _ _ s
    refine wpAny_bind (V.item i s _ _ hlt hst fun v s' hP hst' hm => ?_)
    obtain ⟨c, u, hc, rfl⟩ := hval i v hP
    obtain ⟨T, hS', hT⟩ := mv hm hS
    have hd := dst_le (x.take i)
    have hti : (x.take i).length ≤ x.length := by rw [List.length_take]; omega
    show wpAny _ A.in1 (holding [Value.str ⟨#[c]⟩ u] (setAdd S (.str ⟨#[c]⟩ u)) >>= _) _ _ s'
    refine wpAny_bind (wpAny_holding ?_)
    unfold setAdd
    refine wpAny_holding (wpAny_bind ((strKind P w).pyHash (k := ⟨#[c]⟩) (strKind_is _ _ _ _) ?_))
    refine wpAny_setAddHashed_of (knd := strKind P w) (s := { s' with toks := s'.toks + 1 }) (strKind_is _ _ _ _) rfl hS' (by omega) fun h' hsb hS2 => ?_
    have hS3 : Holds1 P w S (x.take (i + 1)) h' := by
      have et : x.take (i + 1) = x.take i ++ [c] := by rw [List.take_succ, hc]; rfl
      refine ⟨fun k' => T k' || decide (k' = ⟨#[c]⟩), ?_, fun e => ?_⟩
      · rw [et, dst_snoc]
        have hcT := hT c
        by_cases q : c ∈ x.take i
        · rw [if_pos ((mem_dst _ _).mpr q)]
          rw [hcT] at hS2
          simpa [q] using hS2
        · rw [if_neg (fun z => q ((mem_dst _ _).mp z))]
          rw [hcT] at hS2
          simpa [q] using hS2
      · show (T ⟨#[e]⟩ || decide ((⟨#[e]⟩ : Str) = ⟨#[c]⟩)) = _
        rw [hT, et]
        have : decide ((⟨#[e]⟩ : Str) = ⟨#[c]⟩) = decide (e = c) := by
          by_cases q : e = c
          · subst q; simp
          · have : (⟨#[e]⟩ : Str) ≠ ⟨#[c]⟩ := fun z => q (by
              have := congrArg (fun y : Str => y.cps.toList) z
              simpa using this)
            simp [this, q]
        rw [this]
        simp [List.mem_append]
    refine wpAny_pure ⟨plainId_quiet F.plain_set_update_loop _, ih (i + 1) _ (by omega) hlt (V.frame _ s' _ _ hst' (Nat.le_succ _) fun b hb o e => ?_) hS3 fun s'' hm'' hS'' => ?_⟩
    · rw [hsb.2 b (fun h : b = S => hSf (by rw [← h]; exact hb))]; exact e
    · refine hR s'' (Moved.trans V.gtrans ((hm.mono hsub).then_heap (Nat.le_succ _) fun b o hb e => ?_) hm'') hS''
      rw [hsb.2 b (fun h : b = S => hb (by rw [h]; exact List.mem_cons_self))]; exact e
theorem call_set_text {E : Value → Shared → Prop} {s : Shared} {x : List Nat} {t : Tok} {Q : Value → Shared → Prop} (hh : A.handled = none) (hb : x.length + 1 < scanBound)
    (h : ∀ (h' : Heap) (tk : Nat), Holds1 P w s.heap.objs.size x h' → (∀ b o, s.heap.get? b = some o → h'.get? b = some o) → Q (.ref s.heap.objs.size) { s with heap := h', toks := tk }) :
    wpAny (model P w) A (call (.type "set") [.str ⟨x.toArray⟩ t]) Q E s := by
  obtain ⟨c, tl, hmro⟩ := F.called_set.mro
  have hmade := F.called_set.made
  have hsub := F.called_set.sub
  refine wpAny_call (codeAny_of_tree ?_)
  show wpAny _ _ (callAny (.type "set") _) _ _ _
  refine wpAny_pure ⟨Code.quiet_builtin _ (by decide +kernel), codeAny_builtin F.entry_type_call ?_⟩
  rw [Around.under_plain (weight_type_call_type "set" [.str ⟨x.toArray⟩ t] []) rfl]
  have h1 := F.called_set.notType
  have h2 := F.called_set.canCreate
  have hct := F.typeCall_set_1 (.str ⟨x.toArray⟩ t)
  repeat (any_goals (first | assumption | wp_step))
  let ob : Obj := { cls := .type "set", dict := none, data := .set #[] 0 (.fresh 0 0 (!w.params.followText "set-order")) }
  refine codeAny_mono (code_set_led1 (.str ⟨x.toArray⟩ t) (E := E) (Q₁ := fun obj s₁ => obj = .ref s.heap.objs.size ∧ s₁ = { s with heap := s.heap.push ob }) ⟨rfl, rfl⟩) fun r s₁ hr => ?_
  cases r with
  | error e => exact hr
  | ok fl =>
    cases fl with
    | ret obj =>
      obtain ⟨rfl, rfl⟩ := hr
      have hS : (s.heap.push ob).get? s.heap.objs.size = some ob := Heap.get?_push_size _ rfl
      have hT : Shared.TypeIs { s with heap := s.heap.push ob } (.ref s.heap.objs.size) "set" := ⟨_, hS, rfl⟩
      have hli := F.called_set.init.lookup
      have hbi := F.called_set.init.bind (.ref s.heap.objs.size)
      repeat (any_goals (first | assumption | wp_step))
      refine codeAny_mono (codeAny_call_builtin (R := wants (fun r s₂ => r = .none ∧ ∃ h' tk, s₂ = { s with heap := h', toks := tk } ∧ Holds1 P w s.heap.objs.size x h' ∧ (∀ b o, s.heap.get? b = some o → h'.get? b = some o)) E) F.called_set.init.plain F.entry_set_init (check_set_init_1 hT ?_)) fun r₂ s₂ hr₂ => ?_
      · have hsls := F.sub_str_set
        have hslf := F.sub_str_frozenset
        have hsld := F.sub_str_dict
        have hne : (Value.type "str" == Value.type "dict") = false := by decide
        unfold Builtin.«set.__init__» noKeywords Builtin.Frozenset.updateFrom
        generalize hPI : pyIter = PI
        wp_walk
        subst hPI
        refine wpAny_pyIter_str fun o St hW hSt => ?_
        refine wpAny_bind (wpAny_runValue ?_)
        have hh3 : A.in1.in1.in1.handled = none := by simp [hh]
        have hz : (s.heap.push ob).objs.size = s.heap.objs.size + 1 := Heap.size_push ..
        have hSf : s.heap.objs.size ∉ [(s.heap.push ob).objs.size] := by rw [hz]; simp
        refine loop_text ((hW _ hh3).toS) s.heap.objs.size hSf x (by simp) hb (fun i v ⟨c, u, e1, e2⟩ => ⟨c, u, by simpa using e1, e2⟩) (x.length - 0) 0 _ (by simp) (Nat.zero_le _) hSt ?hS0 ?hR
        case hS0 =>
          have hget : ((s.heap.push ob).push o).get? s.heap.objs.size = some ob := Heap.get?_push_of_some _ hS
          exact ⟨fun _ => false, SetOf_congr ((setObjOf_fresh (knd := strKind P w) (!w.params.followText "set-order")).setOf hget (by unfold scanBound; omega)) (fun _ => rfl) rfl, fun c => by simp⟩
        case hR =>
          intro s' hm hS'
          obtain ⟨h', g2, d', tk', os'⟩ := s'
          obtain rfl : g2 = s.gens := hm.gens
          obtain rfl : d' = s.drawn := hm.drawn
          obtain rfl : os' = s.os := hm.os
          show wpAny _ _ _ _ _ _
          refine wpAny_pure ?_
          show wpAny _ _ (ret Value.none) _ _ _
          refine wpAny_pure ⟨rfl, h', tk', rfl, hS', fun b o' e => ?_⟩
          have hb0 : b < s.heap.objs.size := Heap.lt_size e
          exact hm.heap b o' (by
            simp only [List.mem_cons, List.not_mem_nil, or_false, not_or]
            exact ⟨Nat.ne_of_lt hb0, by rw [hz]; exact Nat.ne_of_lt (Nat.lt_succ_of_lt hb0)⟩) (Heap.get?_push_of_some _ (Heap.get?_push_of_some _ e))
      · cases r₂ with
        | error e => exact hr₂
        | ok fl₂ =>
          cases fl₂ with
          | ret r =>
            obtain ⟨rfl, h', tk, rfl, hS', hk'⟩ := hr₂
            repeat (any_goals (first | assumption | wp_step))
            exact h _ _ hS' hk'
          | _ => exact hr₂.elim
    | _ => exact hr.elim
end
end ZT

set_option maxHeartbeats 2000000
namespace Z
open PySem PySem.Spec PyProof.Rows L2 PySem.ZX LamX
theorem gl_by {X : Cx} {x : Str} (h : X.env.kindOf x = some .globalImplicit) : Gl X x := h
theorem code_of {K : PySem.W.Frag} {x qual : Str} {params : Arguments} {body : List Stmt} {scope : Scope} {dvs : List V} {kws : List (Str × V)} {fd : FuncData} {cdv : Value} (F : FunD K x qual params body scope dvs kws (He.ga K x) fd) (h : fd.code = cdv) : cdv = .ref (He.cT K (x, none)).1 := by
  obtain ⟨oc, od, dV, kV, doc, pm, an, cdv', ct, osl, rfl, lk, hcd, _, _⟩ := F.ex
  obtain rfl : cdv' = cdv := h
  obtain ⟨c, rfl⟩ := He.codeIn_ref hcd
  have e : He.codeOf K (x, none) = c := He.codeOf_eq (p := (x, none)) lk rfl
  show Value.ref c = .ref (He.codeOf K (x, none))
  rw [e]
/-! ### len(set(text)) -/
def aLenSet (a : AV) : M AV := fun h => match a with
  | .str x => if x.length ≤ 1000 then .ok (.int (ZT.dst x).length) h else .stk
  | _ => .stk
section
variable {X : Cx} {C : Cf} {W : XW}
theorem s_lenSet {e : Expr} {A : SEm} {p p2 q pos : Pos} (hK : X.K = C.K) (hc : X.calm = true) (hg : Gl X "len") (hm : X.mg "len" = none) (hg2 : Gl X "set") (hm2 : X.mg "set" = none) (ha : PE X e (simE C W A)) (na : starEach [e] X.env = (false, eval e X.env) :: starEach [] X.env) :
    PE X (.Call (.Name "len" p) [.Call (.Name "set" p2) [e] [] q] [] pos) (simE C W (eUn aLenSet A)) := by
  refine ⟨fun pins s σ H Q I h => ?_⟩
  refine Call_ (ld_blt I hg hm PySem.boot_len (PyProof.Rows.callWith_builtin1 (PyProof.Rows.args_cons ?_ rfl) rfl rfl))
  refine Call_ (ld_blt I hg2 hm2 PyProof.Rows.boot_set (PyProof.Rows.callWith_type1 (PyProof.Rows.args_cons (thn (ha.run pins s σ H (fun v H1 => ∃ μ sa ah a, RelS C.K μ H1 sa σ ∧ RelH C μ H1 ah ∧ RV C.K μ H1 a v ∧ Post C (fun c d H => W c d σ H) μ H1 (RV C.K) (aLenSet a ah) Q) I (sim.step (rel := RV C.K) (m := A) (f := fun sa x => aLenSet x) h)) fun v s1 hv => PyProof.Rows.args_nil ?_) na) na rfl))
  obtain ⟨x, H1, I1, r1, μ, sa, ah, a, rs, rh, ra, hp⟩ := hv
  unfold aLenSet at hp
  cases a <;> try exact (show False from hp).elim
  rename_i y
  obtain ⟨rfl, hy⟩ := ra.strI
  obtain ⟨t, rfl⟩ := r1
  obtain ⟨l1, hp⟩ := Post.ifE' hp
  refine ZT.call_set_text (x := y) (I1.ok.hd hc) (by unfold scanBound; omega) fun h' tk hS hk => PyProof.Rows.args_nil ?_
  obtain ⟨T, ⟨o, es, ep, t2, ho, hex, hd, _, _, _, hf, hn⟩, _⟩ := hS
  have I2 : L2.Inv X pins σ H1 { s1 with heap := h', toks := tk } := I1.kept fun b o e => hk b o e
  have hdl := ZT.dst_le y
  refine PySem.call_len_set ho hex hd hf (by rw [hn]; omega) ⟨.int (ZT.dst y).length, H1, I2.tok _, ⟨_, by rw [hn]⟩, Post.val rh hp rv_int⟩
end
end Z

set_option maxHeartbeats 2000000
namespace Z
open PySem PySem.Spec PyProof.Rows L2 PySem.ZX LamX
/-! ### the facts of an error class, by a Bool -/
def errB (K : PySem.W.Frag) (x fl : Str) : Bool :=
  errCls K (He.ga K x) && (decide (PySem.W.findIn K (.ref (He.ga K x)) "__setattr__" = some (some (.builtin "object.__setattr__"))) && (decide (PySem.W.findIn K (.ref (He.ga K x)) "__getattribute__" = some (some (.builtin "BaseException.__getattribute__"))) &&
  (decide (PySem.W.findIn K (.ref (He.ga K x)) "__getattr__" = some none) && (decide (PySem.W.findIn K (.ref (He.ga K x)) fl = some none) && (decide (PySem.W.findIn K (.ref (He.ga K x)) "__init__" = some (some (.ref (He.ma K (He.ga K x) "__init__")))) &&
  (decide (PySem.W.typeIn K (.ref (He.ma K (He.ga K x) "__init__")) = some (.type "function")) && (PySem.W.keepIn K (.ref (He.ga K x)) && (decide (PySem.W.subIn K (.ref (He.ga K x)) (.type "BaseException") = some true) &&
  (decide (PySem.W.typeIn K (.ref (He.ga K x)) = some (.type "type")) && PySem.W.hasDictIn K (He.ga K x))))))))))
theorem errTxt_of {K : PySem.W.Frag} {mg : Str → Option Value} {x fl ql : Str} {params : Arguments} {body : List Stmt} {scope : Scope} {fd : FuncData} {kws : List (Str × V)} (g : mg x = some (.ref (He.ga K x))) (h : errB K x fl = true) (F : FunD K "__init__" ql params body scope [] kws (He.fAd K (x, some "__init__")) fd)
    {p1 p2 q1 q2 q3 q4 : Pos} (e1 : params = iA fl p1 p2) (e2 : body = iB fl q1 q2 q3 q4) (e3 : scope = iS fl) : ErrTxt K mg x fl (He.ga K x) (He.ma K (He.ga K x) "__init__") := by
  unfold errB at h
  obtain ⟨h1, h⟩ := He.ba h
  obtain ⟨h2, h⟩ := He.ba h
  obtain ⟨h3, h⟩ := He.ba h
  obtain ⟨h4, h⟩ := He.ba h
  obtain ⟨h5, h⟩ := He.ba h
  obtain ⟨h6, h⟩ := He.ba h
  obtain ⟨h7, h⟩ := He.ba h
  obtain ⟨h8, h⟩ := He.ba h
  obtain ⟨h9, h⟩ := He.ba h
  obtain ⟨h10, h11⟩ := He.ba h
  subst e1 e2 e3
  obtain ⟨oc, od, dV, kV, doc, pm, an, cdv, ct, osl, rfl, lk, hc, hD, _⟩ := F.ex
  obtain rfl : dV = .none := by
    rcases hD with ⟨_, e⟩ | ⟨e, _⟩
    · exact e
    · exact absurd rfl e
  exact { gC := g, cls := errCls_ok h1, sa := of_decide_eq_true h2, ga := of_decide_eq_true h3, gg := of_decide_eq_true h4, noN := of_decide_eq_true h5, iC := of_decide_eq_true h6, tC := of_decide_eq_true h7, kC := h8, exC := of_decide_eq_true h9, tyC := of_decide_eq_true h10, hdC := h11,
          fn := ⟨oc, od, .none, kV, doc, pm, an, cdv, ct, osl, p1, p2, q1, q2, q3, q4, ql, lk, hc⟩ }
/-! ### the end -/
theorem sp_law {C : Cf} {g : List AV → M AV} {H : Hp} {a : Addr} {ns : List Int} (hT : Tabs C.T H) (hS : SqL C.K H a (ns.map V.int)) (h1 : ∃ h', g [.lsc ns] [] = .ok (.bl true) h') (h2 : ∃ h', g [.ref 0] [.lst (ns.map .int)] = .ok (.bl true) h') :
    spOf C g [.ref a] H (fun v _ => v = .bl true) (fun _ _ _ => False) := by
  have fin : ∀ {μ : List Addr} {r : R AV}, (∃ h', r = .ok (.bl true) h') → Post C (fun _ _ _ => False) μ H (RV C.K) r fun v _ => v = .bl true := by
    rintro μ r ⟨h', rfl⟩ μ' H' v f r1 rv
    cases rv.blI
    rfl
  rcases SqF.cases hS with hS | hS
  · refine ⟨[a], [.ref 0], [.lst (ns.map .int)], RVs.cons (by simp only [RV]; exact ⟨a, rfl, rfl⟩) RVs.nil, ⟨rfl, by simp, fun i o h => ?_, hT⟩, fin h2⟩
    cases i with
    | zero => cases h; exact ⟨a, rfl, _, hS, RVs.of_ints _⟩
    | succ i => cases h
  · refine ⟨[], [.lsc ns], [], RVs.cons (by simp only [RV]; exact ⟨a, rfl, hS⟩) RVs.nil, ⟨rfl, by simp, fun i o h => (by simp at h), hT⟩, fin h1⟩
theorem tabs_nil {K : PySem.W.Frag} {H : Hp} {fs : List Str} {q : Str → Str} (h : ∀ p ∈ fs.map fun f => He.cT K (f, none), H p.2 = some (.tbl #[])) : Tabs (fs.map fun f => ((He.cT K (f, none)).2, q f)) H := fun p hp => by
  obtain ⟨f, hf, rfl⟩ := List.mem_map.mp hp
  exact TabS.nil (h _ (List.mem_map.mpr ⟨f, hf, rfl⟩))
theorem law_at {l : PySem.W.OpenLaw} {w : World} {K : PySem.W.Frag} {k n : Nat} {mg : Str → Option Value} {fa : Addr} {h : Heap} {fd : FuncData} {C : Cf} {g : List AV → M AV} {fs : List Str} {q : Str → Str} (X : K.In h) (hC : C.K = K) (hCT : C.T = fs.map fun f => ((He.cT K (f, none)).2, q f))
    (hd : ∀ p ∈ fs.map fun f => (f, none), PySem.W.codeHdIn K (He.cT K p).1 (He.cT K p).2 = true) (out : ∀ p ∈ fs.map fun f => (f, none), K.lookup (He.cT K p).2 = none) (empty : ∀ p ∈ fs.map fun f => (f, none), h.get? (He.cT K p).2 = some { cls := .none, data := .fields #[] })
    (hb : ∀ (s : Shared) (u : Value), BindsTo s fd ⟨[u], []⟩ [("script", u)])
    (math : ∀ ns : List Int, ns.length ≤ n → (∀ z ∈ ns, Builtin.Int.intBits z ≤ 1048576) → (∃ h', g [.lsc ns] [] = .ok (.bl true) h') ∧ ∃ h', g [.ref 0] [.lst (ns.map .int)] = .ok (.bl true) h')
    (F : ∀ base : Heap, K.In base → base.Ns mainGlobals mg → (∀ f ∈ fs, TabB base mg (He.cT K (f, none)).1 (He.cT K (f, none)).2) → FnOk l.prog w K mg base (L2.CX l.prog w) k fa fd ["script"] (spOf C g)) : LawAtS l w K (L2.CX l.prog w) k n "script" mg fa h := by
  refine ⟨fd, fs.map fun f => He.cT K (f, none), spOf C g, fun p hp => ?_, fun p hp => ?_, fun p hp => ?_, hb, fun H a ns hl hz hT hS => ?_, fun base KX G TB => F base KX G fun f hf => TB _ (List.mem_map.mpr ⟨f, hf, rfl⟩)⟩
  · obtain ⟨f, hf, rfl⟩ := List.mem_map.mp hp
    exact empty _ (List.mem_map.mpr ⟨f, hf, rfl⟩)
  · obtain ⟨f, hf, rfl⟩ := List.mem_map.mp hp
    exact out _ (List.mem_map.mpr ⟨f, hf, rfl⟩)
  · obtain ⟨f, hf, rfl⟩ := List.mem_map.mp hp
    exact PySem.W.codeHd_of_K X (hd _ (List.mem_map.mpr ⟨f, hf, rfl⟩))
  · obtain ⟨m1, m2⟩ := math ns hl hz
    exact sp_law (by rw [hCT]; exact tabs_nil hT) (by rw [hC]; exact hS) m1 m2
end Z

set_option maxHeartbeats 2000000
namespace Z
/-! ### what holds behind a run that neither fails nor raises -/
def W {α : Type} (r : R α) (Q : α → AH → Prop) : Prop := match r with
  | .ok a h => Q a h
  | .exc _ _ _ => False
  | .stk => False
theorem W.mono {α : Type} {r : R α} {Q Q' : α → AH → Prop} (h : W r Q) (i : ∀ a h, Q a h → Q' a h) : W r Q' := by
  cases r with
  | ok a h' => exact i _ _ h
  | exc c v h' => exact h
  | stk => exact h
theorem W.ex {α : Type} {r : R α} {Q : α → AH → Prop} (h : W r Q) : ∃ a h', r = .ok a h' ∧ Q a h' := by
  cases r with
  | ok a h' => exact ⟨a, h', rfl, h⟩
  | exc c v h' => exact h.elim
  | stk => exact h.elim
theorem W.of {α : Type} {r : R α} {Q : α → AH → Prop} {a : α} {h' : AH} (e : r = .ok a h') (q : Q a h') : W r Q := by subst e; exact q
section
variable {α β : Type} {σ : AS} {h : AH}
theorem W_ok {a : α} {Q : α → AH → Prop} : W (.ok a h) Q = Q a h := propext Iff.rfl
theorem W_rbind {r : R α} {f : α → M β} {Q : β → AH → Prop} : W (r.bind f) Q = W r fun a h => W (f a h) Q := by cases r <;> rfl
theorem W_bind {m : M α} {f : α → M β} {Q : β → AH → Prop} : W (M.bind m f h) Q = W (m h) fun a h => W (f a h) Q := W_rbind
theorem W_pure {a : α} {Q : α → AH → Prop} : W (M.pure a h) Q = Q a h := propext Iff.rfl
theorem W_stk {Q : α → AH → Prop} : W (M.stk h) Q = False := propext Iff.rfl
theorem W_stk' {Q : α → AH → Prop} : W .stk Q = False := propext Iff.rfl
theorem W_ite {c : Prop} [Decidable c] {a b : R α} {Q : α → AH → Prop} : W (if c then a else b) Q = if c then W a Q else W b Q := by split <;> rfl
theorem W_itm {c : Prop} [Decidable c] {a b : M α} {Q : α → AH → Prop} : W ((if c then a else b) h) Q = if c then W (a h) Q else W (b h) Q := by split <;> rfl
theorem W_alloc {o : AO} {Q : AV → AH → Prop} : W (alloc o h) Q = Q (.ref h.length) (h ++ [o]) := propext Iff.rfl
variable {Q : AV → AH → Prop}
theorem W_var {i : Nat} : W (eVar i σ h) Q = match σ[i]? with
    | some (some a) => Q a h
    | _ => False := by
  unfold eVar
  cases σ[i]? with
  | none => rfl
  | some o => cases o <;> rfl
theorem W_cst {a : AV} : W (eCst a σ h) Q = Q a h := propext Iff.rfl
theorem W_bin {f : AV → AV → M AV} {a b : SEm} : W (eBin f a b σ h) Q = W (a σ h) fun x h => W (b σ h) fun y h => W (f x y h) Q := by
  unfold eBin; simp only [W_bind]
theorem W_un {f : AV → M AV} {a : SEm} : W (eUn f a σ h) Q = W (a σ h) fun x h => W (f x h) Q := by
  unfold eUn; simp only [W_bind]
theorem W_if {t : STm} {a b : SEm} : W (eIf t a b σ h) Q = W (t σ h) fun c h => if c = true then W (a σ h) Q else W (b σ h) Q := by
  unfold eIf; simp only [W_bind, W_itm]
theorem W_aBl {a : AV} {Q : Bool → AH → Prop} : W (aBl a h) Q = match a with
    | .bl b => Q b h
    | _ => False := by
  unfold aBl
  cases a <;> rfl
theorem W_and {a b : SEm} : W (eAnd a b σ h) Q = W (a σ h) fun x h => W (aBl x h) fun c h => if c = true then W (b σ h) Q else Q (.bl false) h := by
  unfold eAnd; simp only [W_bind, W_itm, W_pure]
theorem W_or {a b : SEm} : W (eOr a b σ h) Q = W (a σ h) fun x h => W (aBl x h) fun c h => if c = true then Q (.bl true) h else W (b σ h) Q := by
  unfold eOr; simp only [W_bind, W_itm, W_pure]
theorem W_fn {f : List AV → M AV} {as : SAm} : W (eFn f as σ h) Q = W (as σ h) fun xs h => W (f xs h) Q := by
  unfold eFn; simp only [W_bind]
theorem W_nil {Q : List AV → AH → Prop} : W (aNil σ h) Q = Q [] h := propext Iff.rfl
theorem W_cons {a : SEm} {as : SAm} {Q : List AV → AH → Prop} : W (aCons a as σ h) Q = W (a σ h) fun x h => W (as σ h) fun xs h => Q (x :: xs) h := by
  unfold aCons; simp only [W_bind, W_pure]
theorem W_tup {as : SAm} : W (eTup as σ h) Q = W (as σ h) fun xs h => Q (.tup xs) h := by
  unfold eTup; simp only [W_bind, W_pure]
theorem W_lst {as : SAm} : W (eLst as σ h) Q = W (as σ h) fun xs h => Q (.ref h.length) (h ++ [.lst xs]) := by
  unfold eLst; simp only [W_bind, W_alloc]
theorem W_mth {T : String} {f : AV → List AV → M AV} {o : SEm} {as : SAm} : W (eMthT T f o as σ h) Q = W (o σ h) fun x h => if tyB T x h = true then W (as σ h) fun xs h => W (f x xs h) Q else False := by
  unfold eMthT; simp only [W_bind, W_ite, W_stk']
theorem W_onone {Q : Option Int → AH → Prop} : W (oNone σ h) Q = Q none h := propext Iff.rfl
theorem W_osome {a : SEm} {Q : Option Int → AH → Prop} : W (oSome a σ h) Q = W (a σ h) fun x h => match x with
    | .int i => Q (some i) h
    | _ => False := by
  unfold oSome
  simp only [W_bind]
  congr 1
  funext x h
  cases x <;> rfl
theorem W_slc {a : SEm} {lo hi : AS → M (Option Int)} : W (eSlc a lo hi σ h) Q = W (a σ h) fun x h => W (lo σ h) fun l h => W (hi σ h) fun u h => W (aSlc x l u h) Q := by
  unfold eSlc; simp only [W_bind]
theorem W_lam {F : M AV → M AV} {m : SEm} : W (eLam F m σ h) Q = W (F (m σ) h) Q := propext Iff.rfl
theorem W_joined {ts : List SEm} : W (eJoined ts σ h) Q = W (joinE ts [] σ h) Q := propext Iff.rfl
theorem W_join0 {acc : List Nat} : W (joinE [] acc σ h) Q = Q (.str acc) h := propext Iff.rfl
theorem W_join1 {t : SEm} {ts : List SEm} {acc : List Nat} : W (joinE (t :: ts) acc σ h) Q = W (t σ h) fun x h => match x with
    | .str y => acc.length + y.length ≤ 16777216 ∧ W (joinE ts (acc ++ y) σ h) Q
    | _ => False := by
  have e : joinE (t :: ts) acc σ = M.bind (t σ) fun x h => match x with
    | .str y => if acc.length + y.length ≤ 16777216 then joinE ts (acc ++ y) σ h else .stk
    | _ => .stk := rfl
  rw [e, W_bind]
  congr 1
  funext x h
  cases x <;> try rfl
  rename_i y
  by_cases c : acc.length + y.length ≤ 16777216
  · simp only [c, true_and, if_true]
  · simp only [c, false_and, if_false, W_stk']
/-! tests -/
variable {Qb : Bool → AH → Prop}
theorem W_tof {a : SEm} : W (tOf a σ h) Qb = W (a σ h) fun x h => W (truA x h) Qb := by unfold tOf; simp only [W_bind]
theorem W_tnt {t : STm} : W (tNt t σ h) Qb = W (t σ h) fun c h => Qb (!c) h := by unfold tNt; simp only [W_bind, W_pure]
theorem W_tan {a b : STm} : W (tAn a b σ h) Qb = W (a σ h) fun c h => if c = true then W (b σ h) Qb else Qb false h := by unfold tAn; simp only [W_bind, W_itm, W_pure]
theorem W_tor {a b : STm} : W (tOrr a b σ h) Qb = W (a σ h) fun c h => if c = true then Qb true h else W (b σ h) Qb := by unfold tOrr; simp only [W_bind, W_itm, W_pure]
theorem W_tcmp {f : AV → AV → M AV} {a b : SEm} : W (tCmp f a b σ h) Qb = W (a σ h) fun x h => W (b σ h) fun y h => W (f x y h) fun z h => W (aBl z h) Qb := by unfold tCmp; simp only [W_bind]
theorem W_tys : W (tYs σ h) Qb = Qb true h := propext Iff.rfl
theorem W_chain {f g : AV → AV → M AV} {a b c : SEm} : W (eChain f g a b c σ h) Q = W (a σ h) fun x h => W (b σ h) fun y h => W (f x y h) fun z h => W (aBl z h) fun k h => if k = true then W (c σ h) fun w h => W (g y w h) Q else Q (.bl false) h := by
  unfold eChain; simp only [W_bind, W_itm, W_pure]
theorem W_tchn {f g : AV → AV → M AV} {a b c : SEm} : W (tChn f g a b c σ h) Qb = W (eChain f g a b c σ h) fun z h => W (aBl z h) Qb := by unfold tChn; simp only [W_bind]
/-! statements -/
variable {Qf : Fl → AH → Prop}
theorem W_snil : W (sNil σ h) Qf = Qf (.nx σ) h := propext Iff.rfl
theorem W_seq {a b : SSm} : W (sSeq a b σ h) Qf = W (a σ h) fun f h => match f with
    | .nx σ => W (b σ h) Qf
    | f => Qf f h := by
  unfold sSeq
  simp only [W_bind]
  congr 1
  funext f h
  cases f <;> rfl
theorem W_asg {A : SEm} {g : SGm} : W (sAsg A g σ h) Qf = W (A σ h) fun a h => W (g a σ h) fun σ h => Qf (.nx σ) h := by unfold sAsg; simp only [W_bind, W_pure]
theorem W_drop {A : SEm} : W (sDrop A σ h) Qf = W (A σ h) fun _ h => Qf (.nx σ) h := by unfold sDrop; simp only [W_bind, W_pure]
theorem W_ret {A : SEm} : W (sRet A σ h) Qf = W (A σ h) fun a h => Qf (.rt a) h := by unfold sRet; simp only [W_bind, W_pure]
theorem W_retN : W (sRetN σ h) Qf = Qf (.rt .non) h := propext Iff.rfl
theorem W_sif {t : STm} {a b : SSm} : W (sIf t a b σ h) Qf = W (t σ h) fun c h => if c = true then W (a σ h) Qf else W (b σ h) Qf := by unfold sIf; simp only [W_bind, W_itm]
theorem W_brk : W (sBrk σ h) Qf = Qf (.bk σ) h := propext Iff.rfl
theorem W_cnt : W (sCnt σ h) Qf = Qf (.ct σ) h := propext Iff.rfl
theorem W_par {i j : Nat} {A : SAm} : W (sPar i j A σ h) Qf = W (A σ h) fun xs h => match xs with
    | [a, b] => Qf (.nx ((σ.set i (some a)).set j (some b))) h
    | _ => False := by
  unfold sPar
  simp only [W_bind]
  congr 1
  funext xs h
  rcases xs with _ | ⟨a, _ | ⟨b, _ | ⟨c, r⟩⟩⟩ <;> rfl
theorem W_par3 {i j l : Nat} {A : SAm} : W (sPar3 i j l A σ h) Qf = W (A σ h) fun xs h => match xs with
    | [a, b, c] => Qf (.nx (((σ.set i (some a)).set j (some b)).set l (some c))) h
    | _ => False := by
  unfold sPar3
  simp only [W_bind]
  congr 1
  funext xs h
  rcases xs with _ | ⟨a, _ | ⟨b, _ | ⟨c, _ | ⟨d, r⟩⟩⟩⟩ <;> rfl
theorem W_gnm {i : Nat} {a : AV} {Qs : AS → AH → Prop} : W (gNm i a σ h) Qs = Qs (σ.set i (some a)) h := propext Iff.rfl
theorem W_gix {O I : SEm} {a : AV} {Qs : AS → AH → Prop} : W (gIx O I a σ h) Qs = W (O σ h) fun o h => W (I σ h) fun i h => W (aSet o i a h) fun _ h => Qs σ h := by unfold gIx; simp only [W_bind, W_pure]
theorem W_gtp {gs : List SGm} {xs : List AV} {Qs : AS → AH → Prop} : W (gTp gs (.tup xs) σ h) Qs = if xs.length = gs.length then W (goGs gs xs σ h) Qs else False := by unfold gTp; simp only [W_ite, W_stk']
theorem W_gs0 {as : List AV} {Qs : AS → AH → Prop} : W (goGs [] as σ h) Qs = Qs σ h := by cases as <;> rfl
theorem W_gs1 {g : SGm} {gs : List SGm} {a : AV} {as : List AV} {Qs : AS → AH → Prop} : W (goGs (g :: gs) (a :: as) σ h) Qs = W (g a σ h) fun σ h => W (goGs gs as σ h) Qs := by
  show W (M.bind (g a σ) (fun σ => goGs gs as σ) h) Qs = _
  rw [W_bind]
theorem W_mkF {np nl : Nat} {B : SSm} {as : List AV} : W (mkF np nl B as h) Q = if as.length = np then W (B (as.map some ++ List.replicate nl none) h) (fun f h => match f with
    | .rt v => Q v h
    | .nx _ => Q .non h
    | _ => False) else False := by
  unfold mkF
  simp only [W_ite, W_stk']
  congr 1
  cases B (as.map some ++ List.replicate nl none) h with
  | ok f h => cases f <;> rfl
  | exc c v h => rfl
  | stk => rfl
end
theorem W_call {np nl : Nat} {B : SSm} {as : List AV} {h : AH} {Q : AV → AH → Prop} (hl : as.length = np) (q : W (B (as.map some ++ List.replicate nl none) h) fun f h => match f with
    | .rt v => Q v h
    | .nx _ => Q .non h
    | _ => False) : W (mkF np nl B as h) Q := by
  rw [W_mkF, if_pos hl]
  exact q
/-! ### loops -/
theorem W_forF {s : Src} {g : SGm} {b : SSm} {xs : List AV} {Q : Fl → AH → Prop} (I : Nat → AS → AH → Prop) (hs : ∀ i σ h, i ≤ xs.length → I i σ h → s.src i h = some xs[i]?)
    (step : ∀ i a σ h, xs[i]? = some a → I i σ h → W (g a σ h) fun σ h => W (b σ h) fun f h => match f with
      | .nx σ => I (i + 1) σ h
      | .ct σ => I (i + 1) σ h
      | .bk σ => Q (.nx σ) h
      | .rt v => Q (.rt v) h)
    (done : ∀ σ h, I xs.length σ h → Q (.nx σ) h) : ∀ (n i : Nat) (σ : AS) (h : AH), i + n = xs.length + 1 → i ≤ xs.length → I i σ h → W (forF s g b n i σ h) Q
  | 0, i, σ, h, e, hi, _ => by omega
  | n + 1, i, σ, h, e, hi, p => by
    unfold forF
    rw [hs i σ h hi p]
    cases q : xs[i]? with
    | none =>
      have : i = xs.length := by
        have := List.getElem?_eq_none_iff.mp q
        omega
      subst this
      exact done σ h p
    | some a =>
      have hl := (List.getElem?_eq_some_iff.mp q).1
      show W ((g a σ h).bind _) Q
      rw [W_rbind]
      refine W.mono (step i a σ h q p) fun σ2 h2 p2 => ?_
      rw [W_bind]
      refine W.mono p2 fun f h3 p3 => ?_
      cases f with
      | nx σ3 => exact W_forF I hs step done n (i + 1) σ3 h3 (by omega) (by omega) p3
      | ct σ3 => exact W_forF I hs step done n (i + 1) σ3 h3 (by omega) (by omega) p3
      | bk σ3 => exact p3
      | rt v => exact p3
/-- a loop over what is walked: xs its items -/
theorem W_for {Is : SSrc} {g : SGm} {b : SSm} {Q : Fl → AH → Prop} {σ : AS} {h : AH} (hI : W (Is σ h) fun s h1 => ∃ (xs : List AV) (I : Nat → AS → AH → Prop), s.len = xs.length ∧ I 0 σ h1 ∧ (∀ i σ h, i ≤ xs.length → I i σ h → s.src i h = some xs[i]?) ∧
    (∀ i a σ h, xs[i]? = some a → I i σ h → W (g a σ h) fun σ h => W (b σ h) fun f h => match f with
      | .nx σ => I (i + 1) σ h
      | .ct σ => I (i + 1) σ h
      | .bk σ => Q (.nx σ) h
      | .rt v => Q (.rt v) h) ∧ (∀ σ h, I xs.length σ h → Q (.nx σ) h)) : W (sFor Is g b σ h) Q := by
  unfold sFor
  rw [W_bind]
  refine W.mono hI fun s h1 ⟨xs, I, hl, h0, hs, step, done⟩ => ?_
  exact W_forF I hs step done (s.len + 1) 0 σ h1 (by omega) (Nat.zero_le _) h0
theorem W_compF {s : Src} {g : SGm} {t : STm} {e : SEm} {d : Nat} {σ0 : AS} {xs : List AV} {Q : AV → AH → Prop} (U : Nat → List AV → AH → Prop) (hs : ∀ i acc h, i ≤ xs.length → U i acc h → h[d]? = some (.lst acc) → s.src i h = some xs[i]?)
    (step : ∀ i a acc h, xs[i]? = some a → U i acc h → h[d]? = some (.lst acc) → W (g a σ0 h) fun σ h => W (t σ h) fun c h => if c = true then W (e σ h) fun y h => h[d]? = some (.lst acc) ∧ acc.length < 16777216 ∧ U (i + 1) (acc ++ [y]) (h.set d (.lst (acc ++ [y])))
      else h[d]? = some (.lst acc) ∧ U (i + 1) acc h)
    (done : ∀ acc h, U xs.length acc h → h[d]? = some (.lst acc) → Q (.ref d) h) : ∀ (n i : Nat) (acc : List AV) (h : AH), i + n = xs.length + 1 → i ≤ xs.length → U i acc h → h[d]? = some (.lst acc) → W (compF s g t e d σ0 n i h) Q
  | 0, i, acc, h, e, hi, _, _ => by omega
  | n + 1, i, acc, h, e0, hi, p, hd => by
    unfold compF
    rw [hs i acc h hi p hd]
    cases q : xs[i]? with
    | none =>
      have : i = xs.length := by
        have := List.getElem?_eq_none_iff.mp q
        omega
      subst this
      exact done acc h p hd
    | some a =>
      have hl := (List.getElem?_eq_some_iff.mp q).1
      have ne : ∀ {α β : Type} {m : M α} {f : α → M β} {h : AH} {P : α → AH → Prop} {Q : β → AH → Prop}, W (m h) P → (∀ a h, P a h → W (f a h) Q) → W ((M.ne m h).bind f) Q := by
        intro α β m f h P Q hp i
        obtain ⟨a, h', e, p⟩ := hp.ex
        have : M.ne m h = .ok a h' := by unfold M.ne; rw [e]
        rw [this]
        exact i a h' p
      refine ne (step i a acc h q p hd) fun σ2 h2 p2 => ?_
      refine ne p2 fun c h3 p3 => ?_
      cases c with
      | false =>
        simp only [Bool.false_eq_true, if_false] at p3 ⊢
        exact W_compF U hs step done n (i + 1) acc h3 (by omega) (by omega) p3.2 p3.1
      | true =>
        simp only [if_true] at p3 ⊢
        refine ne p3 fun y h4 ⟨k1, k2, k3⟩ => ?_
        rw [W_bind]
        unfold compApp
        rw [k1]
        simp only [if_pos k2]
        refine W_compF U hs step done n (i + 1) (acc ++ [y]) _ (by omega) (by omega) k3 ?_
        rw [List.getElem?_set_self (List.getElem?_eq_some_iff.mp k1).1]
/-- a comprehension -/
theorem W_comp {vs : List Nat} {Is : SSrc} {g : SGm} {t : STm} {e : SEm} {Q : AV → AH → Prop} {σ : AS} {h : AH} (hI : W (Is σ h) fun s h1 => ∃ (xs : List AV) (U : Nat → List AV → AH → Prop), s.len = xs.length ∧ U 0 [] (h1 ++ [.lst []]) ∧
    (∀ i acc h, i ≤ xs.length → U i acc h → h[h1.length]? = some (.lst acc) → s.src i h = some xs[i]?) ∧
    (∀ i a acc h, xs[i]? = some a → U i acc h → h[h1.length]? = some (.lst acc) → W (g a (wipeA σ vs) h) fun σ h => W (t σ h) fun c h => if c = true then W (e σ h) fun y h => h[h1.length]? = some (.lst acc) ∧ acc.length < 16777216 ∧ U (i + 1) (acc ++ [y]) (h.set h1.length (.lst (acc ++ [y])))
      else h[h1.length]? = some (.lst acc) ∧ U (i + 1) acc h) ∧ (∀ acc h, U xs.length acc h → h[h1.length]? = some (.lst acc) → Q (.ref h1.length) h)) : W (eComp vs Is g t e σ h) Q := by
  unfold eComp
  rw [W_bind]
  refine W.mono hI fun s h1 ⟨xs, U, hl, h0, hs, step, done⟩ => ?_
  exact W_compF U hs step done (s.len + 1) 0 [] _ (by omega) (Nat.zero_le _) h0 (by simp)
/-! ### heaps that keep what stands -/
def Kp (S : List Nat) (h h' : AH) : Prop := h.length ≤ h'.length ∧ ∀ i, i < h.length → i ∉ S → h'[i]? = h[i]?
theorem Kp.refl {S : List Nat} {h : AH} : Kp S h h := ⟨Nat.le_refl _, fun _ _ _ => rfl⟩
theorem Kp.trans {S : List Nat} {h h1 h2 : AH} (a : Kp S h h1) (b : Kp S h1 h2) : Kp S h h2 := ⟨Nat.le_trans a.1 b.1, fun i hi n => (b.2 i (Nat.lt_of_lt_of_le hi a.1) n).trans (a.2 i hi n)⟩
theorem Kp.app {S : List Nat} {h : AH} (e : AH) : Kp S h (h ++ e) := ⟨by simp, fun i hi _ => List.getElem?_append_left hi⟩
theorem Kp.set {S : List Nat} {h : AH} {n : Nat} {o : AO} (hn : n ∈ S) : Kp S h (h.set n o) := ⟨by simp, fun i hi ne => List.getElem?_set_ne (fun z : n = i => ne (by rw [← z]; exact hn))⟩
theorem Kp.setNew {S : List Nat} {h h1 : AH} {d : Nat} {o : AO} (k : Kp S h h1) (hd : h.length ≤ d) : Kp S h (h1.set d o) := ⟨by simpa using k.1, fun i hi ne => by rw [List.getElem?_set_ne (by omega)]; exact k.2 i hi ne⟩
theorem Kp.at {S : List Nat} {h h' : AH} (k : Kp S h h') {n : Nat} {o : AO} (hn : h[n]? = some o) (hS : n ∉ S) : h'[n]? = some o := by rw [k.2 n (List.getElem?_eq_some_iff.mp hn).1 hS]; exact hn
theorem Kp.weak {S S' : List Nat} {h h' : AH} (k : Kp S h h') (i : ∀ n ∈ S, n ∈ S') : Kp S' h h' := ⟨k.1, fun n hn hS => k.2 n hn fun z => hS (i n z)⟩
end Z

set_option maxHeartbeats 2000000
namespace Z
open PySem (PyData)
/-! ### what the operations do -/
section
variable {h : AH} {Q : AV → AH → Prop} {Qb : Bool → AH → Prop} {i j : Int} {x y : List Nat} {b c : Bool}
theorem w_addI : W (aAdd (.int i) (.int j) h) Q = Q (.int (i + j)) h := propext Iff.rfl
theorem w_addS : W (aAdd (.str x) (.str y) h) Q = if x.length + y.length ≤ 16777216 then Q (.str (x ++ y)) h else False := by unfold aAdd; simp only [W_itm, W_pure, W_stk]
theorem w_addT {x y : List AV} : W (aAdd (.tup x) (.tup y) h) Q = if x.length + y.length ≤ 16777216 then Q (.tup (x ++ y)) h else False := by unfold aAdd; simp only [W_itm, W_pure, W_stk]
theorem w_addL {m n : Nat} {xs ys : List AV} (h1 : h[m]? = some (.lst xs)) (h2 : h[n]? = some (.lst ys)) (hl : xs.length + ys.length ≤ 16777216) : W (aAdd (.ref m) (.ref n) h) Q = Q (.ref h.length) (h ++ [.lst (xs ++ ys)]) := by
  unfold aAdd
  simp only [h1, h2, if_pos hl, W_alloc]
theorem w_subI : W (aSub (.int i) (.int j) h) Q = Q (.int (i - j)) h := propext Iff.rfl
theorem w_mulI : W (aMul (.int i) (.int j) h) Q = if (small64 i || small64 j) = true then Q (.int (i * j)) h else False := by unfold aMul; simp only [W_itm, W_pure, W_stk]
theorem w_mulS {k : Int} : W (aMul (.str x) (.int k) h) Q = if x.length ≤ 1000 ∧ -1000 ≤ k ∧ k ≤ 1000 then Q (.str (List.replicate k.toNat x).flatten) h else False := by unfold aMul; simp only [W_itm, W_pure, W_stk]
theorem w_divI : W (aDiv (.int i) (.int j) h) Q = if 0 < j ∧ j < 1073741824 then Q (.int (i / j)) h else False := by unfold aDiv; simp only [W_itm, W_pure, W_stk]
theorem w_modI : W (aMod (.int i) (.int j) h) Q = if 0 < j then Q (.int (i % j)) h else False := by unfold aMod; simp only [W_itm, W_pure, W_stk]
theorem w_powI : W (aPow (.int i) (.int j) h) Q = if 0 ≤ j ∧ j ≤ 1000 ∧ i.natAbs < 2 ^ 64 then Q (.int (i ^ j.toNat)) h else False := by unfold aPow; simp only [W_itm, W_pure, W_stk]
theorem deep_str {n : Nat} : deep h n (.str x) = some (.str (mkS x)) := by cases n <;> rfl
theorem deep_int {n : Nat} : deep h n (.int i) = some (.int i) := by cases n <;> rfl
theorem deep_bl {n : Nat} : deep h n (.bl b) = some (.bool b) := by cases n <;> rfl
theorem deep_non {n : Nat} : deep h n .non = some .none := by cases n <;> rfl
theorem eqv_str : PyData.eqv (.str (mkS x)) (.str (mkS y)) = decide (x = y) := by
  have e : PyData.eqv (.str (mkS x)) (.str (mkS y)) = (mkS x == mkS y) := by first | rfl | simp [PyData.eqv]
  rw [e]
  by_cases q : x = y
  · subst q; simp
  · have : mkS x ≠ mkS y := fun z => q (mkS_inj z)
    simp [q]
theorem eqv_int : PyData.eqv (.int i) (.int j) = decide (i = j) := by
  have e : PyData.eqv (.int i) (.int j) = (i == j) := by first | rfl | simp [PyData.eqv]
  rw [e]; by_cases q : i = j <;> simp [q]
theorem eqv_bl : PyData.eqv (.bool b) (.bool c) = decide (b = c) := by
  cases b <;> cases c <;> first | rfl | decide
theorem w_eqS : W (aEq (.str x) (.str y) h) Q = Q (.bl (decide (x = y))) h := by
  show W (aEqR false (.str x) (.str y) h) Q = _
  unfold aEqR; simp only [deep_str, eqv_str]; rfl
theorem w_neS : W (aNe (.str x) (.str y) h) Q = Q (.bl (!decide (x = y))) h := by
  show W (aEqR true (.str x) (.str y) h) Q = _
  unfold aEqR; simp only [deep_str, eqv_str]; rfl
theorem w_eqI : W (aEq (.int i) (.int j) h) Q = Q (.bl (decide (i = j))) h := by
  show W (aEqR false (.int i) (.int j) h) Q = _
  unfold aEqR; simp only [deep_int, eqv_int]; rfl
theorem w_neI : W (aNe (.int i) (.int j) h) Q = Q (.bl (!decide (i = j))) h := by
  show W (aEqR true (.int i) (.int j) h) Q = _
  unfold aEqR; simp only [deep_int, eqv_int]; rfl
theorem w_eqB : W (aEq (.bl b) (.bl c) h) Q = Q (.bl (decide (b = c))) h := by
  show W (aEqR false (.bl b) (.bl c) h) Q = _
  unfold aEqR; simp only [deep_bl, eqv_bl]; rfl
theorem w_neB : W (aNe (.bl b) (.bl c) h) Q = Q (.bl (!decide (b = c))) h := by
  show W (aEqR true (.bl b) (.bl c) h) Q = _
  unfold aEqR; simp only [deep_bl, eqv_bl]; rfl
theorem w_ltI : W (aLt (.int i) (.int j) h) Q = Q (.bl (decide (i < j))) h := propext Iff.rfl
theorem w_gtI : W (aGt (.int i) (.int j) h) Q = Q (.bl (decide (j < i))) h := propext Iff.rfl
theorem w_leI : W (aLe (.int i) (.int j) h) Q = Q (.bl (decide (i ≤ j))) h := propext Iff.rfl
theorem w_geI : W (aGe (.int i) (.int j) h) Q = Q (.bl (decide (j ≤ i))) h := propext Iff.rfl
theorem w_isN {a : AV} : W (aIsN a .non h) Q = Q (.bl (isNon a)) h := propext Iff.rfl
theorem w_isNN {a : AV} : W (aIsNN a .non h) Q = Q (.bl (!isNon a)) h := propext Iff.rfl
theorem w_inS {c : Nat} : W (aIn (.str [c]) (.str y) h) Q = Q (.bl (decide (c ∈ y))) h := propext Iff.rfl
theorem w_ninS {c : Nat} : W (aNin (.str [c]) (.str y) h) Q = Q (.bl (!decide (c ∈ y))) h := propext Iff.rfl
theorem w_lenS : W (aLen [.str x] h) Q = if x.length ≤ 16777216 then Q (.int x.length) h else False := by unfold aLen; simp only [W_ite, W_ok, W_stk']
theorem w_lenT {xs : List AV} : W (aLen [.tup xs] h) Q = Q (.int xs.length) h := propext Iff.rfl
theorem w_lenL {ns : List Int} : W (aLen [.lsc ns] h) Q = Q (.int ns.length) h := propext Iff.rfl
theorem w_lenR {n : Nat} {xs : List AV} (h1 : h[n]? = some (.lst xs)) : W (aLen [.ref n] h) Q = Q (.int xs.length) h := by unfold aLen; simp only [h1, W_ok]
theorem w_intI : W (aInt [.int i] h) Q = Q (.int i) h := propext Iff.rfl
theorem w_absI : W (aAbs [.int i] h) Q = Q (.int (if i < 0 then -i else i)) h := propext Iff.rfl
theorem w_minI : W (aMin2 [.int i, .int j] h) Q = Q (.int (if j < i then j else i)) h := propext Iff.rfl
theorem w_maxI : W (aMax2 [.int i, .int j] h) Q = Q (.int (if j > i then j else i)) h := propext Iff.rfl
theorem w_divm : W (aDivmod [.int i, .int j] h) Q = if 0 < j ∧ j < 1073741824 then Q (.tup [.int (i / j), .int (i % j)]) h else False := by unfold aDivmod; simp only [W_ite, W_ok, W_stk']
theorem w_neg : W (aNeg (.int i) h) Q = Q (.int (-i)) h := propext Iff.rfl
theorem w_not : W (aNot (.bl b) h) Q = Q (.bl (!b)) h := propext Iff.rfl
theorem w_truB : W (truA (.bl b) h) Qb = Qb b h := propext Iff.rfl
theorem w_truS : W (truA (.str x) h) Qb = if x.length ≤ 16777216 then Qb ((x.length : Int) != 0) h else False := by unfold truA; simp only [W_ite, W_ok, W_stk']
theorem w_truI : W (truA (.int i) h) Qb = Qb (i != 0) h := propext Iff.rfl
theorem w_truN : W (truA .non h) Qb = Qb false h := propext Iff.rfl
theorem w_orStk {o : Option AV} : W (orStk o h) Q = match o with
    | some a => Q a h
    | none => False := by cases o <;> rfl
theorem w_idxT {xs : List AV} : W (aIdx (.tup xs) (.int i) h) Q = match L2.atI xs i with
    | some a => Q a h
    | none => False := w_orStk
theorem w_idxS : W (aIdx (.str x) (.int i) h) Q = if x.length ≤ 16777216 then match L2.atI x i with
    | some c => Q (.str [c]) h
    | none => False else False := by
  unfold aIdx
  simp only [W_itm, w_orStk, W_stk]
  congr 1
  cases L2.atI x i <;> rfl
theorem w_idxL {n : Nat} {xs : List AV} {a : AV} (h1 : h[n]? = some (.lst xs)) (h2 : L2.atI xs i = some a) : W (aIdx (.ref n) (.int i) h) Q = Q a h := by
  unfold aIdx; simp only [h1, w_orStk, h2]
theorem w_idxC {ns : List Int} {k : Int} (h2 : L2.atI ns i = some k) : W (aIdx (.lsc ns) (.int i) h) Q = Q (.int k) h := by
  unfold aIdx; simp only [w_orStk, h2, Option.map_some]
theorem w_set {n : Nat} {xs : List AV} {a : AV} {k : Int} {j : Nat} {Q : Unit → AH → Prop} (h1 : h[n]? = some (.lst xs)) (h2 : L2.ixN xs.length k = some j) : W (aSet (.ref n) (.int k) a h) Q = Q () (h.set n (.lst (xs.set j a))) := by
  unfold aSet; simp only [h1, h2, W_ok]
theorem w_set3 {n : Nat} {x y z a : AV} {k : Int} {j : Nat} {Q : Unit → AH → Prop} (h1 : h[n]? = some (.lst [x, y, z])) (h2 : L2.ixN 3 k = some j) : W (aSet (.ref n) (.int k) a h) Q = Q () (h.set n (.lst ([x, y, z].set j a))) := w_set h1 h2
theorem w_isi {T : Ty} {a : AV} : W (aIsi T a h) Q = match tyOf a h with
    | some t => Q (.bl (isT t T)) h
    | none => False := by
  unfold aIsi
  cases tyOf a h <;> rfl
end
/-! ### the pot of draws -/
def Pot (n : Nat) (h : AH) : Prop := ∃ a b c : Int, h[n]? = some (.lst [.int a, .int b, .int c])
def bDraw : SSm := (sSeq (sIf (tCmp aGt (eBin aIdx (eVar 0) (eCst (.int 0))) (eCst (.int 0))) (sSeq (sAsg (eFn aDivmod (aCons (eBin aIdx (eVar 0) (eCst (.int 0))) (aCons (eVar 1) aNil))) (gTp [(gIx (eVar 0) (eCst (.int 0))), (gNm 2)]))
  (sRet (eVar 2)))
  sNil)
  (sSeq (sAsg (eBin aAdd (eBin aIdx (eVar 0) (eCst (.int 2))) (eCst (.int 1))) (gIx (eVar 0) (eCst (.int 2))))
  (sSeq (sAsg (eBin aMod (eFn aInt (aCons (eBin aAdd (eBin aAdd (eBin aMul (eBin aIdx (eVar 0) (eCst (.int 1))) (eBin aAdd (eBin aMod (eFn aInt (aCons (eBin aIdx (eVar 0) (eCst (.int 1))) aNil)) (eCst (.int 10007))) (eCst (.int 20011)))) (eBin aMul (eCst (.int 60013)) (eBin aIdx (eVar 0) (eCst (.int 2))))) (eCst (.int 61))) aNil)) (eCst (.int 2147483563))) (gIx (eVar 0) (eCst (.int 1))))
  (sRet (eBin aMod (eFn aInt (aCons (eBin aDiv (eBin aIdx (eVar 0) (eCst (.int 1))) (eCst (.int 97))) aNil)) (eVar 1))))))
def fDraw : List AV → M AV := mkF 2 1 bDraw
theorem small_mod {b : Int} : (small64 b || small64 (b % 10007 + 20011)) = true := by
  have h1 := Int.emod_nonneg b (show (10007 : Int) ≠ 0 by decide)
  have h2 := Int.emod_lt_of_pos b (show (0 : Int) < 10007 by decide)
  have : small64 (b % 10007 + 20011) = true := by
    unfold small64
    simp only [Bool.and_eq_true, decide_eq_true_eq]
    omega
  rw [this, Bool.or_true]
theorem draw_W {n : Nat} {h : AH} {m : Int} {Q : AV → AH → Prop} (hp : Pot n h) (h0 : 0 < m) (h1 : m < 1073741824) (q : ∀ d h', 0 ≤ d → d < m → Pot n h' → Kp [n] h h' → Q (.int d) h') : W (fDraw [.ref n, .int m] h) Q := by
  obtain ⟨a, b, c, hn⟩ := hp
  have hl : n < h.length := (List.getElem?_eq_some_iff.mp hn).1
  have s1 : ∀ o : AO, (h.set n o)[n]? = some o := fun o => List.getElem?_set_self hl
  have i0 : ∀ x y z : AV, L2.atI [x, y, z] 0 = some x := fun _ _ _ => rfl
  have i1 : ∀ x y z : AV, L2.atI [x, y, z] 1 = some y := fun _ _ _ => rfl
  have i2 : ∀ x y z : AV, L2.atI [x, y, z] 2 = some z := fun _ _ _ => rfl
  have n0 : L2.ixN 3 0 = some 0 := rfl
  have n1 : L2.ixN 3 1 = some 1 := rfl
  have n2 : L2.ixN 3 2 = some 2 := rfl
  unfold fDraw bDraw
  simp only [W_ok, W_bind, W_rbind, W_pure, W_stk, W_stk', W_alloc, W_var, W_cst, W_bin, W_un, W_if, W_aBl, W_and, W_or, W_fn, W_nil, W_cons, W_tup, W_lst, W_mth, W_onone, W_osome, W_slc, W_lam, W_joined, W_join0, W_join1, W_tof, W_tnt, W_tan, W_tor, W_tcmp, W_tys, W_chain, W_tchn, W_snil, W_seq, W_asg, W_drop, W_ret, W_retN, W_sif, W_brk, W_cnt, W_par, W_par3, W_gnm, W_gix, W_gtp, W_gs0, W_gs1, W_mkF, w_addI, w_addS, w_addT, w_subI, w_mulI, w_mulS, w_divI, w_modI, w_powI, w_eqS, w_neS, w_eqI, w_neI, w_eqB, w_neB, w_ltI, w_gtI, w_leI, w_geI, w_isN, w_isNN, w_inS, w_ninS, w_lenS, w_lenT, w_lenL, w_intI, w_absI, w_minI, w_maxI, w_divm, w_neg, w_not, w_truB, w_truS, w_truI, w_idxT, w_idxS, w_isi, List.length_cons, List.length_nil, List.map_cons, List.map_nil, List.replicate, List.cons_append, List.nil_append, List.getElem?_cons_zero, List.getElem?_cons_succ, List.set_cons_zero, List.set_cons_succ, Nat.zero_add, Nat.reduceAdd, if_true, if_false, w_idxL hn (i0 _ _ _)]
  by_cases ha : 0 < a
  · simp only [ha, decide_true, if_true, if_pos (And.intro h0 h1), w_set3 hn n0, W_ok, W_bind, W_rbind, W_pure, W_stk, W_stk', W_alloc, W_var, W_cst, W_bin, W_un, W_if, W_aBl, W_and, W_or, W_fn, W_nil, W_cons, W_tup, W_lst, W_mth, W_onone, W_osome, W_slc, W_lam, W_joined, W_join0, W_join1, W_tof, W_tnt, W_tan, W_tor, W_tcmp, W_tys, W_chain, W_tchn, W_snil, W_seq, W_asg, W_drop, W_ret, W_retN, W_sif, W_brk, W_cnt, W_par, W_par3, W_gnm, W_gix, W_gtp, W_gs0, W_gs1, W_mkF, w_addI, w_addS, w_addT, w_subI, w_mulI, w_mulS, w_divI, w_modI, w_powI, w_eqS, w_neS, w_eqI, w_neI, w_eqB, w_neB, w_ltI, w_gtI, w_leI, w_geI, w_isN, w_isNN, w_inS, w_ninS, w_lenS, w_lenT, w_lenL, w_intI, w_absI, w_minI, w_maxI, w_divm, w_neg, w_not, w_truB, w_truS, w_truI, w_idxT, w_idxS, w_isi, List.length_cons, List.length_nil, List.map_cons, List.map_nil, List.replicate, List.cons_append, List.nil_append, List.getElem?_cons_zero, List.getElem?_cons_succ, List.set_cons_zero, List.set_cons_succ, Nat.zero_add, Nat.reduceAdd, if_true, if_false]
    exact q _ _ (Int.emod_nonneg _ (by omega)) (Int.emod_lt_of_pos _ h0) ⟨_, _, _, s1 _⟩ (Kp.set (by simp))
  · simp only [ha, decide_false, Bool.false_eq_true, if_false, W_ok, W_bind, W_rbind, W_pure, W_stk, W_stk', W_alloc, W_var, W_cst, W_bin, W_un, W_if, W_aBl, W_and, W_or, W_fn, W_nil, W_cons, W_tup, W_lst, W_mth, W_onone, W_osome, W_slc, W_lam, W_joined, W_join0, W_join1, W_tof, W_tnt, W_tan, W_tor, W_tcmp, W_tys, W_chain, W_tchn, W_snil, W_seq, W_asg, W_drop, W_ret, W_retN, W_sif, W_brk, W_cnt, W_par, W_par3, W_gnm, W_gix, W_gtp, W_gs0, W_gs1, W_mkF, w_addI, w_addS, w_addT, w_subI, w_mulI, w_mulS, w_divI, w_modI, w_powI, w_eqS, w_neS, w_eqI, w_neI, w_eqB, w_neB, w_ltI, w_gtI, w_leI, w_geI, w_isN, w_isNN, w_inS, w_ninS, w_lenS, w_lenT, w_lenL, w_intI, w_absI, w_minI, w_maxI, w_divm, w_neg, w_not, w_truB, w_truS, w_truI, w_idxT, w_idxS, w_isi, List.length_cons, List.length_nil, List.map_cons, List.map_nil, List.replicate, List.cons_append, List.nil_append, List.getElem?_cons_zero, List.getElem?_cons_succ, List.set_cons_zero, List.set_cons_succ, Nat.zero_add, Nat.reduceAdd, if_true, if_false, w_idxL hn (i2 _ _ _), w_set3 hn n2, w_idxL (s1 _) (i1 _ _ _), w_idxL (s1 _) (i2 _ _ _)]
    have sm : (small64 60013 || small64 (c + 1)) = true := by
      have : small64 60013 = true := by decide
      rw [this]; rfl
    simp only [small_mod, sm, if_true, show (0 : Int) < 10007 by decide, show (0 : Int) < 2147483563 by decide, W_ok, W_bind, W_rbind, W_pure, W_stk, W_stk', W_alloc, W_var, W_cst, W_bin, W_un, W_if, W_aBl, W_and, W_or, W_fn, W_nil, W_cons, W_tup, W_lst, W_mth, W_onone, W_osome, W_slc, W_lam, W_joined, W_join0, W_join1, W_tof, W_tnt, W_tan, W_tor, W_tcmp, W_tys, W_chain, W_tchn, W_snil, W_seq, W_asg, W_drop, W_ret, W_retN, W_sif, W_brk, W_cnt, W_par, W_par3, W_gnm, W_gix, W_gtp, W_gs0, W_gs1, W_mkF, w_addI, w_addS, w_addT, w_subI, w_mulI, w_mulS, w_divI, w_modI, w_powI, w_eqS, w_neS, w_eqI, w_neI, w_eqB, w_neB, w_ltI, w_gtI, w_leI, w_geI, w_isN, w_isNN, w_inS, w_ninS, w_lenS, w_lenT, w_lenL, w_intI, w_absI, w_minI, w_maxI, w_divm, w_neg, w_not, w_truB, w_truS, w_truI, w_idxT, w_idxS, w_isi, List.length_cons, List.length_nil, List.map_cons, List.map_nil, List.replicate, List.cons_append, List.nil_append, List.getElem?_cons_zero, List.getElem?_cons_succ, List.set_cons_zero, List.set_cons_succ, Nat.zero_add, Nat.reduceAdd, if_true, if_false, w_set3 (s1 _) n1, List.set_set]
    have s2 : ∀ o : AO, (h.set n o)[n]? = some o := s1
    simp only [w_idxL (s2 _) (i1 _ _ _), if_pos (And.intro (show (0 : Int) < 97 by decide) (show (97 : Int) < 1073741824 by decide)), if_pos h0, W_ok, W_bind, W_rbind, W_pure, W_stk, W_stk', W_alloc, W_var, W_cst, W_bin, W_un, W_if, W_aBl, W_and, W_or, W_fn, W_nil, W_cons, W_tup, W_lst, W_mth, W_onone, W_osome, W_slc, W_lam, W_joined, W_join0, W_join1, W_tof, W_tnt, W_tan, W_tor, W_tcmp, W_tys, W_chain, W_tchn, W_snil, W_seq, W_asg, W_drop, W_ret, W_retN, W_sif, W_brk, W_cnt, W_par, W_par3, W_gnm, W_gix, W_gtp, W_gs0, W_gs1, W_mkF, w_addI, w_addS, w_addT, w_subI, w_mulI, w_mulS, w_divI, w_modI, w_powI, w_eqS, w_neS, w_eqI, w_neI, w_eqB, w_neB, w_ltI, w_gtI, w_leI, w_geI, w_isN, w_isNN, w_inS, w_ninS, w_lenS, w_lenT, w_lenL, w_intI, w_absI, w_minI, w_maxI, w_divm, w_neg, w_not, w_truB, w_truS, w_truI, w_idxT, w_idxS, w_isi, List.length_cons, List.length_nil, List.map_cons, List.map_nil, List.replicate, List.cons_append, List.nil_append, List.getElem?_cons_zero, List.getElem?_cons_succ, List.set_cons_zero, List.set_cons_succ, Nat.zero_add, Nat.reduceAdd, if_true, if_false]
    exact q _ _ (Int.emod_nonneg _ (by omega)) (Int.emod_lt_of_pos _ h0) ⟨_, _, _, s1 _⟩ (Kp.set (by simp))
end Z

set_option maxHeartbeats 2000000
namespace Z
open PySem (PyData)
/-! ### sources -/
section
variable {σ : AS} {h : AH} {P : Src → AH → Prop}
theorem W_range1 {A : SAm} : W (iRange1 A σ h) P = W (A σ h) fun xs h => match xs with
    | [.int j] => if -1000000000 ≤ j ∧ j ≤ 1000000000 then P ⟨j.toNat, fun i _ => some (if i < j.toNat then some (.int i) else none)⟩ h else False
    | _ => False := by
  unfold iRange1
  simp only [W_bind]
  congr 1
  funext xs h
  rcases xs with _ | ⟨a, _ | ⟨b, r⟩⟩
  · rfl
  · cases a <;> try rfl
    simp only [W_ite, W_stk', W_ok]
  · cases a <;> rfl
theorem W_range2 {A : SAm} : W (iRange2 A σ h) P = W (A σ h) fun xs h => match xs with
    | [.int j, .int k] => if (-1000000000 ≤ j ∧ j ≤ 1000000000) ∧ -1000000000 ≤ k ∧ k ≤ 1000000000 then P ⟨(k - j).toNat, fun i _ => some (if i < (k - j).toNat then some (.int (j + i)) else none)⟩ h else False
    | _ => False := by
  unfold iRange2
  simp only [W_bind]
  congr 1
  funext xs h
  rcases xs with _ | ⟨a, _ | ⟨b, _ | ⟨c, r⟩⟩⟩
  · rfl
  · cases a <;> rfl
  · cases a <;> cases b <;> try rfl
    simp only [W_ite, W_stk', W_ok]
  · cases a <;> cases b <;> rfl
theorem W_ival {A : SEm} : W (iVal A σ h) P = W (A σ h) fun a h => W (srcOf a h) P := by unfold iVal; simp only [W_bind]
theorem W_srcT {xs : List AV} : W (srcOf (.tup xs) h) P = P ⟨xs.length, fun i _ => some xs[i]?⟩ h := propext Iff.rfl
theorem W_srcS {x : List Nat} : W (srcOf (.str x) h) P = P ⟨x.length, fun i _ => some (x[i]?.map fun c => .str [c])⟩ h := propext Iff.rfl
theorem W_srcC {ns : List Int} : W (srcOf (.lsc ns) h) P = P ⟨ns.length, fun i _ => some (ns[i]?.map .int)⟩ h := propext Iff.rfl
theorem W_srcL {n : Nat} {xs : List AV} (h1 : h[n]? = some (.lst xs)) : W (srcOf (.ref n) h) P = P ⟨xs.length, fun i h => match h[n]? with
      | some (.lst ys) => if ys.length = xs.length then some ys[i]? else none
      | _ => none⟩ h := by unfold srcOf; simp only [h1]; rfl
end
def rangeL (n : Nat) : List AV := (List.range n).map fun (i : Nat) => AV.int (i : Int)
theorem rangeL_at (n i : Nat) : (rangeL n)[i]? = if i < n then some (.int i) else none := by
  unfold rangeL
  rw [List.getElem?_map]
  by_cases hi : i < n
  · rw [List.getElem?_range hi, if_pos hi]; rfl
  · rw [List.getElem?_eq_none (by simpa using hi), if_neg hi]; rfl
theorem rangeL_len (n : Nat) : (rangeL n).length = n := by simp [rangeL]
def strL (x : List Nat) : List AV := x.map fun c => .str [c]
theorem strL_at (x : List Nat) (i : Nat) : (strL x)[i]? = x[i]?.map fun c => .str [c] := by unfold strL; rw [List.getElem?_map]
/-- [e for .. in ..], no test: each item's value y stands in Y; S: what may change -/
theorem W_compK {S : List Nat} {vs : List Nat} {Is : SSrc} {g : SGm} {e : SEm} {Q : AV → AH → Prop} {σ : AS} {h : AH} (hI : W (Is σ h) fun s h1 => ∃ (xs : List AV) (V : Nat → AH → Prop) (Y : Nat → AV → Prop), s.len = xs.length ∧ xs.length ≤ 1000000 ∧ (∀ n ∈ S, n < h1.length) ∧
    V 0 h1 ∧ (∀ i h d o, h1.length ≤ d → V i h → V i (h.set d o)) ∧ (∀ i h o, V i h → V i (h ++ [o])) ∧ (∀ i h, i ≤ xs.length → Kp S h1 h → s.src i h = some xs[i]?) ∧
    (∀ i a h, xs[i]? = some a → V i h → Kp S h1 h → W (g a (wipeA σ vs) h) fun σ2 h2 => W (e σ2 h2) fun y h3 => Y i y ∧ V (i + 1) h3 ∧ Kp S h h3) ∧
    (∀ ys d h, ys.length = xs.length → (∀ (i : Nat) y, ys[i]? = some y → Y i y) → V xs.length h → Kp S h1 h → h1.length ≤ d → h[d]? = some (.lst ys) → Q (.ref d) h)) : W (eComp vs Is g tYs e σ h) Q := by
  refine W_comp (W.mono hI fun s h1 ⟨xs, V, Y, hl, hb, hS, v0, vset, vapp, hsrc, step, done⟩ => ?_)
  refine ⟨xs, fun i acc h => acc.length = i ∧ (∀ (j : Nat) y, acc[j]? = some y → Y j y) ∧ V i h ∧ Kp S h1 h ∧ i ≤ xs.length, hl, ⟨rfl, fun j y q => by simp at q, vapp _ _ _ v0, Kp.app _, Nat.zero_le _⟩, fun i acc h hi ⟨_, _, _, k, _⟩ _ => hsrc i h hi k, ?_, ?_⟩
  · rintro i a acc h hi ⟨ha, hy, hv, k, hle⟩ hd
    refine W.mono (step i a h hi hv k) fun σ2 h2 p2 => ?_
    rw [W_tys]
    simp only [if_true]
    refine W.mono p2 fun y h3 ⟨p3, p4, p5⟩ => ?_
    have hlen : h1.length < h.length := (List.getElem?_eq_some_iff.mp hd).1
    have hnS : h1.length ∉ S := fun z => Nat.lt_irrefl _ (hS _ z)
    have hi' : i < xs.length := (List.getElem?_eq_some_iff.mp hi).1
    refine ⟨p5.at hd hnS, by omega, by simp [ha], fun j z hj => ?_, vset _ _ _ _ (Nat.le_refl _) p4, (k.trans p5).setNew (Nat.le_refl _), hi'⟩
    by_cases hja : j < acc.length
    · rw [List.getElem?_append_left hja] at hj
      exact hy j z hj
    · rw [List.getElem?_append_right (Nat.le_of_not_lt hja)] at hj
      have hj0 : j - acc.length = 0 := by
        have := (List.getElem?_eq_some_iff.mp hj).1
        simp at this
        omega
      rw [hj0] at hj
      have hj1 : j = i := by omega
      cases hj
      subst hj1
      exact p3
  · rintro acc h ⟨ha, hy, hv, k, _⟩ hd
    exact done acc h1.length h ha hy hv k (Nat.le_refl _) hd
/-! ### picks -/
theorem ixN_nat {n : Nat} {d : Int} (h0 : 0 ≤ d) (h1 : d < n) : L2.ixN n d = some d.toNat := by
  unfold L2.ixN
  rw [if_pos h0, if_pos h1]
theorem atI_in {α : Type} {xs : List α} {d : Int} (h0 : 0 ≤ d) (h1 : d < xs.length) : ∃ a, L2.atI xs d = some a ∧ a ∈ xs ∧ xs[d.toNat]? = some a := by
  have hl : d.toNat < xs.length := by omega
  refine ⟨xs[d.toNat], ?_, List.getElem_mem hl, List.getElem?_eq_getElem hl⟩
  unfold L2.atI
  rw [ixN_nat h0 h1]
  exact List.getElem?_eq_getElem hl
def bPick : SSm := (sRet (eBin aIdx (eVar 1) (eFn fDraw (aCons (eVar 0) (aCons (eFn aLen (aCons (eVar 1) aNil)) aNil)))))
def fPick : List AV → M AV := mkF 2 0 bPick
theorem pick_S {n : Nat} {h : AH} {y : List Nat} {Q : AV → AH → Prop} (hp : Pot n h) (hy : y ≠ []) (hl : y.length ≤ 1000) (q : ∀ c h', c ∈ y → Pot n h' → Kp [n] h h' → Q (.str [c]) h') : W (fPick [.ref n, .str y] h) Q := by
  have h0 : 0 < y.length := List.length_pos_iff.mpr hy
  unfold fPick bPick
  simp only [W_ok, W_bind, W_rbind, W_pure, W_stk, W_stk', W_alloc, W_var, W_cst, W_bin, W_un, W_if, W_aBl, W_and, W_or, W_fn, W_nil, W_cons, W_tup, W_lst, W_mth, W_onone, W_osome, W_slc, W_lam, W_joined, W_join0, W_join1, W_tof, W_tnt, W_tan, W_tor, W_tcmp, W_tys, W_chain, W_tchn, W_snil, W_seq, W_asg, W_drop, W_ret, W_retN, W_sif, W_brk, W_cnt, W_par, W_par3, W_gnm, W_gix, W_gtp, W_gs0, W_gs1, W_mkF, w_addI, w_addS, w_addT, w_subI, w_mulI, w_mulS, w_divI, w_modI, w_powI, w_eqS, w_neS, w_eqI, w_neI, w_eqB, w_neB, w_ltI, w_gtI, w_leI, w_geI, w_isN, w_isNN, w_inS, w_ninS, w_lenS, w_lenT, w_lenL, w_intI, w_absI, w_minI, w_maxI, w_divm, w_neg, w_not, w_truB, w_truS, w_truI, w_idxT, w_idxS, w_isi, List.length_cons, List.length_nil, List.map_cons, List.map_nil, List.replicate, List.cons_append, List.nil_append, List.getElem?_cons_zero, List.getElem?_cons_succ, List.set_cons_zero, List.set_cons_succ, Nat.zero_add, Nat.reduceAdd, if_true, if_false, if_pos (show y.length ≤ 16777216 by omega)]
  refine draw_W hp (by omega) (by omega) fun d h' d0 d1 p k => ?_
  obtain ⟨c, e, hc, _⟩ := atI_in d0 d1
  simp only [w_idxS, if_pos (show y.length ≤ 16777216 by omega), e]
  exact q c h' hc p k
theorem pick_T {n : Nat} {h : AH} {xs : List AV} {Q : AV → AH → Prop} (hp : Pot n h) (hy : xs ≠ []) (hl : xs.length ≤ 1000) (q : ∀ a h', a ∈ xs → Pot n h' → Kp [n] h h' → Q a h') : W (fPick [.ref n, .tup xs] h) Q := by
  have h0 : 0 < xs.length := List.length_pos_iff.mpr hy
  unfold fPick bPick
  simp only [W_ok, W_bind, W_rbind, W_pure, W_stk, W_stk', W_alloc, W_var, W_cst, W_bin, W_un, W_if, W_aBl, W_and, W_or, W_fn, W_nil, W_cons, W_tup, W_lst, W_mth, W_onone, W_osome, W_slc, W_lam, W_joined, W_join0, W_join1, W_tof, W_tnt, W_tan, W_tor, W_tcmp, W_tys, W_chain, W_tchn, W_snil, W_seq, W_asg, W_drop, W_ret, W_retN, W_sif, W_brk, W_cnt, W_par, W_par3, W_gnm, W_gix, W_gtp, W_gs0, W_gs1, W_mkF, w_addI, w_addS, w_addT, w_subI, w_mulI, w_mulS, w_divI, w_modI, w_powI, w_eqS, w_neS, w_eqI, w_neI, w_eqB, w_neB, w_ltI, w_gtI, w_leI, w_geI, w_isN, w_isNN, w_inS, w_ninS, w_lenS, w_lenT, w_lenL, w_intI, w_absI, w_minI, w_maxI, w_divm, w_neg, w_not, w_truB, w_truS, w_truI, w_idxT, w_idxS, w_isi, List.length_cons, List.length_nil, List.map_cons, List.map_nil, List.replicate, List.cons_append, List.nil_append, List.getElem?_cons_zero, List.getElem?_cons_succ, List.set_cons_zero, List.set_cons_succ, Nat.zero_add, Nat.reduceAdd, if_true, if_false]
  refine draw_W hp (by omega) (by omega) fun d h' d0 d1 p k => ?_
  obtain ⟨c, e, hc, _⟩ := atI_in d0 d1
  simp only [w_idxT, e]
  exact q c h' hc p k
theorem pick_L {n m : Nat} {h : AH} {xs : List AV} {Q : AV → AH → Prop} (hp : Pot n h) (hm : h[m]? = some (.lst xs)) (hmn : m ≠ n) (hy : xs ≠ []) (hl : xs.length ≤ 1000) (q : ∀ a h', a ∈ xs → Pot n h' → Kp [n] h h' → Q a h') : W (fPick [.ref n, .ref m] h) Q := by
  have h0 : 0 < xs.length := List.length_pos_iff.mpr hy
  unfold fPick bPick
  simp only [W_ok, W_bind, W_rbind, W_pure, W_stk, W_stk', W_alloc, W_var, W_cst, W_bin, W_un, W_if, W_aBl, W_and, W_or, W_fn, W_nil, W_cons, W_tup, W_lst, W_mth, W_onone, W_osome, W_slc, W_lam, W_joined, W_join0, W_join1, W_tof, W_tnt, W_tan, W_tor, W_tcmp, W_tys, W_chain, W_tchn, W_snil, W_seq, W_asg, W_drop, W_ret, W_retN, W_sif, W_brk, W_cnt, W_par, W_par3, W_gnm, W_gix, W_gtp, W_gs0, W_gs1, W_mkF, w_addI, w_addS, w_addT, w_subI, w_mulI, w_mulS, w_divI, w_modI, w_powI, w_eqS, w_neS, w_eqI, w_neI, w_eqB, w_neB, w_ltI, w_gtI, w_leI, w_geI, w_isN, w_isNN, w_inS, w_ninS, w_lenS, w_lenT, w_lenL, w_intI, w_absI, w_minI, w_maxI, w_divm, w_neg, w_not, w_truB, w_truS, w_truI, w_idxT, w_idxS, w_isi, List.length_cons, List.length_nil, List.map_cons, List.map_nil, List.replicate, List.cons_append, List.nil_append, List.getElem?_cons_zero, List.getElem?_cons_succ, List.set_cons_zero, List.set_cons_succ, Nat.zero_add, Nat.reduceAdd, if_true, if_false, w_lenR hm]
  refine draw_W hp (by omega) (by omega) fun d h' d0 d1 p k => ?_
  obtain ⟨c, e, hc, _⟩ := atI_in d0 d1
  rw [w_idxL (k.at hm (by simpa using hmn)) e]
  exact q c h' hc p k
/-! ### trees, and the law's comparison -/
inductive PT where
  | non | bl (b : Bool) | int (i : Int) | str (x : List Nat) | tup (xs : List PT) | lst (xs : List PT)
mutual
def Den (S : List Nat) (h : AH) : PT → AV → Prop
  | .non, a => a = .non
  | .bl b, a => a = .bl b
  | .int i, a => a = .int i
  | .str x, a => a = .str x
  | .tup ts, a => ∃ xs, a = .tup xs ∧ Dens S h ts xs
  | .lst ts, a => ∃ n xs, a = .ref n ∧ n ∉ S ∧ h[n]? = some (.lst xs) ∧ Dens S h ts xs
def Dens (S : List Nat) (h : AH) : List PT → List AV → Prop
  | [], as => as = []
  | t :: ts, as => ∃ b bs, as = b :: bs ∧ Den S h t b ∧ Dens S h ts bs
end
mutual
theorem Den.keep {S : List Nat} {h h' : AH} (k : Kp S h h') : ∀ (t : PT) (a : AV), Den S h t a → Den S h' t a
  | .non, _, e => e
  | .bl _, _, e => e
  | .int _, _, e => e
  | .str _, _, e => e
  | .tup ts, a, e => by
    simp only [Den] at e ⊢
    obtain ⟨xs, e1, e2⟩ := e
    exact ⟨xs, e1, Dens.keep k ts xs e2⟩
  | .lst ts, a, e => by
    simp only [Den] at e ⊢
    obtain ⟨n, xs, e1, e2, e3, e4⟩ := e
    exact ⟨n, xs, e1, e2, k.at e3 e2, Dens.keep k ts xs e4⟩
theorem Dens.keep {S : List Nat} {h h' : AH} (k : Kp S h h') : ∀ (ts : List PT) (as : List AV), Dens S h ts as → Dens S h' ts as
  | [], _, e => e
  | t :: ts, as, e => by
    simp only [Dens] at e ⊢
    obtain ⟨b, bs, e1, e2, e3⟩ := e
    exact ⟨b, bs, e1, Den.keep k t b e2, Dens.keep k ts bs e3⟩
end
theorem Dens.length {S : List Nat} {h : AH} : ∀ {ts : List PT} {as : List AV}, Dens S h ts as → as.length = ts.length
  | [], as, e => by simp only [Dens] at e; subst e; rfl
  | t :: ts, as, e => by
    simp only [Dens] at e
    obtain ⟨b, bs, e1, _, e3⟩ := e
    subst e1
    simp [Dens.length e3]
theorem Dens.get {S : List Nat} {h : AH} : ∀ {ts : List PT} {as : List AV} {i : Nat} {a : AV}, Dens S h ts as → as[i]? = some a → ∃ t, ts[i]? = some t ∧ Den S h t a
  | [], as, i, a, e, q => by simp only [Dens] at e; subst e; simp at q
  | t :: ts, as, i, a, e, q => by
    simp only [Dens] at e
    obtain ⟨b, bs, e1, e2, e3⟩ := e
    subst e1
    cases i with
    | zero => simp at q; subst q; exact ⟨t, rfl, e2⟩
    | succ i => exact Dens.get (i := i) e3 (by simpa using q)
theorem Den.weak {S S' : List Nat} (hS : ∀ n, n ∈ S' → n ∈ S) {h : AH} : (∀ (t : PT) (a : AV), Den S h t a → Den S' h t a) := by
  have key : ∀ n : Nat, (∀ t : PT, sizeOf t < n → ∀ a, Den S h t a → Den S' h t a) ∧ (∀ ts : List PT, sizeOf ts < n → ∀ as, Dens S h ts as → Dens S' h ts as) := by
    intro n
    induction n with
    | zero => exact ⟨fun _ z => absurd z (Nat.not_lt_zero _), fun _ z => absurd z (Nat.not_lt_zero _)⟩
    | succ n ih =>
      refine ⟨fun t hz a e => ?_, fun ts hz as e => ?_⟩
      · cases t with
        | tup ts =>
          simp only [Den] at e ⊢
          obtain ⟨xs, e1, e2⟩ := e
          exact ⟨xs, e1, ih.2 ts (by simp at hz; omega) xs e2⟩
        | lst ts =>
          simp only [Den] at e ⊢
          obtain ⟨m, xs, e1, e2, e3, e4⟩ := e
          exact ⟨m, xs, e1, fun z => e2 (hS m z), e3, ih.2 ts (by simp at hz; omega) xs e4⟩
        | _ => simpa only [Den] using e
      · cases ts with
        | nil => simpa only [Dens] using e
        | cons t ts =>
          simp only [Dens] at e ⊢
          obtain ⟨b, bs, e1, e2, e3⟩ := e
          exact ⟨b, bs, e1, ih.1 t (by simp at hz; omega) b e2, ih.2 ts (by simp at hz; omega) bs e3⟩
  exact fun t a e => (key (sizeOf t + 1)).1 t (Nat.lt_succ_self _) a e
def PT.ok : Nat → PT → Prop
  | k + 1, .tup ts => ts.length ≤ 1000 ∧ ∀ t ∈ ts, PT.ok k t
  | k + 1, .lst ts => ts.length ≤ 1000 ∧ ∀ t ∈ ts, PT.ok k t
  | 0, .tup _ => False
  | 0, .lst _ => False
  | _, .str _ => True
  | _, .int _ => True
  | _, .bl _ => True
  | _, .non => True
def bSame (rec : List AV → M AV) : SSm := (sSeq (sIf (tOrr (tAn (tOf (eUn (aIsi .tup) (eVar 1))) (tOf (eUn (aIsi .tup) (eVar 0)))) (tAn (tOf (eUn (aIsi .lst) (eVar 1))) (tOf (eUn (aIsi .lst) (eVar 0))))) (sRet (eAnd (eBin aEq (eFn aLen (aCons (eVar 0) aNil)) (eFn aLen (aCons (eVar 1) aNil))) (eFn aAll (aCons (eComp [2] (iRange1 (aCons (eFn aLen (aCons (eVar 1) aNil)) aNil)) (gNm 2) tYs (eFn rec (aCons (eBin aIdx (eVar 0) (eVar 2)) (aCons (eBin aIdx (eVar 1) (eVar 2)) aNil)))) aNil))))
  sNil)
  (sSeq (sIf (tOrr (tOf (eUn (aIsi .tup) (eVar 1))) (tOrr (tOf (eUn (aIsi .lst) (eVar 1))) (tCmp aNe (eUn (aIsi .bl) (eVar 1)) (eUn (aIsi .bl) (eVar 0))))) (sRet (eCst (.bl false)))
  sNil)
  (sSeq (sIf (tOrr (tCmp aNe (eUn (aIsi .int) (eVar 1)) (eUn (aIsi .int) (eVar 0))) (tCmp aNe (eUn (aIsi .str) (eVar 1)) (eUn (aIsi .str) (eVar 0)))) (sRet (eCst (.bl false)))
  sNil)
  (sRet (eIf (tCmp aIsN (eVar 1) (eCst .non)) (eBin aIsN (eVar 0) (eCst .non)) (eBin aEq (eVar 0) (eVar 1)))))))
def fSame : Nat → List AV → M AV
  | 0 => fun _ => M.stk
  | k + 1 => mkF 2 1 (bSame (fSame k))
theorem W_allT {h : AH} {d : Nat} {ys : List AV} {Q : AV → AH → Prop} (hd : h[d]? = some (.lst ys)) (hy : ∀ (i : Nat) y, ys[i]? = some y → y = .bl true) (q : Q (.bl true) h) : W (aAll [.ref d] h) Q := by
  have hb : ∀ zs : List AV, (∀ (i : Nat) y, zs[i]? = some y → y = .bl true) → ∃ bs, blsOf zs = some bs ∧ bs.all id = true := by
    intro zs
    induction zs with
    | nil => intro _; exact ⟨[], rfl, rfl⟩
    | cons z zs ih =>
      intro hz
      obtain ⟨bs, e1, e2⟩ := ih fun i y e => hz (i + 1) y (by simpa using e)
      have := hz 0 z rfl
      subst this
      exact ⟨true :: bs, by simp [blsOf, e1], by simpa using e2⟩
  obtain ⟨bs, e1, e2⟩ := hb ys hy
  unfold aAll
  simp only [lstItems, hd, Option.bind_some, e1, W_ok, e2]
  exact q
theorem same_W : ∀ (k : Nat) (t : PT) (a b : AV) (h : AH) (Q : AV → AH → Prop), PT.ok k t → Den [] h t a → Den [] h t b → (∀ h', Kp [] h h' → Q (.bl true) h') → W (fSame (k + 1) [a, b] h) Q := by
  intro k
  induction k with
  | zero =>
    intro t a b h Q hok ha hb q
    cases t with
    | tup ts => exact (show False from hok).elim
    | lst ts => exact (show False from hok).elim
    | non => simp only [Den] at ha hb; subst ha hb; simp [fSame, bSame, W_ok, W_bind, W_rbind, W_pure, W_stk, W_stk', W_alloc, W_var, W_cst, W_bin, W_un, W_if, W_aBl, W_and, W_or, W_fn, W_nil, W_cons, W_tup, W_lst, W_mth, W_onone, W_osome, W_slc, W_lam, W_joined, W_join0, W_join1, W_tof, W_tnt, W_tan, W_tor, W_tcmp, W_tys, W_chain, W_tchn, W_snil, W_seq, W_asg, W_drop, W_ret, W_retN, W_sif, W_brk, W_cnt, W_par, W_par3, W_gnm, W_gix, W_gtp, W_gs0, W_gs1, W_mkF, w_addI, w_addS, w_addT, w_subI, w_mulI, w_mulS, w_divI, w_modI, w_powI, w_eqS, w_neS, w_eqI, w_neI, w_eqB, w_neB, w_ltI, w_gtI, w_leI, w_geI, w_isN, w_isNN, w_inS, w_ninS, w_lenS, w_lenT, w_lenL, w_intI, w_absI, w_minI, w_maxI, w_divm, w_neg, w_not, w_truB, w_truS, w_truI, w_idxT, w_idxS, w_isi, List.length_cons, List.length_nil, List.map_cons, List.map_nil, List.replicate, List.cons_append, List.nil_append, List.getElem?_cons_zero, List.getElem?_cons_succ, List.set_cons_zero, List.set_cons_succ, Nat.zero_add, Nat.reduceAdd, if_true, if_false, tyOf, isT, isNon]; exact q _ Kp.refl
    | bl x => simp only [Den] at ha hb; subst ha hb; simp [fSame, bSame, W_ok, W_bind, W_rbind, W_pure, W_stk, W_stk', W_alloc, W_var, W_cst, W_bin, W_un, W_if, W_aBl, W_and, W_or, W_fn, W_nil, W_cons, W_tup, W_lst, W_mth, W_onone, W_osome, W_slc, W_lam, W_joined, W_join0, W_join1, W_tof, W_tnt, W_tan, W_tor, W_tcmp, W_tys, W_chain, W_tchn, W_snil, W_seq, W_asg, W_drop, W_ret, W_retN, W_sif, W_brk, W_cnt, W_par, W_par3, W_gnm, W_gix, W_gtp, W_gs0, W_gs1, W_mkF, w_addI, w_addS, w_addT, w_subI, w_mulI, w_mulS, w_divI, w_modI, w_powI, w_eqS, w_neS, w_eqI, w_neI, w_eqB, w_neB, w_ltI, w_gtI, w_leI, w_geI, w_isN, w_isNN, w_inS, w_ninS, w_lenS, w_lenT, w_lenL, w_intI, w_absI, w_minI, w_maxI, w_divm, w_neg, w_not, w_truB, w_truS, w_truI, w_idxT, w_idxS, w_isi, List.length_cons, List.length_nil, List.map_cons, List.map_nil, List.replicate, List.cons_append, List.nil_append, List.getElem?_cons_zero, List.getElem?_cons_succ, List.set_cons_zero, List.set_cons_succ, Nat.zero_add, Nat.reduceAdd, if_true, if_false, tyOf, isT, isNon]; exact q _ Kp.refl
    | int x => simp only [Den] at ha hb; subst ha hb; simp [fSame, bSame, W_ok, W_bind, W_rbind, W_pure, W_stk, W_stk', W_alloc, W_var, W_cst, W_bin, W_un, W_if, W_aBl, W_and, W_or, W_fn, W_nil, W_cons, W_tup, W_lst, W_mth, W_onone, W_osome, W_slc, W_lam, W_joined, W_join0, W_join1, W_tof, W_tnt, W_tan, W_tor, W_tcmp, W_tys, W_chain, W_tchn, W_snil, W_seq, W_asg, W_drop, W_ret, W_retN, W_sif, W_brk, W_cnt, W_par, W_par3, W_gnm, W_gix, W_gtp, W_gs0, W_gs1, W_mkF, w_addI, w_addS, w_addT, w_subI, w_mulI, w_mulS, w_divI, w_modI, w_powI, w_eqS, w_neS, w_eqI, w_neI, w_eqB, w_neB, w_ltI, w_gtI, w_leI, w_geI, w_isN, w_isNN, w_inS, w_ninS, w_lenS, w_lenT, w_lenL, w_intI, w_absI, w_minI, w_maxI, w_divm, w_neg, w_not, w_truB, w_truS, w_truI, w_idxT, w_idxS, w_isi, List.length_cons, List.length_nil, List.map_cons, List.map_nil, List.replicate, List.cons_append, List.nil_append, List.getElem?_cons_zero, List.getElem?_cons_succ, List.set_cons_zero, List.set_cons_succ, Nat.zero_add, Nat.reduceAdd, if_true, if_false, tyOf, isT, isNon]; exact q _ Kp.refl
    | str x => simp only [Den] at ha hb; subst ha hb; simp [fSame, bSame, W_ok, W_bind, W_rbind, W_pure, W_stk, W_stk', W_alloc, W_var, W_cst, W_bin, W_un, W_if, W_aBl, W_and, W_or, W_fn, W_nil, W_cons, W_tup, W_lst, W_mth, W_onone, W_osome, W_slc, W_lam, W_joined, W_join0, W_join1, W_tof, W_tnt, W_tan, W_tor, W_tcmp, W_tys, W_chain, W_tchn, W_snil, W_seq, W_asg, W_drop, W_ret, W_retN, W_sif, W_brk, W_cnt, W_par, W_par3, W_gnm, W_gix, W_gtp, W_gs0, W_gs1, W_mkF, w_addI, w_addS, w_addT, w_subI, w_mulI, w_mulS, w_divI, w_modI, w_powI, w_eqS, w_neS, w_eqI, w_neI, w_eqB, w_neB, w_ltI, w_gtI, w_leI, w_geI, w_isN, w_isNN, w_inS, w_ninS, w_lenS, w_lenT, w_lenL, w_intI, w_absI, w_minI, w_maxI, w_divm, w_neg, w_not, w_truB, w_truS, w_truI, w_idxT, w_idxS, w_isi, List.length_cons, List.length_nil, List.map_cons, List.map_nil, List.replicate, List.cons_append, List.nil_append, List.getElem?_cons_zero, List.getElem?_cons_succ, List.set_cons_zero, List.set_cons_succ, Nat.zero_add, Nat.reduceAdd, if_true, if_false, tyOf, isT, isNon]; exact q _ Kp.refl
  | succ k ih =>
    intro t a b h Q hok ha hb q
    rw [show fSame (k + 1 + 1) = mkF 2 1 (bSame (fSame (k + 1))) from rfl]
    generalize fSame (k + 1) = rec at ih ⊢
    cases t with
    | non => simp only [Den] at ha hb; subst ha hb; simp [bSame, W_ok, W_bind, W_rbind, W_pure, W_stk, W_stk', W_alloc, W_var, W_cst, W_bin, W_un, W_if, W_aBl, W_and, W_or, W_fn, W_nil, W_cons, W_tup, W_lst, W_mth, W_onone, W_osome, W_slc, W_lam, W_joined, W_join0, W_join1, W_tof, W_tnt, W_tan, W_tor, W_tcmp, W_tys, W_chain, W_tchn, W_snil, W_seq, W_asg, W_drop, W_ret, W_retN, W_sif, W_brk, W_cnt, W_par, W_par3, W_gnm, W_gix, W_gtp, W_gs0, W_gs1, W_mkF, w_addI, w_addS, w_addT, w_subI, w_mulI, w_mulS, w_divI, w_modI, w_powI, w_eqS, w_neS, w_eqI, w_neI, w_eqB, w_neB, w_ltI, w_gtI, w_leI, w_geI, w_isN, w_isNN, w_inS, w_ninS, w_lenS, w_lenT, w_lenL, w_intI, w_absI, w_minI, w_maxI, w_divm, w_neg, w_not, w_truB, w_truS, w_truI, w_idxT, w_idxS, w_isi, List.length_cons, List.length_nil, List.map_cons, List.map_nil, List.replicate, List.cons_append, List.nil_append, List.getElem?_cons_zero, List.getElem?_cons_succ, List.set_cons_zero, List.set_cons_succ, Nat.zero_add, Nat.reduceAdd, if_true, if_false, tyOf, isT, isNon]; exact q _ Kp.refl
    | bl x => simp only [Den] at ha hb; subst ha hb; simp [bSame, W_ok, W_bind, W_rbind, W_pure, W_stk, W_stk', W_alloc, W_var, W_cst, W_bin, W_un, W_if, W_aBl, W_and, W_or, W_fn, W_nil, W_cons, W_tup, W_lst, W_mth, W_onone, W_osome, W_slc, W_lam, W_joined, W_join0, W_join1, W_tof, W_tnt, W_tan, W_tor, W_tcmp, W_tys, W_chain, W_tchn, W_snil, W_seq, W_asg, W_drop, W_ret, W_retN, W_sif, W_brk, W_cnt, W_par, W_par3, W_gnm, W_gix, W_gtp, W_gs0, W_gs1, W_mkF, w_addI, w_addS, w_addT, w_subI, w_mulI, w_mulS, w_divI, w_modI, w_powI, w_eqS, w_neS, w_eqI, w_neI, w_eqB, w_neB, w_ltI, w_gtI, w_leI, w_geI, w_isN, w_isNN, w_inS, w_ninS, w_lenS, w_lenT, w_lenL, w_intI, w_absI, w_minI, w_maxI, w_divm, w_neg, w_not, w_truB, w_truS, w_truI, w_idxT, w_idxS, w_isi, List.length_cons, List.length_nil, List.map_cons, List.map_nil, List.replicate, List.cons_append, List.nil_append, List.getElem?_cons_zero, List.getElem?_cons_succ, List.set_cons_zero, List.set_cons_succ, Nat.zero_add, Nat.reduceAdd, if_true, if_false, tyOf, isT, isNon]; exact q _ Kp.refl
    | int x => simp only [Den] at ha hb; subst ha hb; simp [bSame, W_ok, W_bind, W_rbind, W_pure, W_stk, W_stk', W_alloc, W_var, W_cst, W_bin, W_un, W_if, W_aBl, W_and, W_or, W_fn, W_nil, W_cons, W_tup, W_lst, W_mth, W_onone, W_osome, W_slc, W_lam, W_joined, W_join0, W_join1, W_tof, W_tnt, W_tan, W_tor, W_tcmp, W_tys, W_chain, W_tchn, W_snil, W_seq, W_asg, W_drop, W_ret, W_retN, W_sif, W_brk, W_cnt, W_par, W_par3, W_gnm, W_gix, W_gtp, W_gs0, W_gs1, W_mkF, w_addI, w_addS, w_addT, w_subI, w_mulI, w_mulS, w_divI, w_modI, w_powI, w_eqS, w_neS, w_eqI, w_neI, w_eqB, w_neB, w_ltI, w_gtI, w_leI, w_geI, w_isN, w_isNN, w_inS, w_ninS, w_lenS, w_lenT, w_lenL, w_intI, w_absI, w_minI, w_maxI, w_divm, w_neg, w_not, w_truB, w_truS, w_truI, w_idxT, w_idxS, w_isi, List.length_cons, List.length_nil, List.map_cons, List.map_nil, List.replicate, List.cons_append, List.nil_append, List.getElem?_cons_zero, List.getElem?_cons_succ, List.set_cons_zero, List.set_cons_succ, Nat.zero_add, Nat.reduceAdd, if_true, if_false, tyOf, isT, isNon]; exact q _ Kp.refl
    | str x => simp only [Den] at ha hb; subst ha hb; simp [bSame, W_ok, W_bind, W_rbind, W_pure, W_stk, W_stk', W_alloc, W_var, W_cst, W_bin, W_un, W_if, W_aBl, W_and, W_or, W_fn, W_nil, W_cons, W_tup, W_lst, W_mth, W_onone, W_osome, W_slc, W_lam, W_joined, W_join0, W_join1, W_tof, W_tnt, W_tan, W_tor, W_tcmp, W_tys, W_chain, W_tchn, W_snil, W_seq, W_asg, W_drop, W_ret, W_retN, W_sif, W_brk, W_cnt, W_par, W_par3, W_gnm, W_gix, W_gtp, W_gs0, W_gs1, W_mkF, w_addI, w_addS, w_addT, w_subI, w_mulI, w_mulS, w_divI, w_modI, w_powI, w_eqS, w_neS, w_eqI, w_neI, w_eqB, w_neB, w_ltI, w_gtI, w_leI, w_geI, w_isN, w_isNN, w_inS, w_ninS, w_lenS, w_lenT, w_lenL, w_intI, w_absI, w_minI, w_maxI, w_divm, w_neg, w_not, w_truB, w_truS, w_truI, w_idxT, w_idxS, w_isi, List.length_cons, List.length_nil, List.map_cons, List.map_nil, List.replicate, List.cons_append, List.nil_append, List.getElem?_cons_zero, List.getElem?_cons_succ, List.set_cons_zero, List.set_cons_succ, Nat.zero_add, Nat.reduceAdd, if_true, if_false, tyOf, isT, isNon]; exact q _ Kp.refl
    | tup ts =>
      obtain ⟨hl, hts⟩ := hok
      simp only [Den] at ha hb
      obtain ⟨xs, rfl, hx⟩ := ha
      obtain ⟨ys, rfl, hy⟩ := hb
      have lx := hx.length
      have ly := hy.length
      have e : ((xs.length : Int) = ys.length) = True := by simp [lx, ly]
      simp [bSame, W_ok, W_bind, W_rbind, W_pure, W_stk, W_stk', W_alloc, W_var, W_cst, W_bin, W_un, W_if, W_aBl, W_and, W_or, W_fn, W_nil, W_cons, W_tup, W_lst, W_mth, W_onone, W_osome, W_slc, W_lam, W_joined, W_join0, W_join1, W_tof, W_tnt, W_tan, W_tor, W_tcmp, W_tys, W_chain, W_tchn, W_snil, W_seq, W_asg, W_drop, W_ret, W_retN, W_sif, W_brk, W_cnt, W_par, W_par3, W_gnm, W_gix, W_gtp, W_gs0, W_gs1, W_mkF, w_addI, w_addS, w_addT, w_subI, w_mulI, w_mulS, w_divI, w_modI, w_powI, w_eqS, w_neS, w_eqI, w_neI, w_eqB, w_neB, w_ltI, w_gtI, w_leI, w_geI, w_isN, w_isNN, w_inS, w_ninS, w_lenS, w_lenT, w_lenL, w_intI, w_absI, w_minI, w_maxI, w_divm, w_neg, w_not, w_truB, w_truS, w_truI, w_idxT, w_idxS, w_isi, List.length_cons, List.length_nil, List.map_cons, List.map_nil, List.replicate, List.cons_append, List.nil_append, List.getElem?_cons_zero, List.getElem?_cons_succ, List.set_cons_zero, List.set_cons_succ, Nat.zero_add, Nat.reduceAdd, if_true, if_false, tyOf, isT, isNon, e]
      refine W_compK (S := []) ?_
      simp only [W_range1, W_ok, W_bind, W_rbind, W_pure, W_stk, W_stk', W_alloc, W_var, W_cst, W_bin, W_un, W_if, W_aBl, W_and, W_or, W_fn, W_nil, W_cons, W_tup, W_lst, W_mth, W_onone, W_osome, W_slc, W_lam, W_joined, W_join0, W_join1, W_tof, W_tnt, W_tan, W_tor, W_tcmp, W_tys, W_chain, W_tchn, W_snil, W_seq, W_asg, W_drop, W_ret, W_retN, W_sif, W_brk, W_cnt, W_par, W_par3, W_gnm, W_gix, W_gtp, W_gs0, W_gs1, W_mkF, w_addI, w_addS, w_addT, w_subI, w_mulI, w_mulS, w_divI, w_modI, w_powI, w_eqS, w_neS, w_eqI, w_neI, w_eqB, w_neB, w_ltI, w_gtI, w_leI, w_geI, w_isN, w_isNN, w_inS, w_ninS, w_lenS, w_lenT, w_lenL, w_intI, w_absI, w_minI, w_maxI, w_divm, w_neg, w_not, w_truB, w_truS, w_truI, w_idxT, w_idxS, w_isi, List.length_cons, List.length_nil, List.map_cons, List.map_nil, List.replicate, List.cons_append, List.nil_append, List.getElem?_cons_zero, List.getElem?_cons_succ, List.set_cons_zero, List.set_cons_succ, Nat.zero_add, Nat.reduceAdd, if_true, if_false]
      rw [if_pos (by omega)]
      refine ⟨rangeL ys.length, fun _ _ => True, fun _ y => y = .bl true, by simp [rangeL_len], by rw [rangeL_len]; omega, by simp, trivial, fun _ _ _ _ _ _ => trivial, fun _ _ _ _ => trivial, fun i h hi _ => by simp [rangeL_at], ?_, ?_⟩
      · intro i c h2 hc _ k2
        rw [rangeL_at] at hc
        split at hc
        · rename_i hi
          cases hc
          have hi' : i < xs.length := by omega
          simp only [W_ok, W_bind, W_rbind, W_pure, W_stk, W_stk', W_alloc, W_var, W_cst, W_bin, W_un, W_if, W_aBl, W_and, W_or, W_fn, W_nil, W_cons, W_tup, W_lst, W_mth, W_onone, W_osome, W_slc, W_lam, W_joined, W_join0, W_join1, W_tof, W_tnt, W_tan, W_tor, W_tcmp, W_tys, W_chain, W_tchn, W_snil, W_seq, W_asg, W_drop, W_ret, W_retN, W_sif, W_brk, W_cnt, W_par, W_par3, W_gnm, W_gix, W_gtp, W_gs0, W_gs1, W_mkF, w_addI, w_addS, w_addT, w_subI, w_mulI, w_mulS, w_divI, w_modI, w_powI, w_eqS, w_neS, w_eqI, w_neI, w_eqB, w_neB, w_ltI, w_gtI, w_leI, w_geI, w_isN, w_isNN, w_inS, w_ninS, w_lenS, w_lenT, w_lenL, w_intI, w_absI, w_minI, w_maxI, w_divm, w_neg, w_not, w_truB, w_truS, w_truI, w_idxT, w_idxS, w_isi, List.length_cons, List.length_nil, List.map_cons, List.map_nil, List.replicate, List.cons_append, List.nil_append, List.getElem?_cons_zero, List.getElem?_cons_succ, List.set_cons_zero, List.set_cons_succ, Nat.zero_add, Nat.reduceAdd, if_true, if_false, wipeA]
          obtain ⟨x1, e1, _, e1'⟩ := atI_in (xs := xs) (d := (i : Int)) (by omega) (by omega)
          obtain ⟨y1, e2, _, e2'⟩ := atI_in (xs := ys) (d := (i : Int)) (by omega) (by omega)
          simp only [e1, e2]
          obtain ⟨t1, f1, d1⟩ := hx.get e1'
          obtain ⟨t2, f2, d2⟩ := hy.get e2'
          rw [f1] at f2
          cases f2
          exact ih t1 x1 y1 h2 _ (hts t1 (List.mem_of_getElem? f1)) (d1.keep k2) (d2.keep k2) fun h' k3 => ⟨rfl, trivial, k3⟩
        · cases hc
      · intro zs d h2 _ hz _ k2 _ hd
        exact W_allT hd hz (q _ k2)
    | lst ts =>
      obtain ⟨hl, hts⟩ := hok
      simp only [Den] at ha hb
      obtain ⟨m, xs, rfl, _, hm, hx⟩ := ha
      obtain ⟨n, ys, rfl, _, hn, hy⟩ := hb
      have lx := hx.length
      have ly := hy.length
      have e : ((xs.length : Int) = ys.length) = True := by simp [lx, ly]
      simp [bSame, W_ok, W_bind, W_rbind, W_pure, W_stk, W_stk', W_alloc, W_var, W_cst, W_bin, W_un, W_if, W_aBl, W_and, W_or, W_fn, W_nil, W_cons, W_tup, W_lst, W_mth, W_onone, W_osome, W_slc, W_lam, W_joined, W_join0, W_join1, W_tof, W_tnt, W_tan, W_tor, W_tcmp, W_tys, W_chain, W_tchn, W_snil, W_seq, W_asg, W_drop, W_ret, W_retN, W_sif, W_brk, W_cnt, W_par, W_par3, W_gnm, W_gix, W_gtp, W_gs0, W_gs1, W_mkF, w_addI, w_addS, w_addT, w_subI, w_mulI, w_mulS, w_divI, w_modI, w_powI, w_eqS, w_neS, w_eqI, w_neI, w_eqB, w_neB, w_ltI, w_gtI, w_leI, w_geI, w_isN, w_isNN, w_inS, w_ninS, w_lenS, w_lenT, w_lenL, w_intI, w_absI, w_minI, w_maxI, w_divm, w_neg, w_not, w_truB, w_truS, w_truI, w_idxT, w_idxS, w_isi, List.length_cons, List.length_nil, List.map_cons, List.map_nil, List.replicate, List.cons_append, List.nil_append, List.getElem?_cons_zero, List.getElem?_cons_succ, List.set_cons_zero, List.set_cons_succ, Nat.zero_add, Nat.reduceAdd, if_true, if_false, tyOf, isT, isNon, hm, hn, w_lenR hm, w_lenR hn, e]
      refine W_compK (S := []) ?_
      simp only [W_range1, W_ok, W_bind, W_rbind, W_pure, W_stk, W_stk', W_alloc, W_var, W_cst, W_bin, W_un, W_if, W_aBl, W_and, W_or, W_fn, W_nil, W_cons, W_tup, W_lst, W_mth, W_onone, W_osome, W_slc, W_lam, W_joined, W_join0, W_join1, W_tof, W_tnt, W_tan, W_tor, W_tcmp, W_tys, W_chain, W_tchn, W_snil, W_seq, W_asg, W_drop, W_ret, W_retN, W_sif, W_brk, W_cnt, W_par, W_par3, W_gnm, W_gix, W_gtp, W_gs0, W_gs1, W_mkF, w_addI, w_addS, w_addT, w_subI, w_mulI, w_mulS, w_divI, w_modI, w_powI, w_eqS, w_neS, w_eqI, w_neI, w_eqB, w_neB, w_ltI, w_gtI, w_leI, w_geI, w_isN, w_isNN, w_inS, w_ninS, w_lenS, w_lenT, w_lenL, w_intI, w_absI, w_minI, w_maxI, w_divm, w_neg, w_not, w_truB, w_truS, w_truI, w_idxT, w_idxS, w_isi, List.length_cons, List.length_nil, List.map_cons, List.map_nil, List.replicate, List.cons_append, List.nil_append, List.getElem?_cons_zero, List.getElem?_cons_succ, List.set_cons_zero, List.set_cons_succ, Nat.zero_add, Nat.reduceAdd, if_true, if_false, w_lenR hn]
      rw [if_pos (by omega)]
      refine ⟨rangeL ys.length, fun _ _ => True, fun _ y => y = .bl true, by simp [rangeL_len], by rw [rangeL_len]; omega, by simp, trivial, fun _ _ _ _ _ _ => trivial, fun _ _ _ _ => trivial, fun i h hi _ => by simp [rangeL_at], ?_, ?_⟩
      · intro i c h2 hc _ k2
        rw [rangeL_at] at hc
        split at hc
        · rename_i hi
          cases hc
          have hi' : i < xs.length := by omega
          simp only [W_ok, W_bind, W_rbind, W_pure, W_stk, W_stk', W_alloc, W_var, W_cst, W_bin, W_un, W_if, W_aBl, W_and, W_or, W_fn, W_nil, W_cons, W_tup, W_lst, W_mth, W_onone, W_osome, W_slc, W_lam, W_joined, W_join0, W_join1, W_tof, W_tnt, W_tan, W_tor, W_tcmp, W_tys, W_chain, W_tchn, W_snil, W_seq, W_asg, W_drop, W_ret, W_retN, W_sif, W_brk, W_cnt, W_par, W_par3, W_gnm, W_gix, W_gtp, W_gs0, W_gs1, W_mkF, w_addI, w_addS, w_addT, w_subI, w_mulI, w_mulS, w_divI, w_modI, w_powI, w_eqS, w_neS, w_eqI, w_neI, w_eqB, w_neB, w_ltI, w_gtI, w_leI, w_geI, w_isN, w_isNN, w_inS, w_ninS, w_lenS, w_lenT, w_lenL, w_intI, w_absI, w_minI, w_maxI, w_divm, w_neg, w_not, w_truB, w_truS, w_truI, w_idxT, w_idxS, w_isi, List.length_cons, List.length_nil, List.map_cons, List.map_nil, List.replicate, List.cons_append, List.nil_append, List.getElem?_cons_zero, List.getElem?_cons_succ, List.set_cons_zero, List.set_cons_succ, Nat.zero_add, Nat.reduceAdd, if_true, if_false, wipeA]
          obtain ⟨x1, e1, _, e1'⟩ := atI_in (xs := xs) (d := (i : Int)) (by omega) (by omega)
          obtain ⟨y1, e2, _, e2'⟩ := atI_in (xs := ys) (d := (i : Int)) (by omega) (by omega)
          simp only [w_idxL (k2.at hm (by simp)) e1, w_idxL (k2.at hn (by simp)) e2]
          obtain ⟨t1, f1, d1⟩ := hx.get e1'
          obtain ⟨t2, f2, d2⟩ := hy.get e2'
          rw [f1] at f2
          cases f2
          exact ih t1 x1 y1 h2 _ (hts t1 (List.mem_of_getElem? f1)) (d1.keep k2) (d2.keep k2) fun h' k3 => ⟨rfl, trivial, k3⟩
        · cases hc
      · intro zs d h2 _ hz _ k2 _ hd
        exact W_allT hd hz (q _ k2)
end Z

set_option maxHeartbeats 2000000
namespace Z
/-! ### the script, the pot that is made of it -/
def Scr (a : AV) (h : AH) (ns : List Int) : Prop := a = .lsc ns ∨ ∃ m, a = .ref m ∧ h[m]? = some (.lst (ns.map .int))
theorem Scr.keep {a : AV} {h h' : AH} {ns : List Int} (s : Scr a h ns) (k : Kp [] h h') : Scr a h' ns := by
  rcases s with s | ⟨m, s, e⟩
  · exact .inl s
  · exact .inr ⟨m, s, k.at e (by simp)⟩
section
variable {a : AV} {h : AH} {ns : List Int} {Q : AV → AH → Prop}
theorem scr_len (s : Scr a h ns) : W (aLen [a] h) Q = Q (.int ns.length) h := by
  rcases s with rfl | ⟨m, rfl, e⟩
  · rfl
  · rw [w_lenR e, List.length_map]
theorem scr_idx (s : Scr a h ns) {i : Int} (h0 : 0 ≤ i) (h1 : i < ns.length) (q : ∀ z, Q (.int z) h) : W (aIdx a (.int i) h) Q := by
  rcases s with rfl | ⟨m, rfl, e⟩
  · obtain ⟨z, e1, _⟩ := atI_in h0 h1
    rw [w_idxC e1]; exact q z
  · obtain ⟨z, e1, _⟩ := atI_in h0 h1
    rw [w_idxL e (atI_map AV.int e1)]; exact q z
theorem scr_slc (s : Scr a h ns) {hi : Option Int} (q : ∀ zs : List Int, zs.length ≤ ns.length → Q (.ref h.length) (h ++ [.lst (zs.map .int)])) : W (aSlc a none hi h) Q := by
  have hc : (cutA ns none hi).length ≤ ns.length := by
    unfold cutA
    rw [List.length_take, List.length_drop]
    omega
  rcases s with rfl | ⟨m, rfl, e⟩
  · unfold aSlc
    rw [W_alloc]
    exact q _ hc
  · unfold aSlc
    simp only [e, W_alloc]
    have : cutA (ns.map AV.int) none hi = (cutA ns none hi).map .int := by
      unfold cutA
      rw [List.length_map, List.map_take, List.map_drop]
    rw [this]
    exact q _ hc
theorem intsOf_ints : ∀ zs : List Int, intsOf (zs.map .int) = some zs
  | [] => rfl
  | z :: zs => by simp [intsOf, intsOf_ints zs]
theorem w_sumL {n : Nat} {zs : List Int} (e : h[n]? = some (.lst (zs.map .int))) : W (aSum [.ref n] h) Q = Q (.int zs.sum) h := by
  unfold aSum
  simp only [lstItems, e, Option.bind_some, intsOf_ints, W_ok]
end
def bPot1 : SSm := (sAsg (eIf (tCmp aLt (eVar 1) (eFn aLen (aCons (eVar 0) aNil))) (eFn aInt (aCons (eBin aIdx (eVar 0) (eVar 1)) aNil)) (eBin aAdd (eBin aAdd (eBin aMul (eCst (.int 7907)) (eVar 1)) (eCst (.int 37))) (eBin aMod (eFn aInt (aCons (eFn aSum (aCons (eSlc (eVar 0) oNone (oSome (eCst (.int 3)))) aNil)) aNil)) (eCst (.int 1000033))))) (gNm 2))
def bPotR (A B : Int) : SSm := (sSeq (sAsg (eBin aAdd (eCst (.int A)) (eBin aMul (eCst (.int B)) (eVar 1))) (gNm 3))
  (sSeq (sFor (iVal (eBin aAdd (eSlc (eVar 0) oNone (oSome (eCst (.int 7)))) (eLst (aCons (eVar 2) aNil)))) (gNm 4)
  (sAsg (eBin aMod (eFn aInt (aCons (eBin aAdd (eBin aAdd (eBin aMul (eVar 3) (eCst (.int 69621))) (eBin aMod (eFn aInt (aCons (eVar 4) aNil)) (eCst (.int 2147483563)))) (eCst (.int 23))) aNil)) (eCst (.int 2147483563))) (gNm 3)))
  (sRet (eLst (aCons (eIf (tOrr (tCmp aLt (eVar 2) (eCst (.int 0))) (tCmp aGe (eVar 2) (eBin aPow (eCst (.int 10)) (eCst (.int 18))))) (eBin aMod (eFn aInt (aCons (eFn aAbs (aCons (eVar 2) aNil)) aNil)) (eBin aPow (eCst (.int 10)) (eCst (.int 64)))) (eCst (.int 0))) (aCons (eVar 3) (aCons (eCst (.int 0)) aNil)))))))
def bPot (A B : Int) : SSm := sSeq bPot1 (bPotR A B)
def fPot (A B : Int) : List AV → M AV := mkF 2 3 (bPot A B)
theorem pot_W {A B : Int} (hB : small64 B = true) {a : AV} {h : AH} {ns : List Int} {turn : Int} {Q : AV → AH → Prop} (s : Scr a h ns) (hl : ns.length ≤ 1000) (h0 : 0 ≤ turn) (q : ∀ n h', Kp [] h h' → h.length ≤ n → Pot n h' → Q (.ref n) h') : W (fPot A B [a, .int turn] h) Q := by
  have main : ∀ (cell : Int) (h1 : AH), Kp [] h h1 → W (bPotR A B [some a, some (.int turn), some (.int cell), none, none] h1) fun f h => match f with
    | .rt v => Q v h
    | .nx _ => Q .non h
    | _ => False := by
    intro cell h1 k1
    have sm : (small64 B || small64 turn) = true := by rw [hB]; rfl
    unfold bPotR
    simp only [W_ok, W_bind, W_rbind, W_pure, W_stk, W_stk', W_alloc, W_var, W_cst, W_bin, W_un, W_if, W_aBl, W_and, W_or, W_fn, W_nil, W_cons, W_tup, W_lst, W_mth, W_onone, W_osome, W_slc, W_lam, W_joined, W_join0, W_join1, W_tof, W_tnt, W_tan, W_tor, W_tcmp, W_tys, W_chain, W_tchn, W_snil, W_seq, W_asg, W_drop, W_ret, W_retN, W_sif, W_brk, W_cnt, W_par, W_par3, W_gnm, W_gix, W_gtp, W_gs0, W_gs1, W_mkF, w_addI, w_addS, w_addT, w_subI, w_mulI, w_mulS, w_divI, w_modI, w_powI, w_eqS, w_neS, w_eqI, w_neI, w_eqB, w_neB, w_ltI, w_gtI, w_leI, w_geI, w_isN, w_isNN, w_inS, w_ninS, w_lenS, w_lenT, w_lenL, w_intI, w_absI, w_minI, w_maxI, w_divm, w_neg, w_not, w_truB, w_truS, w_truI, w_idxT, w_idxS, w_isi, List.length_cons, List.length_nil, List.map_cons, List.map_nil, List.replicate, List.cons_append, List.nil_append, List.getElem?_cons_zero, List.getElem?_cons_succ, List.set_cons_zero, List.set_cons_succ, Nat.zero_add, Nat.reduceAdd, if_true, if_false, sm]
    refine W_for ?_
    simp only [W_ival, W_ok, W_bind, W_rbind, W_pure, W_stk, W_stk', W_alloc, W_var, W_cst, W_bin, W_un, W_if, W_aBl, W_and, W_or, W_fn, W_nil, W_cons, W_tup, W_lst, W_mth, W_onone, W_osome, W_slc, W_lam, W_joined, W_join0, W_join1, W_tof, W_tnt, W_tan, W_tor, W_tcmp, W_tys, W_chain, W_tchn, W_snil, W_seq, W_asg, W_drop, W_ret, W_retN, W_sif, W_brk, W_cnt, W_par, W_par3, W_gnm, W_gix, W_gtp, W_gs0, W_gs1, W_mkF, w_addI, w_addS, w_addT, w_subI, w_mulI, w_mulS, w_divI, w_modI, w_powI, w_eqS, w_neS, w_eqI, w_neI, w_eqB, w_neB, w_ltI, w_gtI, w_leI, w_geI, w_isN, w_isNN, w_inS, w_ninS, w_lenS, w_lenT, w_lenL, w_intI, w_absI, w_minI, w_maxI, w_divm, w_neg, w_not, w_truB, w_truS, w_truI, w_idxT, w_idxS, w_isi, List.length_cons, List.length_nil, List.map_cons, List.map_nil, List.replicate, List.cons_append, List.nil_append, List.getElem?_cons_zero, List.getElem?_cons_succ, List.set_cons_zero, List.set_cons_succ, Nat.zero_add, Nat.reduceAdd, if_true, if_false]
    refine scr_slc (s.keep k1) fun zs hz => ?_
    have e1 : (h1 ++ [AO.lst (zs.map .int)] ++ [AO.lst [AV.int cell]])[h1.length]? = some (.lst (zs.map .int)) := by simp
    have e2 : (h1 ++ [AO.lst (zs.map .int)] ++ [AO.lst [AV.int cell]])[(h1 ++ [AO.lst (zs.map AV.int)]).length]? = some (.lst [.int cell]) := by simp
    rw [w_addL e1 e2 (by simp; omega)]
    rw [W_srcL (xs := (zs ++ [cell]).map .int) (by simp)]
    generalize hg : h1 ++ [AO.lst (zs.map AV.int)] ++ [AO.lst [AV.int cell]] = h2
    have k2 : Kp [] h1 h2 := by rw [← hg, List.append_assoc]; exact Kp.app _
    have e3 : (h2 ++ [AO.lst (zs.map AV.int ++ [AV.int cell])])[h2.length]? = some (.lst ((zs ++ [cell]).map .int)) := by simp
    have k3 : Kp [] h1 (h2 ++ [AO.lst (zs.map AV.int ++ [AV.int cell])]) := k2.trans (Kp.app _)
    refine ⟨(zs ++ [cell]).map .int, fun i σ h => (∃ s v, σ = [some a, some (.int turn), some (.int cell), some (.int s), v]) ∧ h = h2 ++ [AO.lst (zs.map AV.int ++ [AV.int cell])], rfl, ⟨⟨_, _, rfl⟩, rfl⟩, fun i σ h hi ⟨_, e⟩ => ?_, ?_, ?_⟩
    · subst e
      simp only [e3]
      simp
    · rintro i x σ h3 hx ⟨⟨s1, v, rfl⟩, rfl⟩
      rw [List.getElem?_map] at hx
      cases e : (zs ++ [cell])[i]? with
      | none => rw [e] at hx; cases hx
      | some z =>
        rw [e] at hx
        cases hx
        have sm2 : (small64 s1 || small64 69621) = true := by
          have : small64 69621 = true := by decide
          rw [this, Bool.or_true]
        simp only [W_ok, W_bind, W_rbind, W_pure, W_stk, W_stk', W_alloc, W_var, W_cst, W_bin, W_un, W_if, W_aBl, W_and, W_or, W_fn, W_nil, W_cons, W_tup, W_lst, W_mth, W_onone, W_osome, W_slc, W_lam, W_joined, W_join0, W_join1, W_tof, W_tnt, W_tan, W_tor, W_tcmp, W_tys, W_chain, W_tchn, W_snil, W_seq, W_asg, W_drop, W_ret, W_retN, W_sif, W_brk, W_cnt, W_par, W_par3, W_gnm, W_gix, W_gtp, W_gs0, W_gs1, W_mkF, w_addI, w_addS, w_addT, w_subI, w_mulI, w_mulS, w_divI, w_modI, w_powI, w_eqS, w_neS, w_eqI, w_neI, w_eqB, w_neB, w_ltI, w_gtI, w_leI, w_geI, w_isN, w_isNN, w_inS, w_ninS, w_lenS, w_lenT, w_lenL, w_intI, w_absI, w_minI, w_maxI, w_divm, w_neg, w_not, w_truB, w_truS, w_truI, w_idxT, w_idxS, w_isi, List.length_cons, List.length_nil, List.map_cons, List.map_nil, List.replicate, List.cons_append, List.nil_append, List.getElem?_cons_zero, List.getElem?_cons_succ, List.set_cons_zero, List.set_cons_succ, Nat.zero_add, Nat.reduceAdd, if_true, if_false, sm2, show (0 : Int) < 2147483563 by decide]
        exact ⟨⟨_, _, rfl⟩, trivial⟩
    · rintro σ h3 ⟨⟨s1, v, rfl⟩, rfl⟩
      have fin : ∀ x : Int, Q (.ref (h2 ++ [AO.lst (zs.map AV.int ++ [AV.int cell])]).length) ((h2 ++ [AO.lst (zs.map AV.int ++ [AV.int cell])]) ++ [.lst [.int x, .int s1, .int 0]]) := fun x =>
        q _ _ ((k1.trans k3).trans (Kp.app _)) ((k1.trans k3).1) ⟨x, s1, 0, by simp⟩
      have p18 : (0 : Int) ≤ 18 ∧ (18 : Int) ≤ 1000 ∧ (10 : Int).natAbs < 2 ^ 64 := by decide
      have p64 : (0 : Int) ≤ 64 ∧ (64 : Int) ≤ 1000 ∧ (10 : Int).natAbs < 2 ^ 64 := by decide
      have pos : (0 : Int) < 10 ^ (64 : Int).toNat := by decide
      simp only [W_ok, W_bind, W_rbind, W_pure, W_stk, W_stk', W_alloc, W_var, W_cst, W_bin, W_un, W_if, W_aBl, W_and, W_or, W_fn, W_nil, W_cons, W_tup, W_lst, W_mth, W_onone, W_osome, W_slc, W_lam, W_joined, W_join0, W_join1, W_tof, W_tnt, W_tan, W_tor, W_tcmp, W_tys, W_chain, W_tchn, W_snil, W_seq, W_asg, W_drop, W_ret, W_retN, W_sif, W_brk, W_cnt, W_par, W_par3, W_gnm, W_gix, W_gtp, W_gs0, W_gs1, W_mkF, w_addI, w_addS, w_addT, w_subI, w_mulI, w_mulS, w_divI, w_modI, w_powI, w_eqS, w_neS, w_eqI, w_neI, w_eqB, w_neB, w_ltI, w_gtI, w_leI, w_geI, w_isN, w_isNN, w_inS, w_ninS, w_lenS, w_lenT, w_lenL, w_intI, w_absI, w_minI, w_maxI, w_divm, w_neg, w_not, w_truB, w_truS, w_truI, w_idxT, w_idxS, w_isi, List.length_cons, List.length_nil, List.map_cons, List.map_nil, List.replicate, List.cons_append, List.nil_append, List.getElem?_cons_zero, List.getElem?_cons_succ, List.set_cons_zero, List.set_cons_succ, Nat.zero_add, Nat.reduceAdd, if_true, if_false, if_pos p18, if_pos p64, if_pos pos]
      by_cases c1 : cell < 0
      · simp only [c1, decide_true, if_true]
        exact fin _
      · simp only [c1, decide_false, Bool.false_eq_true, if_false]
        by_cases c2 : (10 : Int) ^ (18 : Int).toNat ≤ cell
        · simp only [c2, decide_true, if_true]
          exact fin _
        · simp only [c2, decide_false, Bool.false_eq_true, if_false]
          exact fin _
  refine W_call rfl ?_
  show W (sSeq bPot1 (bPotR A B) [some a, some (.int turn), none, none, none] h) _
  rw [W_seq]
  unfold bPot1
  by_cases ht : turn < ns.length
  · simp only [W_ok, W_bind, W_rbind, W_pure, W_stk, W_stk', W_alloc, W_var, W_cst, W_bin, W_un, W_if, W_aBl, W_and, W_or, W_fn, W_nil, W_cons, W_tup, W_lst, W_mth, W_onone, W_osome, W_slc, W_lam, W_joined, W_join0, W_join1, W_tof, W_tnt, W_tan, W_tor, W_tcmp, W_tys, W_chain, W_tchn, W_snil, W_seq, W_asg, W_drop, W_ret, W_retN, W_sif, W_brk, W_cnt, W_par, W_par3, W_gnm, W_gix, W_gtp, W_gs0, W_gs1, W_mkF, w_addI, w_addS, w_addT, w_subI, w_mulI, w_mulS, w_divI, w_modI, w_powI, w_eqS, w_neS, w_eqI, w_neI, w_eqB, w_neB, w_ltI, w_gtI, w_leI, w_geI, w_isN, w_isNN, w_inS, w_ninS, w_lenS, w_lenT, w_lenL, w_intI, w_absI, w_minI, w_maxI, w_divm, w_neg, w_not, w_truB, w_truS, w_truI, w_idxT, w_idxS, w_isi, List.length_cons, List.length_nil, List.map_cons, List.map_nil, List.replicate, List.cons_append, List.nil_append, List.getElem?_cons_zero, List.getElem?_cons_succ, List.set_cons_zero, List.set_cons_succ, Nat.zero_add, Nat.reduceAdd, if_true, if_false, scr_len s, ht, decide_true]
    refine scr_idx s h0 ht fun z => ?_
    simp only [W_ok, W_bind, W_rbind, W_pure, W_stk, W_stk', W_alloc, W_var, W_cst, W_bin, W_un, W_if, W_aBl, W_and, W_or, W_fn, W_nil, W_cons, W_tup, W_lst, W_mth, W_onone, W_osome, W_slc, W_lam, W_joined, W_join0, W_join1, W_tof, W_tnt, W_tan, W_tor, W_tcmp, W_tys, W_chain, W_tchn, W_snil, W_seq, W_asg, W_drop, W_ret, W_retN, W_sif, W_brk, W_cnt, W_par, W_par3, W_gnm, W_gix, W_gtp, W_gs0, W_gs1, W_mkF, w_addI, w_addS, w_addT, w_subI, w_mulI, w_mulS, w_divI, w_modI, w_powI, w_eqS, w_neS, w_eqI, w_neI, w_eqB, w_neB, w_ltI, w_gtI, w_leI, w_geI, w_isN, w_isNN, w_inS, w_ninS, w_lenS, w_lenT, w_lenL, w_intI, w_absI, w_minI, w_maxI, w_divm, w_neg, w_not, w_truB, w_truS, w_truI, w_idxT, w_idxS, w_isi, List.length_cons, List.length_nil, List.map_cons, List.map_nil, List.replicate, List.cons_append, List.nil_append, List.getElem?_cons_zero, List.getElem?_cons_succ, List.set_cons_zero, List.set_cons_succ, Nat.zero_add, Nat.reduceAdd, if_true, if_false]
    exact main z h Kp.refl
  · have sm : (small64 7907 || small64 turn) = true := by
      have : small64 7907 = true := by decide
      rw [this]; rfl
    simp only [W_ok, W_bind, W_rbind, W_pure, W_stk, W_stk', W_alloc, W_var, W_cst, W_bin, W_un, W_if, W_aBl, W_and, W_or, W_fn, W_nil, W_cons, W_tup, W_lst, W_mth, W_onone, W_osome, W_slc, W_lam, W_joined, W_join0, W_join1, W_tof, W_tnt, W_tan, W_tor, W_tcmp, W_tys, W_chain, W_tchn, W_snil, W_seq, W_asg, W_drop, W_ret, W_retN, W_sif, W_brk, W_cnt, W_par, W_par3, W_gnm, W_gix, W_gtp, W_gs0, W_gs1, W_mkF, w_addI, w_addS, w_addT, w_subI, w_mulI, w_mulS, w_divI, w_modI, w_powI, w_eqS, w_neS, w_eqI, w_neI, w_eqB, w_neB, w_ltI, w_gtI, w_leI, w_geI, w_isN, w_isNN, w_inS, w_ninS, w_lenS, w_lenT, w_lenL, w_intI, w_absI, w_minI, w_maxI, w_divm, w_neg, w_not, w_truB, w_truS, w_truI, w_idxT, w_idxS, w_isi, List.length_cons, List.length_nil, List.map_cons, List.map_nil, List.replicate, List.cons_append, List.nil_append, List.getElem?_cons_zero, List.getElem?_cons_succ, List.set_cons_zero, List.set_cons_succ, Nat.zero_add, Nat.reduceAdd, if_true, if_false, scr_len s, ht, decide_false, Bool.false_eq_true, if_false, sm]
    refine scr_slc s fun zs hz => ?_
    rw [w_sumL (zs := zs) (by simp)]
    simp only [W_ok, W_bind, W_rbind, W_pure, W_stk, W_stk', W_alloc, W_var, W_cst, W_bin, W_un, W_if, W_aBl, W_and, W_or, W_fn, W_nil, W_cons, W_tup, W_lst, W_mth, W_onone, W_osome, W_slc, W_lam, W_joined, W_join0, W_join1, W_tof, W_tnt, W_tan, W_tor, W_tcmp, W_tys, W_chain, W_tchn, W_snil, W_seq, W_asg, W_drop, W_ret, W_retN, W_sif, W_brk, W_cnt, W_par, W_par3, W_gnm, W_gix, W_gtp, W_gs0, W_gs1, W_mkF, w_addI, w_addS, w_addT, w_subI, w_mulI, w_mulS, w_divI, w_modI, w_powI, w_eqS, w_neS, w_eqI, w_neI, w_eqB, w_neB, w_ltI, w_gtI, w_leI, w_geI, w_isN, w_isNN, w_inS, w_ninS, w_lenS, w_lenT, w_lenL, w_intI, w_absI, w_minI, w_maxI, w_divm, w_neg, w_not, w_truB, w_truS, w_truI, w_idxT, w_idxS, w_isi, List.length_cons, List.length_nil, List.map_cons, List.map_nil, List.replicate, List.cons_append, List.nil_append, List.getElem?_cons_zero, List.getElem?_cons_succ, List.set_cons_zero, List.set_cons_succ, Nat.zero_add, Nat.reduceAdd, if_true, if_false, show (0 : Int) < 1000033 by decide]
    exact main _ _ (Kp.app _)
end Z

set_option maxHeartbeats 2000000
namespace Z
namespace LL
/-! ### texts of lumps, plainly -/
def snoc (acc : List (Nat × Nat)) (c : Nat) : List (Nat × Nat) := match acc.getLast? with
  | some (d, n) => if d = c then acc.dropLast ++ [(c, n + 1)] else acc ++ [(c, 1)]
  | none => [(c, 1)]
def lum (row : List Nat) : List (Nat × Nat) := row.foldl snoc []
def expand (l : List (Nat × Nat)) : List Nat := (l.map fun p => List.replicate p.2 p.1).flatten
theorem expand_app (a b : List (Nat × Nat)) : expand (a ++ b) = expand a ++ expand b := by simp [expand]
theorem expand_one (c n : Nat) : expand [(c, n)] = List.replicate n c := by simp [expand]
theorem last_split {α : Type} {l : List α} {a : α} (h : l.getLast? = some a) : l = l.dropLast ++ [a] := by
  have hn : l ≠ [] := fun z => by subst z; cases h
  rw [List.getLast?_eq_some_getLast hn] at h
  cases h
  exact (List.dropLast_concat_getLast hn).symm
theorem expand_snoc (acc : List (Nat × Nat)) (c : Nat) : expand (snoc acc c) = expand acc ++ [c] := by
  unfold snoc
  cases h : acc.getLast? with
  | none =>
    have : acc = [] := by simpa using h
    subst this
    rfl
  | some p =>
    obtain ⟨d, n⟩ := p
    by_cases e : d = c
    · subst e
      simp only [if_true]
      have := last_split h
      rw [expand_app, expand_one]
      conv => rhs; rw [this, expand_app, expand_one]
      rw [List.append_assoc, List.replicate_succ']
    · simp only [if_neg e]
      rw [expand_app, expand_one]
      rfl
theorem expand_fold : ∀ (row : List Nat) (acc : List (Nat × Nat)), expand (row.foldl snoc acc) = expand acc ++ row
  | [], acc => by simp
  | c :: r, acc => by
    rw [List.foldl_cons, expand_fold r, expand_snoc, List.append_assoc]
    rfl
theorem expand_lum (row : List Nat) : expand (lum row) = row := by
  unfold lum
  rw [expand_fold]
  rfl
/-- no two lumps of one colour side by side -/
def Apart : List (Nat × Nat) → Prop
  | [] => True
  | [_] => True
  | p :: q :: r => p.1 ≠ q.1 ∧ Apart (q :: r)
theorem apart_snoc : ∀ {l : List (Nat × Nat)} {p q : Nat × Nat}, Apart (l ++ [p]) → p.1 ≠ q.1 → Apart (l ++ [p] ++ [q])
  | [], p, q, _, h => ⟨h, trivial⟩
  | [a], p, q, h1, h => ⟨h1.1, h, trivial⟩
  | a :: b :: r, p, q, h1, h => ⟨h1.1, apart_snoc (l := b :: r) h1.2 h⟩
theorem apart_last : ∀ {l : List (Nat × Nat)} {p q : Nat × Nat}, Apart (l ++ [p]) → p.1 = q.1 → Apart (l ++ [q])
  | [], p, q, _, _ => trivial
  | [a], p, q, h1, e => ⟨e ▸ h1.1, trivial⟩
  | a :: b :: r, p, q, h1, e => ⟨h1.1, apart_last (l := b :: r) h1.2 e⟩
def Ok (l : List (Nat × Nat)) : Prop := (∀ p ∈ l, 1 ≤ p.2) ∧ Apart l
theorem ok_snoc {acc : List (Nat × Nat)} {c : Nat} (h : Ok acc) : Ok (snoc acc c) := by
  unfold snoc
  cases e : acc.getLast? with
  | none =>
    exact ⟨fun p hp => by simp at hp; subst hp; exact Nat.le_refl 1, trivial⟩
  | some p =>
    obtain ⟨d, n⟩ := p
    have hs := last_split e
    by_cases q : d = c
    · subst q
      simp only [if_true]
      refine ⟨fun p hp => ?_, apart_last (p := (d, n)) (by rw [← hs]; exact h.2) rfl⟩
      rcases List.mem_append.mp hp with z | z
      · exact h.1 p ((List.dropLast_sublist _).subset z)
      · simp at z; subst z; exact Nat.le_add_left 1 n
    · simp only [if_neg q]
      refine ⟨fun p hp => ?_, ?_⟩
      · rcases List.mem_append.mp hp with z | z
        · exact h.1 p z
        · simp at z; subst z; exact Nat.le_refl 1
      · rw [hs]
        exact apart_snoc (by rw [← hs]; exact h.2) q
theorem ok_lum (row : List Nat) : Ok (lum row) := by
  unfold lum
  have : ∀ (row : List Nat) (acc : List (Nat × Nat)), Ok acc → Ok (row.foldl snoc acc) := by
    intro row
    induction row with
    | nil => intro acc h; exact h
    | cons c r ih => intro acc h; exact ih _ (ok_snoc h)
  exact this row [] ⟨fun p hp => (by cases hp), trivial⟩
theorem snoc_rep (acc : List (Nat × Nat)) (c : Nat) (h : ∀ p, acc.getLast? = some p → p.1 ≠ c) : ∀ n, (List.replicate (n + 1) c).foldl snoc acc = acc ++ [(c, n + 1)]
  | 0 => by
    show snoc acc c = _
    unfold snoc
    cases e : acc.getLast? with
    | none =>
      have : acc = [] := by simpa using e
      subst this
      rfl
    | some p =>
      obtain ⟨d, n⟩ := p
      have : d ≠ c := h _ e
      simp [this]
  | n + 1 => by
    rw [List.replicate_succ', List.foldl_append, snoc_rep acc c h n]
    show snoc (acc ++ [(c, n + 1)]) c = _
    unfold snoc
    rw [List.getLast?_concat]
    simp
theorem fold_expand : ∀ (l acc : List (Nat × Nat)), (∀ p ∈ l, 1 ≤ p.2) → Apart (acc ++ l) → (expand l).foldl snoc acc = acc ++ l
  | [], acc, _, _ => by simp [expand]
  | (c, n) :: l, acc, h1, h2 => by
    have hn : 1 ≤ n := h1 (c, n) List.mem_cons_self
    obtain ⟨m, rfl⟩ : ∃ m, n = m + 1 := ⟨n - 1, by omega⟩
    have e : expand ((c, m + 1) :: l) = List.replicate (m + 1) c ++ expand l := by simp [expand]
    have hl : ∀ p, acc.getLast? = some p → p.1 ≠ c := by
      intro p hp
      have hs := last_split hp
      rw [hs] at h2
      have : ∀ (a : List (Nat × Nat)), Apart (a ++ [p] ++ (c, m + 1) :: l) → p.1 ≠ c := by
        intro a
        induction a with
        | nil => intro z; exact z.1
        | cons x a ih =>
          intro z
          cases a with
          | nil => exact ih z.2
          | cons y a => exact ih z.2
      exact this _ h2
    rw [e, List.foldl_append, snoc_rep acc c hl m, fold_expand l _ (fun p hp => h1 p (List.mem_cons_of_mem _ hp)) (by rw [List.append_assoc]; exact h2), List.append_assoc]
    rfl
theorem lum_expand {l : List (Nat × Nat)} (h : Ok l) : lum (expand l) = l := by
  have := fold_expand l [] h.1 (by simpa using h.2)
  simpa [lum] using this
theorem mem_expand {l : List (Nat × Nat)} {p : Nat × Nat} (hp : p ∈ l) : List.replicate p.2 p.1 <+: List.replicate p.2 p.1 := List.prefix_refl _
theorem len_expand : ∀ l : List (Nat × Nat), (expand l).length = (l.map (·.2)).sum
  | [] => rfl
  | p :: l => by
    have e : expand (p :: l) = List.replicate p.2 p.1 ++ expand l := by simp [expand]
    rw [e, List.length_append, List.length_replicate, len_expand l]
    simp
theorem le_sum {l : List (Nat × Nat)} {p : Nat × Nat} (hp : p ∈ l) : p.2 ≤ (l.map (·.2)).sum := by
  induction l with
  | nil => cases hp
  | cons q l ih =>
    rcases List.mem_cons.mp hp with rfl | hp
    · simp
    · have := ih hp
      simp
      omega
theorem len_le_sum {l : List (Nat × Nat)} (h : ∀ p ∈ l, 1 ≤ p.2) : l.length ≤ (l.map (·.2)).sum := by
  induction l with
  | nil => exact Nat.le_refl 0
  | cons q l ih =>
    have h1 := h q List.mem_cons_self
    have h2 := ih fun p hp => h p (List.mem_cons_of_mem _ hp)
    simp
    omega
theorem col_mem {l : List (Nat × Nat)} (h : ∀ p ∈ l, 1 ≤ p.2) {p : Nat × Nat} (hp : p ∈ l) : p.1 ∈ expand l := by
  unfold expand
  rw [List.mem_flatten]
  refine ⟨_, List.mem_map.mpr ⟨p, hp, rfl⟩, ?_⟩
  have := h p hp
  rw [List.mem_replicate]
  exact ⟨by omega, rfl⟩
abbrev abc : List Nat := [97, 98, 99, 100, 101, 102]
abbrev NONE : List Nat := [110, 111, 110, 101]
def Valid (r : List Nat) : Prop := (∀ c ∈ r, c ∈ abc) ∧ r.length ≤ 12
def word (p : Nat × Nat) : List Nat := numT p.2 ++ [p.1]
def enc (r : List Nat) : List Nat := if r = [] then NONE else TL.joinL [32] ((lum r).map word)
/-! #### cuts -/
theorem join_spl (c : Nat) : ∀ (x acc : List Nat), TL.joinL [c] (TL.spl [c] 0 acc x) = acc ++ x ∧ TL.spl [c] 0 acc x ≠ []
  | [], acc => by simp [TL.spl, TL.joinL]
  | d :: r, acc => by
    unfold TL.spl
    by_cases e : d = c
    · subst e
      have hp : TL.pre [d] (d :: r) = true := by simp [TL.pre]
      rw [if_pos hp]
      obtain ⟨h1, h2⟩ := join_spl d r []
      refine ⟨?_, by simp⟩
      show TL.joinL [d] (acc :: TL.spl [d] 0 [] r) = _
      cases q : TL.spl [d] 0 [] r with
      | nil => exact absurd q h2
      | cons y ys =>
        rw [q] at h1
        show acc ++ ([d] ++ TL.joinL [d] (y :: ys)) = _
        rw [h1]
        simp
    · have hp : TL.pre [c] (d :: r) ≠ true := by simp [TL.pre, e]
      rw [if_neg hp]
      obtain ⟨h1, h2⟩ := join_spl c r (acc ++ [d])
      exact ⟨by rw [h1]; simp, h2⟩
theorem numT_ne (n : Nat) : numT n ≠ [] := TL.numL_ne n
theorem num_free {n : Nat} : 32 ∉ numT n := TL.numL_free (.inl (by decide))
theorem lum_ne {r : List Nat} (h : r ≠ []) : lum r ≠ [] := fun z => h (by rw [← expand_lum r, z]; rfl)
theorem words_free {r : List Nat} (h : ∀ c ∈ r, c ∈ abc) : ∀ w ∈ (lum r).map word, 32 ∉ w := by
  intro w hw
  obtain ⟨p, hp, rfl⟩ := List.mem_map.mp hw
  unfold word
  intro z
  rcases List.mem_append.mp z with z | z
  · exact num_free z
  · simp at z
    have := col_mem (ok_lum r).1 hp
    rw [expand_lum, ← z] at this
    have := h _ this
    revert this
    decide
theorem spl_enc {r : List Nat} (h : ∀ c ∈ r, c ∈ abc) (hr : r ≠ []) : TL.spl [32] 0 [] (enc r) = (lum r).map word := by
  unfold enc
  rw [if_neg hr]
  exact TL.spl_join (by simpa using lum_ne hr) (words_free h)
theorem enc_none {r : List Nat} (h : ∀ c ∈ r, c ∈ abc) (hr : r ≠ []) : enc r ≠ NONE := by
  intro z
  have e := spl_enc h hr
  rw [z] at e
  have e2 : TL.spl [32] 0 [] NONE = [NONE] := by decide
  rw [e2] at e
  cases hl : lum r with
  | nil => exact lum_ne hr hl
  | cons p l =>
    rw [hl] at e
    have : NONE = word p := (List.cons.inj e).1
    unfold word at this
    have hd := TL.numL_digits p.2
    cases q : numT p.2 with
    | nil => exact numT_ne _ q
    | cons d ds =>
      have hdd : 48 ≤ d ∧ d ≤ 57 := hd d (by show d ∈ numT p.2; rw [q]; exact List.mem_cons_self)
      rw [q] at this
      have : 110 = d := (List.cons.inj this).1
      omega
/-! #### the law's reading -/
open Classical in
/-- one word read behind a row -/
noncomputable def step (row w : List Nat) : Option (List Nat) := if w = [] ∨ (∀ c, w.getLast? = some c → c ∉ abc) ∨ (∀ n, 1 ≤ n → n ≤ 12 → w.dropLast ≠ numT n) ∨ (row ≠ [] ∧ row.getLast? = w.getLast?) then none else
  match w.getLast? with
  | some c => some (row ++ List.replicate (digVal w.dropLast) c)
  | none => none
noncomputable def rdF : List (List Nat) → List Nat → Option (List Nat)
  | [], row => some row
  | w :: ws, row => (step row w).bind (rdF ws)
noncomputable def rdL (t : List Nat) : Option (List Nat) := (rdF (if t ≠ NONE then TL.spl [32] 0 [] t else []) []).bind fun r => if r.length ≤ 12 then some r else none
theorem digVal_num (n : Nat) : digVal (numT n) = n := TL.numL_val n
theorem word_last (p : Nat × Nat) : (word p).getLast? = some p.1 := by unfold word; rw [List.getLast?_concat]
theorem word_drop (p : Nat × Nat) : (word p).dropLast = numT p.2 := by unfold word; rw [List.dropLast_concat]
theorem word_ne (p : Nat × Nat) : word p ≠ [] := by unfold word; simp
theorem step_word {row : List Nat} {p : Nat × Nat} (h1 : p.1 ∈ abc) (h2 : 1 ≤ p.2) (h3 : p.2 ≤ 12) (h4 : row.getLast? ≠ some p.1) : step row (word p) = some (row ++ List.replicate p.2 p.1) := by
  unfold step
  rw [if_neg]
  · rw [word_last, word_drop, digVal_num]
  · rintro (z | z | z | z)
    · exact word_ne p z
    · exact z _ (word_last p) h1
    · exact z p.2 h2 h3 (word_drop p)
    · exact h4 (z.2.trans (word_last p))
theorem step_some {row w row' : List Nat} (h : step row w = some row') : ∃ p : Nat × Nat, w = word p ∧ p.1 ∈ abc ∧ 1 ≤ p.2 ∧ p.2 ≤ 12 ∧ (row ≠ [] → row.getLast? ≠ some p.1) ∧ row' = row ++ List.replicate p.2 p.1 := by
  unfold step at h
  split at h
  · cases h
  · rename_i hc
    have c1 : w ≠ [] := fun z => hc (.inl z)
    cases hw : w.getLast? with
    | none => rw [hw] at h; cases h
    | some c =>
      rw [hw] at h
      have h := Option.some.inj h
      have c2 : c ∈ abc := Classical.byContradiction fun z => hc (.inr (.inl fun d hd => by rw [hw] at hd; cases hd; exact z))
      have c3 : ∃ n, 1 ≤ n ∧ n ≤ 12 ∧ w.dropLast = numT n := Classical.byContradiction fun z => hc (.inr (.inr (.inl fun n a b q => z ⟨n, a, b, q⟩)))
      obtain ⟨n, n1, n2, n3⟩ := c3
      refine ⟨(c, n), ?_, c2, n1, n2, fun hr z => hc (.inr (.inr (.inr ⟨hr, z.trans hw.symm⟩))), ?_⟩
      · unfold word
        rw [← n3]
        exact last_split hw
      · rw [← h, n3, digVal_num]
theorem rdF_words : ∀ (l acc : List (Nat × Nat)), (∀ p ∈ l, p.1 ∈ abc ∧ 1 ≤ p.2 ∧ p.2 ≤ 12) → (∀ p ∈ acc, 1 ≤ p.2) → Apart (acc ++ l) → rdF (l.map word) (expand acc) = some (expand (acc ++ l))
  | [], acc, _, _, _ => by simp [rdF]
  | p :: l, acc, h, ha, hp => by
    obtain ⟨h1, h2, h3⟩ := h p List.mem_cons_self
    have hl : (expand acc).getLast? ≠ some p.1 := by
      intro z
      cases q : acc.getLast? with
      | none =>
        have : acc = [] := by simpa using q
        subst this
        cases z
      | some a =>
        have hs := last_split q
        have ha1 : 1 ≤ a.2 := ha a (by rw [hs]; simp)
        have e : (expand acc).getLast? = some a.1 := by
          rw [hs, expand_app]
          have : expand [a] = List.replicate a.2 a.1 := by obtain ⟨x, y⟩ := a; exact expand_one x y
          rw [this]
          obtain ⟨m, hm⟩ : ∃ m, a.2 = m + 1 := ⟨a.2 - 1, by omega⟩
          rw [hm, List.replicate_succ', ← List.append_assoc, List.getLast?_concat]
        rw [e] at z
        have z := Option.some.inj z
        have : ∀ (b : List (Nat × Nat)), Apart (b ++ [a] ++ p :: l) → a.1 ≠ p.1 := by
          intro b
          induction b with
          | nil => intro z; exact z.1
          | cons x b ih =>
            intro z
            cases b with
            | nil => exact ih z.2
            | cons y b => exact ih z.2
        exact this acc.dropLast (by rw [← hs]; exact hp) z
    show ((step (expand acc) (word p)).bind (rdF (l.map word))) = _
    rw [step_word h1 h2 h3 hl]
    show rdF (l.map word) (expand acc ++ List.replicate p.2 p.1) = _
    have e : expand acc ++ List.replicate p.2 p.1 = expand (acc ++ [p]) := by
      rw [expand_app]
      obtain ⟨x, y⟩ := p
      rw [expand_one]
    rw [e, rdF_words l (acc ++ [p]) (fun q hq => h q (List.mem_cons_of_mem _ hq)) (fun q hq => by
      rcases List.mem_append.mp hq with z | z
      · exact ha q z
      · simp at z; subst z; exact h2) (by rw [List.append_assoc]; exact hp), List.append_assoc]
    rfl
theorem rdF_some : ∀ (ws : List (List Nat)) (acc : List (Nat × Nat)) (r : List Nat), Ok acc → rdF ws (expand acc) = some r → ∃ l, ws = l.map word ∧ (∀ p ∈ l, p.1 ∈ abc) ∧ Ok (acc ++ l) ∧ r = expand (acc ++ l)
  | [], acc, r, ho, h => ⟨[], rfl, fun _ z => (by cases z), by simpa using ho, by simpa [rdF] using h.symm⟩
  | w :: ws, acc, r, ho, h => by
    have h : (step (expand acc) w).bind (rdF ws) = some r := h
    cases q : step (expand acc) w with
    | none => rw [q] at h; cases h
    | some row' =>
      rw [q] at h
      obtain ⟨p, rfl, p1, p2, p3, p4, rfl⟩ := step_some q
      have e : expand acc ++ List.replicate p.2 p.1 = expand (acc ++ [p]) := by
        rw [expand_app]
        obtain ⟨x, y⟩ := p
        rw [expand_one]
      have h : rdF ws (expand acc ++ List.replicate p.2 p.1) = some r := h
      rw [e] at h
      have ho2 : Ok (acc ++ [p]) := by
        refine ⟨fun q hq => ?_, ?_⟩
        · rcases List.mem_append.mp hq with z | z
          · exact ho.1 q z
          · simp at z; subst z; exact p2
        · cases q : acc.getLast? with
          | none =>
            have : acc = [] := by simpa using q
            subst this
            trivial
          | some a =>
            have hs := last_split q
            have ha1 : 1 ≤ a.2 := ho.1 a (by rw [hs]; simp)
            have el : (expand acc).getLast? = some a.1 := by
              rw [hs, expand_app]
              have : expand [a] = List.replicate a.2 a.1 := by obtain ⟨x, y⟩ := a; exact expand_one x y
              rw [this]
              obtain ⟨m, hm⟩ : ∃ m, a.2 = m + 1 := ⟨a.2 - 1, by omega⟩
              rw [hm, List.replicate_succ', ← List.append_assoc, List.getLast?_concat]
            have hne : expand acc ≠ [] := fun z => by rw [z] at el; cases el
            have := p4 hne
            rw [el] at this
            rw [hs]
            exact apart_snoc (by rw [← hs]; exact ho.2) fun z => this (by rw [z])
      obtain ⟨l, e1, e2, e3, e4⟩ := rdF_some ws (acc ++ [p]) r ho2 h
      refine ⟨p :: l, by rw [e1]; rfl, fun q hq => ?_, by rw [List.append_assoc] at e3; exact e3, by rw [List.append_assoc] at e4; exact e4⟩
      rcases List.mem_cons.mp hq with rfl | hq
      · exact p1
      · exact e2 q hq
theorem rdL_enc {r : List Nat} (h : Valid r) : rdL (enc r) = some r := by
  unfold rdL
  by_cases hr : r = []
  · subst hr
    have : enc [] = NONE := rfl
    rw [this, if_neg (by simp)]
    rfl
  · rw [if_pos (enc_none h.1 hr), spl_enc h.1 hr]
    have e := rdF_words (lum r) [] (fun p hp => by
      refine ⟨h.1 _ ?_, (ok_lum r).1 p hp, ?_⟩
      · have := col_mem (ok_lum r).1 hp
        rwa [expand_lum] at this
      · have := le_sum hp
        rw [← len_expand, expand_lum] at this
        exact Nat.le_trans this h.2) (fun _ z => by cases z) (by simpa using (ok_lum r).2)
    have e : rdF ((lum r).map word) [] = some r := by
      rw [List.nil_append, expand_lum] at e
      exact e
    rw [e]
    simp [h.2]
theorem rdL_some {t r : List Nat} (h : rdL t = some r) : Valid r ∧ t = enc r := by
  unfold rdL at h
  cases q : rdF (if t ≠ NONE then TL.spl [32] 0 [] t else []) [] with
  | none => rw [q] at h; cases h
  | some r' =>
    rw [q] at h
    have h : (if r'.length ≤ 12 then some r' else none) = some r := h
    by_cases hl : r'.length ≤ 12
    · rw [if_pos hl] at h
      cases h
      obtain ⟨l, e1, e2, e3, e4⟩ := rdF_some _ [] r ⟨fun _ z => (by cases z), trivial⟩ q
      rw [List.nil_append] at e3 e4
      have hv : Valid r := ⟨fun c hc => by
        rw [e4] at hc
        unfold expand at hc
        rw [List.mem_flatten] at hc
        obtain ⟨x, hx, hc⟩ := hc
        obtain ⟨p, hp, rfl⟩ := List.mem_map.mp hx
        rw [(List.mem_replicate.mp hc).2]
        exact e2 p hp, hl⟩
      refine ⟨hv, ?_⟩
      by_cases ht : t = NONE
      · subst ht
        rw [if_neg (by simp)] at e1
        have : l = [] := by simpa using e1.symm
        subst this
        rw [e4]
        rfl
      · rw [if_pos ht] at e1
        obtain ⟨j1, j2⟩ := join_spl 32 t []
        rw [e1] at j1 j2
        have hlne : l ≠ [] := fun z => by subst z; exact j2 rfl
        have hr : r ≠ [] := by
          rw [e4]
          intro z
          have := congrArg lum z
          rw [lum_expand e3] at this
          exact hlne this
        unfold enc
        rw [if_neg hr, e4, lum_expand e3, j1]
        rfl
    · rw [if_neg hl] at h; cases h
theorem rdL_iff {t r : List Nat} : rdL t = some r ↔ Valid r ∧ t = enc r := ⟨rdL_some, fun ⟨h1, h2⟩ => h2 ▸ rdL_enc h1⟩
/-! #### the program's reading -/
def digs : List Nat := [48, 49, 50, 51, 52, 53, 54, 55, 56, 57]
def cntT (x : List Nat) : Option Nat := if x = [] ∨ x.all (fun c => decide (c ∈ digs)) = false then none else if x.head? = some 48 ∧ 1 < x.length then none else some (digVal x)
def lmpT (w : List Nat) : Option (List Nat) := match cntT w.dropLast, w.getLast? with
  | some n, some c => if n ≤ 12 then some (List.replicate n c) else none
  | _, _ => none
def seqO : List (Option (List Nat)) → Option (List (List Nat))
  | [] => some []
  | some x :: r => (seqO r).map (x :: ·)
  | none :: _ => none
def vB (r : List Nat) : Bool := r.all (fun c => decide (c ∈ abc)) && decide (r.length ≤ 12)
theorem vB_iff {r : List Nat} : vB r = true ↔ Valid r := by simp [vB, Valid]
def rdP (t : List Nat) : Option (List Nat) := match seqO ((if t ≠ NONE then TL.spl [32] 0 [] t else []).map lmpT) with
  | some xs => if vB xs.flatten = true ∧ enc xs.flatten = t then some xs.flatten else none
  | none => none
theorem num_head {n : Nat} (h : 1 ≤ n) (h2 : n ≤ 12) : (numT n).head? ≠ some 48 := by
  have : ∀ n, n ≤ 12 → 1 ≤ n → (numT n).head? ≠ some 48 := by decide
  exact this n h2 h
theorem cntT_num {n : Nat} (h : 1 ≤ n) (h2 : n ≤ 12) : cntT (numT n) = some n := by
  have : ∀ n, n ≤ 12 → 1 ≤ n → cntT (numT n) = some n := by decide
  exact this n h2 h
theorem lmpT_word {p : Nat × Nat} (h : 1 ≤ p.2) (h2 : p.2 ≤ 12) : lmpT (word p) = some (List.replicate p.2 p.1) := by
  unfold lmpT
  rw [word_drop, word_last, cntT_num h h2]
  simp [h2]
theorem seqO_words : ∀ l : List (Nat × Nat), (∀ p ∈ l, 1 ≤ p.2 ∧ p.2 ≤ 12) → seqO ((l.map word).map lmpT) = some (l.map fun p => List.replicate p.2 p.1)
  | [], _ => rfl
  | p :: l, h => by
    obtain ⟨h1, h2⟩ := h p List.mem_cons_self
    simp only [List.map_cons, lmpT_word h1 h2, seqO, seqO_words l fun q hq => h q (List.mem_cons_of_mem _ hq), Option.map_some]
theorem rdP_enc {r : List Nat} (h : Valid r) : rdP (enc r) = some r := by
  unfold rdP
  by_cases hr : r = []
  · subst hr
    have : enc [] = NONE := rfl
    rw [this, if_neg (by simp)]
    simp [seqO, vB, enc]
  · rw [if_pos (enc_none h.1 hr), spl_enc h.1 hr, seqO_words (lum r) (fun p hp => ⟨(ok_lum r).1 p hp, by
      have := le_sum hp
      rw [← len_expand, expand_lum] at this
      exact Nat.le_trans this h.2⟩)]
    have e : ((lum r).map fun p => List.replicate p.2 p.1).flatten = r := expand_lum r
    simp only [e, vB_iff.mpr h, and_self, if_true]
theorem rdP_eq (t : List Nat) : rdP t = rdL t := by
  cases h : rdL t with
  | some r =>
    obtain ⟨h1, rfl⟩ := rdL_some h
    exact rdP_enc h1
  | none =>
    unfold rdP
    cases q : seqO ((if t ≠ NONE then TL.spl [32] 0 [] t else []).map lmpT) with
    | none => rfl
    | some xs =>
      by_cases c : vB xs.flatten = true ∧ enc xs.flatten = t
      · rw [rdL_iff.mpr ⟨vB_iff.mp c.1, c.2.symm⟩] at h; cases h
      · simp only [if_neg c]
end LL
end Z

set_option maxHeartbeats 2000000
namespace Z
/-- a list comprehension that yields zs -/
theorem W_compZ {vs : List Nat} {Is : SSrc} {g : SGm} {e : SEm} {Q : AV → AH → Prop} {σ : AS} {h : AH} (hI : W (Is σ h) fun s h1 => ∃ (xs zs : List AV), s.len = xs.length ∧ zs.length = xs.length ∧ xs.length ≤ 1000000 ∧ (∀ i h, i ≤ xs.length → Kp [] h1 h → s.src i h = some xs[i]?) ∧
    (∀ (i : Nat) a h, xs[i]? = some a → Kp [] h1 h → W (g a (wipeA σ vs) h) fun σ2 h2 => W (e σ2 h2) fun y h3 => zs[i]? = some y ∧ Kp [] h h3) ∧
    (∀ d h, Kp [] h1 h → h1.length ≤ d → h[d]? = some (.lst zs) → Q (.ref d) h)) : W (eComp vs Is g tYs e σ h) Q := by
  refine W_compK (S := []) (W.mono hI fun s h1 ⟨xs, zs, hl, hz, hb, hsrc, step, done⟩ => ?_)
  refine ⟨xs, fun _ _ => True, fun i y => zs[i]? = some y, hl, hb, fun n hn => (by cases hn), trivial, fun _ _ _ _ _ _ => trivial, fun _ _ _ _ => trivial, hsrc, fun i a h ha _ k => ?_, fun ys d h hy hY _ k hd hl2 => ?_⟩
  · refine W.mono (step i a h ha k) fun σ2 h2 p => W.mono p fun y h3 ⟨p1, p2⟩ => ⟨p1, trivial, p2⟩
  · have : ys = zs := List.ext_getElem? fun i => by
      cases q : ys[i]? with
      | some y => exact (hY i y q).symm
      | none =>
        have h1 := List.getElem?_eq_none_iff.mp q
        exact (List.getElem?_eq_none_iff.mpr (by omega)).symm
    subst this
    exact done d h k hd hl2
theorem blsOf_bls : ∀ bs : List Bool, blsOf (bs.map .bl) = some bs
  | [] => rfl
  | b :: bs => by simp [blsOf, blsOf_bls bs]
theorem strsOf_strs : ∀ bs : List (List Nat), strsOf (bs.map .str) = some bs
  | [] => rfl
  | b :: bs => by simp [strsOf, strsOf_strs bs]
theorem w_allB {h : AH} {d : Nat} {bs : List Bool} {Q : AV → AH → Prop} (hd : h[d]? = some (.lst (bs.map .bl))) : W (aAll [.ref d] h) Q = Q (.bl (bs.all id)) h := by
  unfold aAll; simp only [lstItems, hd, Option.bind_some, blsOf_bls, W_ok]
theorem w_anyB {h : AH} {d : Nat} {bs : List Bool} {Q : AV → AH → Prop} (hd : h[d]? = some (.lst (bs.map .bl))) : W (aAny [.ref d] h) Q = Q (.bl (bs.any id)) h := by
  unfold aAny; simp only [lstItems, hd, Option.bind_some, blsOf_bls, W_ok]
theorem w_join {h : AH} {d : Nat} {s : List Nat} {xs : List (List Nat)} {Q : AV → AH → Prop} (hd : h[d]? = some (.lst (xs.map .str))) (hl : (xs.map List.length).sum + xs.length * s.length ≤ 16777216) : W (aJoin (.str s) [.ref d] h) Q = Q (.str (TL.joinL s xs)) h := by
  unfold aJoin; simp only [seqItems, hd, Option.bind_some, strsOf_strs, if_pos hl, W_ok]; rfl
theorem w_split {h : AH} {x s : List Nat} {Q : AV → AH → Prop} (hs : s ≠ []) (hx : x.length ≤ 1000000) (h2 : s.all (fun c => decide (c < 256)) = true) : W (aSplit (.str x) [.str s] h) Q = Q (.ref h.length) (h ++ [.lst ((TL.spl s 0 [] x).map .str)]) := by
  unfold aSplit; simp only [if_pos (And.intro hs (And.intro hx h2)), W_alloc]
theorem w_append {h : AH} {n : Nat} {xs : List AV} {b : AV} {Q : AV → AH → Prop} (hn : h[n]? = some (.lst xs)) (hl : xs.length < 16777216) : W (aAppend (.ref n) [b] h) Q = Q .non (h.set n (.lst (xs ++ [b]))) := by
  unfold aAppend; simp only [hn, if_pos hl, W_ok]
theorem w_slcS {h : AH} {x : List Nat} {lo hi : Option Int} {Q : AV → AH → Prop} (hx : x.length ≤ 16777216) : W (aSlc (.str x) lo hi h) Q = Q (.str (cutA x lo hi)) h := by
  unfold aSlc; simp only [if_pos hx, W_pure]
theorem w_slcL {h : AH} {n : Nat} {xs : List AV} {lo hi : Option Int} {Q : AV → AH → Prop} (hn : h[n]? = some (.lst xs)) : W (aSlc (.ref n) lo hi h) Q = Q (.ref h.length) (h ++ [.lst (cutA xs lo hi)]) := by
  unfold aSlc; simp only [hn, W_alloc]
theorem w_tupL {h : AH} {n : Nat} {xs : List AV} {Q : AV → AH → Prop} (hn : h[n]? = some (.lst xs)) : W (aTuple [.ref n] h) Q = Q (.tup xs) h := by
  unfold aTuple; simp only [seqItems, hn, W_ok]
theorem w_fmtS {h : AH} {x : List Nat} {Q : AV → AH → Prop} (hx : x.length ≤ 16777216) : W (aFmt (.str x) h) Q = Q (.str x) h := by unfold aFmt; simp only [if_pos hx, W_ok]
theorem w_fmtI {h : AH} {n : Nat} {Q : AV → AH → Prop} (hx : n < 10 ^ 18) : W (aFmt (.int n) h) Q = Q (.str (numT n)) h := by
  unfold aFmt
  have e : (0 : Int) ≤ (n : Int) ∧ (n : Int) < 10 ^ 18 := ⟨by omega, by omega⟩
  simp only [if_pos e, W_ok]
  rfl
theorem w_strI {h : AH} {n : Nat} {Q : AV → AH → Prop} (hx : n < 10 ^ 18) : W (aStr [.int n] h) Q = Q (.str (numT n)) h := by
  unfold aStr
  have e : (0 : Int) ≤ (n : Int) ∧ (n : Int) < 10 ^ 18 := ⟨by omega, by omega⟩
  simp only [if_pos e, W_ok]
  rfl
theorem w_intS {h : AH} {x : List Nat} {Q : AV → AH → Prop} (h1 : x ≠ []) (h2 : x.length ≤ 640) (h3 : digitB x = true) : W (aInt [.str x] h) Q = Q (.int (digVal x)) h := by
  unfold aInt; simp only [if_pos (And.intro h1 (And.intro h2 h3)), W_ok]
/-! lists compared -/
mutual
def PT.py : PT → PySem.PyData
  | .non => .none
  | .bl b => .bool b
  | .int i => .int i
  | .str x => .str (mkS x)
  | .tup ts => .tuple (PT.pys ts)
  | .lst ts => .list (PT.pys ts)
def PT.pys : List PT → List PySem.PyData
  | [] => []
  | t :: ts => PT.py t :: PT.pys ts
end
theorem deep_den {S : List Nat} {h : AH} : ∀ (k : Nat) (t : PT) (a : AV) (n : Nat), PT.ok k t → k ≤ n → Den S h t a → deep h n a = some t.py := by
  intro k
  induction k with
  | zero =>
    intro t a n ok _ d
    cases t <;> first | exact (show False from ok).elim | (simp only [Den] at d; subst d; cases n <;> rfl)
  | succ k ih =>
    intro t a n ok hn d
    obtain ⟨m, rfl⟩ : ∃ m, n = m + 1 := ⟨n - 1, by omega⟩
    have many : ∀ (ts : List PT) (as : List AV), (∀ t ∈ ts, PT.ok k t) → Dens S h ts as → optAll (deep h m) as = some (PT.pys ts) := by
      intro ts
      induction ts with
      | nil => intro as _ ds; simp only [Dens] at ds; subst ds; rfl
      | cons t ts iht =>
        intro as ok ds
        simp only [Dens] at ds
        obtain ⟨b, bs, rfl, d1, d2⟩ := ds
        have e1 := ih t b m (ok t List.mem_cons_self) (by omega) d1
        have e2 := iht bs (fun t ht => ok t (List.mem_cons_of_mem _ ht)) d2
        unfold optAll
        rw [e1, e2]
        rfl
    cases t with
    | tup ts =>
      simp only [Den] at d
      obtain ⟨xs, rfl, ds⟩ := d
      have := many ts xs ok.2 ds
      unfold deep
      rw [this]
      rfl
    | lst ts =>
      simp only [Den] at d
      obtain ⟨r, xs, rfl, _, hr, ds⟩ := d
      have := many ts xs ok.2 ds
      unfold deep
      rw [hr]
      simp only [this]
      rfl
    | _ => simp only [Den] at d; subst d; rfl
theorem w_eqD {S : List Nat} {neg : Bool} {h : AH} {s t : PT} {a b : AV} {Q : AV → AH → Prop} (hs : PT.ok 20 s) (ht : PT.ok 20 t) (ha : Den S h s a) (hb : Den S h t b) : W (aEqR neg a b h) Q = Q (.bl (if neg = true then !PySem.PyData.eqv s.py t.py else PySem.PyData.eqv s.py t.py)) h := by
  unfold aEqR
  rw [deep_den 20 s a 60 hs (by decide) ha, deep_den 20 t b 60 ht (by decide) hb, W_ok]
end Z

set_option maxHeartbeats 0
namespace P
open PySem PySem.Spec PyProof.Rows L2 Z
abbrev PW := PySem.Challenge.pw_sockrows_k75_whole_texts_of_lumps
def top (i : Nat) : Stmt := PW.main.body.getD i (.Pass ⟨0, 0, 0, 0⟩)
/-! ### _law_pot -/
def sc_lpot : Scope := { kind := .function, names := [("script", .local), ("turn", .local), ("cell", .local), ("stirred", .local), ("each", .local), ("len", .globalImplicit), ("int", .globalImplicit), ("sum", .globalImplicit), ("abs", .globalImplicit)], isGenerator := false, isCoroutine := false, more := [] }
abbrev N_lpot : List Str := ["script", "turn", "cell", "stirred", "each"]
abbrev P_lpot : List Str := ["script", "turn"]
theorem nd_lpot : N_lpot.Nodup := by decide +kernel
theorem sf_lpot : FnScope N_lpot P_lpot sc_lpot := ⟨rfl, rfl, rfl, by decide +kernel, rfl, by decide +kernel, by decide +kernel⟩
def b_lpot : SSm := (sSeq (sAsg (eIf (tCmp aLt (eVar 1) (eFn aLen (aCons (eVar 0) aNil))) (eFn aInt (aCons (eBin aIdx (eVar 0) (eVar 1)) aNil)) (eBin aAdd (eBin aAdd (eBin aMul (eCst (.int 7907)) (eVar 1)) (eCst (.int 37))) (eBin aMod (eFn aInt (aCons (eFn aSum (aCons (eSlc (eVar 0) oNone (oSome (eCst (.int 3)))) aNil)) aNil)) (eCst (.int 1000033))))) (gNm 2))
  (sSeq (sAsg (eBin aAdd (eCst (.int 1002991)) (eBin aMul (eCst (.int 10391)) (eVar 1))) (gNm 3))
  (sSeq (sFor (iVal (eBin aAdd (eSlc (eVar 0) oNone (oSome (eCst (.int 7)))) (eLst (aCons (eVar 2) aNil)))) (gNm 4)
  (sAsg (eBin aMod (eFn aInt (aCons (eBin aAdd (eBin aAdd (eBin aMul (eVar 3) (eCst (.int 69621))) (eBin aMod (eFn aInt (aCons (eVar 4) aNil)) (eCst (.int 2147483563)))) (eCst (.int 23))) aNil)) (eCst (.int 2147483563))) (gNm 3)))
  (sRet (eLst (aCons (eIf (tOrr (tCmp aLt (eVar 2) (eCst (.int 0))) (tCmp aGe (eVar 2) (eBin aPow (eCst (.int 10)) (eCst (.int 18))))) (eBin aMod (eFn aInt (aCons (eFn aAbs (aCons (eVar 2) aNil)) aNil)) (eBin aPow (eCst (.int 10)) (eCst (.int 64)))) (eCst (.int 0))) (aCons (eVar 3) (aCons (eCst (.int 0)) aNil))))))))
def f_lpot : List AV → M AV := mkF 2 3 b_lpot
/-! ### _law_lumps -/
def sc_llumps : Scope := { kind := .function, names := [("row", .local), ("found", .local), ("colour", .local)], isGenerator := false, isCoroutine := false, more := [] }
abbrev N_llumps : List Str := ["row", "found", "colour"]
abbrev P_llumps : List Str := ["row"]
theorem nd_llumps : N_llumps.Nodup := by decide +kernel
theorem sf_llumps : FnScope N_llumps P_llumps sc_llumps := ⟨rfl, rfl, rfl, by decide +kernel, rfl, by decide +kernel, by decide +kernel⟩
def b_llumps : SSm := (sSeq (sAsg (eLst aNil) (gNm 1))
  (sSeq (sFor (iVal (eVar 0)) (gNm 2)
  (sIf (tAn (tCmp aNe (eVar 1) (eLst aNil)) (tCmp aEq (eBin aIdx (eBin aIdx (eVar 1) (eUn aNeg (eCst (.int 1)))) (eCst (.int 0))) (eVar 2))) (sAsg (eTup (aCons (eVar 2) (aCons (eBin aAdd (eBin aIdx (eBin aIdx (eVar 1) (eUn aNeg (eCst (.int 1)))) (eCst (.int 1))) (eCst (.int 1))) aNil))) (gIx (eVar 1) (eUn aNeg (eCst (.int 1)))))
  (sDrop (eMthT "list" aAppend (eVar 1) (aCons (eTup (aCons (eVar 2) (aCons (eCst (.int 1)) aNil))) aNil)))))
  (sRet (eVar 1))))
def f_llumps : List AV → M AV := mkF 1 2 b_llumps
/-! ### is_text_of -/
def sc_is_text_of : Scope := { kind := .function, names := [("value", .local), ("signs", .cell), ("isinstance", .globalImplicit), ("str", .globalImplicit), ("all", .globalImplicit)], isGenerator := false, isCoroutine := false, more := [("fast", .str "value"), ("fast", .str "signs"), ("fast", .str "sign")] }
abbrev N_is_text_of : List Str := ["value", "signs", "sign"]
abbrev P_is_text_of : List Str := ["value", "signs"]
theorem nd_is_text_of : N_is_text_of.Nodup := by decide +kernel
theorem sf_is_text_of : FnScope N_is_text_of P_is_text_of sc_is_text_of := ⟨rfl, rfl, rfl, by decide +kernel, rfl, by decide +kernel, by decide +kernel⟩
def b_is_text_of : SSm := (sRet (eAnd (eUn (aIsi .str) (eVar 0)) (eFn aAll (aCons (eComp [2] (iVal (eVar 0)) (gNm 2) tYs (eBin aIn (eVar 2) (eVar 1))) aNil))))
def f_is_text_of : List AV → M AV := mkF 2 1 b_is_text_of
/-! ### is_rowed -/
def sc_is_rowed : Scope := { kind := .function, names := [("value", .local), ("is_text_of", .globalImplicit), ("COLOURS", .globalImplicit), ("len", .globalImplicit), ("MOST_SOCKS", .globalImplicit)], isGenerator := false, isCoroutine := false, more := [] }
abbrev N_is_rowed : List Str := ["value"]
abbrev P_is_rowed : List Str := ["value"]
theorem nd_is_rowed : N_is_rowed.Nodup := by decide +kernel
theorem sf_is_rowed : FnScope N_is_rowed P_is_rowed sc_is_rowed := ⟨rfl, rfl, rfl, by decide +kernel, rfl, by decide +kernel, by decide +kernel⟩
def b_is_rowed : SSm := (sRet (eAnd (eFn f_is_text_of (aCons (eVar 0) (aCons (eCst (.str [97, 98, 99, 100, 101, 102])) aNil))) (eBin aLe (eFn aLen (aCons (eVar 0) aNil)) (eCst (.int 12)))))
def f_is_rowed : List AV → M AV := mkF 1 0 b_is_rowed
/-! ### check_row -/
def sc_check_row : Scope := { kind := .function, names := [("row", .local), ("is_rowed", .globalImplicit), ("InvalidRow", .globalImplicit)], isGenerator := false, isCoroutine := false, more := [] }
abbrev N_check_row : List Str := ["row"]
abbrev P_check_row : List Str := ["row"]
theorem nd_check_row : N_check_row.Nodup := by decide +kernel
theorem sf_check_row : FnScope N_check_row P_check_row sc_check_row := ⟨rfl, rfl, rfl, by decide +kernel, rfl, by decide +kernel, by decide +kernel⟩
def b_check_row : SSm := (sIf (tNt (tOf (eFn f_is_rowed (aCons (eVar 0) aNil)))) (sRaise "InvalidRow" (eVar 0))
  sNil)
def f_check_row : List AV → M AV := mkF 1 0 b_check_row
/-! ### lumps_of -/
def sc_lumps_of : Scope := { kind := .function, names := [("row", .local), ("found", .local), ("colour", .local)], isGenerator := false, isCoroutine := false, more := [] }
abbrev N_lumps_of : List Str := ["row", "found", "colour"]
abbrev P_lumps_of : List Str := ["row"]
theorem nd_lumps_of : N_lumps_of.Nodup := by decide +kernel
theorem sf_lumps_of : FnScope N_lumps_of P_lumps_of sc_lumps_of := ⟨rfl, rfl, rfl, by decide +kernel, rfl, by decide +kernel, by decide +kernel⟩
def b_lumps_of : SSm := (sSeq (sAsg (eLst aNil) (gNm 1))
  (sSeq (sFor (iVal (eVar 0)) (gNm 2)
  (sIf (tAn (tCmp aNe (eVar 1) (eLst aNil)) (tCmp aEq (eBin aIdx (eBin aIdx (eVar 1) (eUn aNeg (eCst (.int 1)))) (eCst (.int 0))) (eVar 2))) (sAsg (eTup (aCons (eVar 2) (aCons (eBin aAdd (eBin aIdx (eBin aIdx (eVar 1) (eUn aNeg (eCst (.int 1)))) (eCst (.int 1))) (eCst (.int 1))) aNil))) (gIx (eVar 1) (eUn aNeg (eCst (.int 1)))))
  (sDrop (eMthT "list" aAppend (eVar 1) (aCons (eTup (aCons (eVar 2) (aCons (eCst (.int 1)) aNil))) aNil)))))
  (sRet (eVar 1))))
def f_lumps_of : List AV → M AV := mkF 1 2 b_lumps_of
/-! ### text_of_lumps -/
def sc_text_of_lumps : Scope := { kind := .function, names := [("row", .local), ("BLANK", .globalImplicit), ("lumps_of", .globalImplicit), ("NONE_TEXT", .globalImplicit)], isGenerator := false, isCoroutine := false, more := [("fast", .str "row"), ("fast", .str "colour"), ("fast", .str "many")] }
abbrev N_text_of_lumps : List Str := ["row", "colour", "many"]
abbrev P_text_of_lumps : List Str := ["row"]
theorem nd_text_of_lumps : N_text_of_lumps.Nodup := by decide +kernel
theorem sf_text_of_lumps : FnScope N_text_of_lumps P_text_of_lumps sc_text_of_lumps := ⟨rfl, rfl, rfl, by decide +kernel, rfl, by decide +kernel, by decide +kernel⟩
def b_text_of_lumps : SSm := (sRet (eIf (tCmp aNe (eVar 0) (eCst (.str []))) (eMthT "str" aJoin (eCst (.str [32])) (aCons (eComp [1, 2] (iVal (eFn f_lumps_of (aCons (eVar 0) aNil))) (gTp [(gNm 1), (gNm 2)]) tYs (eJoined [(eUn aFmt (eVar 2)), (eUn aFmt (eVar 1))])) aNil)) (eCst (.str [110, 111, 110, 101]))))
def f_text_of_lumps : List AV → M AV := mkF 1 2 b_text_of_lumps
/-! ### lumps_text -/
def sc_lumps_text : Scope := { kind := .function, names := [("row", .local), ("check_row", .globalImplicit), ("text_of_lumps", .globalImplicit)], isGenerator := false, isCoroutine := false, more := [] }
abbrev N_lumps_text : List Str := ["row"]
abbrev P_lumps_text : List Str := ["row"]
theorem nd_lumps_text : N_lumps_text.Nodup := by decide +kernel
theorem sf_lumps_text : FnScope N_lumps_text P_lumps_text sc_lumps_text := ⟨rfl, rfl, rfl, by decide +kernel, rfl, by decide +kernel, by decide +kernel⟩
def b_lumps_text : SSm := (sSeq (sDrop (eFn f_check_row (aCons (eVar 0) aNil)))
  (sRet (eFn f_text_of_lumps (aCons (eVar 0) aNil))))
def f_lumps_text : List AV → M AV := mkF 1 0 b_lumps_text
/-! ### count_told -/
def sc_count_told : Scope := { kind := .function, names := [("text", .local), ("is_text_of", .globalImplicit), ("DIGITS", .globalImplicit), ("len", .globalImplicit), ("int", .globalImplicit)], isGenerator := false, isCoroutine := false, more := [] }
abbrev N_count_told : List Str := ["text"]
abbrev P_count_told : List Str := ["text"]
theorem nd_count_told : N_count_told.Nodup := by decide +kernel
theorem sf_count_told : FnScope N_count_told P_count_told sc_count_told := ⟨rfl, rfl, rfl, by decide +kernel, rfl, by decide +kernel, by decide +kernel⟩
def b_count_told : SSm := (sSeq (sIf (tOrr (tCmp aEq (eVar 0) (eCst (.str []))) (tNt (tOf (eFn f_is_text_of (aCons (eVar 0) (aCons (eCst (.str [48, 49, 50, 51, 52, 53, 54, 55, 56, 57])) aNil)))))) (sRet (eCst .non))
  sNil)
  (sRet (eIf (tAn (tCmp aEq (eBin aIdx (eVar 0) (eCst (.int 0))) (eCst (.str [48]))) (tCmp aGt (eFn aLen (aCons (eVar 0) aNil)) (eCst (.int 1)))) (eCst .non) (eFn aInt (aCons (eVar 0) aNil)))))
def f_count_told : List AV → M AV := mkF 1 0 b_count_told
/-! ### lump_told -/
def sc_lump_told : Scope := { kind := .function, names := [("word", .local), ("many", .local), ("count_told", .globalImplicit), ("MOST_SOCKS", .globalImplicit)], isGenerator := false, isCoroutine := false, more := [] }
abbrev N_lump_told : List Str := ["word", "many"]
abbrev P_lump_told : List Str := ["word"]
theorem nd_lump_told : N_lump_told.Nodup := by decide +kernel
theorem sf_lump_told : FnScope N_lump_told P_lump_told sc_lump_told := ⟨rfl, rfl, rfl, by decide +kernel, rfl, by decide +kernel, by decide +kernel⟩
def b_lump_told : SSm := (sSeq (sAsg (eFn f_count_told (aCons (eSlc (eVar 0) oNone (oSome (eUn aNeg (eCst (.int 1))))) aNil)) (gNm 1))
  (sRet (eIf (tAn (tCmp aIsNN (eVar 1) (eCst .non)) (tCmp aLe (eVar 1) (eCst (.int 12)))) (eBin aMul (eBin aIdx (eVar 0) (eUn aNeg (eCst (.int 1)))) (eVar 1)) (eCst .non))))
def f_lump_told : List AV → M AV := mkF 1 1 b_lump_told
/-! ### row_of_lumps -/
def sc_row_of_lumps : Scope := { kind := .function, names := [("text", .local), ("found", .local), ("row", .local), ("isinstance", .globalImplicit), ("str", .globalImplicit), ("NONE_TEXT", .globalImplicit), ("BLANK", .globalImplicit), ("is_rowed", .globalImplicit), ("text_of_lumps", .globalImplicit)], isGenerator := false, isCoroutine := false, more := [("fast", .str "text"), ("fast", .str "word"), ("fast", .str "found"), ("fast", .str "row")] }
abbrev N_row_of_lumps : List Str := ["text", "found", "row", "word"]
abbrev P_row_of_lumps : List Str := ["text"]
theorem nd_row_of_lumps : N_row_of_lumps.Nodup := by decide +kernel
theorem sf_row_of_lumps : FnScope N_row_of_lumps P_row_of_lumps sc_row_of_lumps := ⟨rfl, rfl, rfl, by decide +kernel, rfl, by decide +kernel, by decide +kernel⟩
def b_row_of_lumps : SSm := (sSeq (sIf (tNt (tOf (eUn (aIsi .str) (eVar 0)))) (sRet (eCst .non))
  sNil)
  (sSeq (sAsg (eIf (tCmp aNe (eVar 0) (eCst (.str [110, 111, 110, 101]))) (eComp [3] (iVal (eMthT "str" aSplit (eVar 0) (aCons (eCst (.str [32])) aNil))) (gNm 3) tYs (eFn f_lump_told (aCons (eVar 3) aNil))) (eLst aNil)) (gNm 1))
  (sSeq (sAsg (eIf (tCmp aNin (eCst .non) (eVar 1)) (eMthT "str" aJoin (eCst (.str [])) (aCons (eVar 1) aNil)) (eCst .non)) (gNm 2))
  (sRet (eIf (tAn (tOf (eFn f_is_rowed (aCons (eVar 2) aNil))) (tCmp aEq (eFn f_text_of_lumps (aCons (eVar 2) aNil)) (eVar 0))) (eVar 2) (eCst .non))))))
def f_row_of_lumps : List AV → M AV := mkF 1 3 b_row_of_lumps
/-! ### check_told -/
def sc_check_told : Scope := { kind := .function, names := [("found", .local), ("text", .local), ("InvalidText", .globalImplicit)], isGenerator := false, isCoroutine := false, more := [] }
abbrev N_check_told : List Str := ["found", "text"]
abbrev P_check_told : List Str := ["found", "text"]
theorem nd_check_told : N_check_told.Nodup := by decide +kernel
theorem sf_check_told : FnScope N_check_told P_check_told sc_check_told := ⟨rfl, rfl, rfl, by decide +kernel, rfl, by decide +kernel, by decide +kernel⟩
def b_check_told : SSm := (sIf (tCmp aIsN (eVar 0) (eCst .non)) (sRaise "InvalidText" (eVar 1))
  sNil)
def f_check_told : List AV → M AV := mkF 2 0 b_check_told
/-! ### read_lumps -/
def sc_read_lumps : Scope := { kind := .function, names := [("text", .local), ("found", .local), ("row_of_lumps", .globalImplicit), ("check_told", .globalImplicit)], isGenerator := false, isCoroutine := false, more := [] }
abbrev N_read_lumps : List Str := ["text", "found"]
abbrev P_read_lumps : List Str := ["text"]
theorem nd_read_lumps : N_read_lumps.Nodup := by decide +kernel
theorem sf_read_lumps : FnScope N_read_lumps P_read_lumps sc_read_lumps := ⟨rfl, rfl, rfl, by decide +kernel, rfl, by decide +kernel, by decide +kernel⟩
def b_read_lumps : SSm := (sSeq (sAsg (eFn f_row_of_lumps (aCons (eVar 0) aNil)) (gNm 1))
  (sSeq (sDrop (eFn f_check_told (aCons (eVar 1) (aCons (eVar 0) aNil))))
  (sRet (eVar 1))))
def f_read_lumps : List AV → M AV := mkF 1 1 b_read_lumps
/-! ### lumps -/
def sc_lumps : Scope := { kind := .function, names := [("row", .local), ("check_row", .globalImplicit), ("tuple", .globalImplicit), ("lumps_of", .globalImplicit)], isGenerator := false, isCoroutine := false, more := [] }
abbrev N_lumps : List Str := ["row"]
abbrev P_lumps : List Str := ["row"]
theorem nd_lumps : N_lumps.Nodup := by decide +kernel
theorem sf_lumps : FnScope N_lumps P_lumps sc_lumps := ⟨rfl, rfl, rfl, by decide +kernel, rfl, by decide +kernel, by decide +kernel⟩
def b_lumps : SSm := (sSeq (sDrop (eFn f_check_row (aCons (eVar 0) aNil)))
  (sRet (eFn aTuple (aCons (eFn f_lumps_of (aCons (eVar 0) aNil)) aNil))))
def f_lumps : List AV → M AV := mkF 1 0 b_lumps
/-! ### _law_draw -/
def sc_ldraw : Scope := { kind := .function, names := [("pot", .local), ("many", .local), ("digit", .local), ("divmod", .globalImplicit), ("int", .globalImplicit)], isGenerator := false, isCoroutine := false, more := [] }
abbrev N_ldraw : List Str := ["pot", "many", "digit"]
abbrev P_ldraw : List Str := ["pot", "many"]
theorem nd_ldraw : N_ldraw.Nodup := by decide +kernel
theorem sf_ldraw : FnScope N_ldraw P_ldraw sc_ldraw := ⟨rfl, rfl, rfl, by decide +kernel, rfl, by decide +kernel, by decide +kernel⟩
def b_ldraw : SSm := (sSeq (sIf (tCmp aGt (eBin aIdx (eVar 0) (eCst (.int 0))) (eCst (.int 0))) (sSeq (sAsg (eFn aDivmod (aCons (eBin aIdx (eVar 0) (eCst (.int 0))) (aCons (eVar 1) aNil))) (gTp [(gIx (eVar 0) (eCst (.int 0))), (gNm 2)]))
  (sRet (eVar 2)))
  sNil)
  (sSeq (sAsg (eBin aAdd (eBin aIdx (eVar 0) (eCst (.int 2))) (eCst (.int 1))) (gIx (eVar 0) (eCst (.int 2))))
  (sSeq (sAsg (eBin aMod (eFn aInt (aCons (eBin aAdd (eBin aAdd (eBin aMul (eBin aIdx (eVar 0) (eCst (.int 1))) (eBin aAdd (eBin aMod (eFn aInt (aCons (eBin aIdx (eVar 0) (eCst (.int 1))) aNil)) (eCst (.int 10007))) (eCst (.int 20011)))) (eBin aMul (eCst (.int 60013)) (eBin aIdx (eVar 0) (eCst (.int 2))))) (eCst (.int 61))) aNil)) (eCst (.int 2147483563))) (gIx (eVar 0) (eCst (.int 1))))
  (sRet (eBin aMod (eFn aInt (aCons (eBin aDiv (eBin aIdx (eVar 0) (eCst (.int 1))) (eCst (.int 97))) aNil)) (eVar 1))))))
def f_ldraw : List AV → M AV := mkF 2 1 b_ldraw
/-! ### _law_pick -/
def sc_lpick : Scope := { kind := .function, names := [("pot", .local), ("some", .local), ("_law_draw", .globalImplicit), ("len", .globalImplicit)], isGenerator := false, isCoroutine := false, more := [] }
abbrev N_lpick : List Str := ["pot", "some"]
abbrev P_lpick : List Str := ["pot", "some"]
theorem nd_lpick : N_lpick.Nodup := by decide +kernel
theorem sf_lpick : FnScope N_lpick P_lpick sc_lpick := ⟨rfl, rfl, rfl, by decide +kernel, rfl, by decide +kernel, by decide +kernel⟩
def b_lpick : SSm := (sRet (eBin aIdx (eVar 1) (eFn f_ldraw (aCons (eVar 0) (aCons (eFn aLen (aCons (eVar 1) aNil)) aNil)))))
def f_lpick : List AV → M AV := mkF 2 0 b_lpick
/-! ### _law_bent -/
def sc_lbent : Scope := { kind := .function, names := [("pot", .local), ("text", .local), ("way", .local), ("at", .local), ("sign", .local), ("words", .local), ("k", .local), ("j", .local), ("_law_draw", .globalImplicit), ("len", .globalImplicit), ("_law_pick", .globalImplicit)], isGenerator := false, isCoroutine := false, more := [] }
abbrev N_lbent : List Str := ["pot", "text", "sign", "words", "way", "at", "k", "j"]
abbrev P_lbent : List Str := ["pot", "text"]
theorem nd_lbent : N_lbent.Nodup := by decide +kernel
theorem sf_lbent : FnScope N_lbent P_lbent sc_lbent := ⟨rfl, rfl, rfl, by decide +kernel, rfl, by decide +kernel, by decide +kernel⟩
def b_lbent : SSm := (sSeq (sPar 4 5 (aCons (eFn f_ldraw (aCons (eVar 0) (aCons (eCst (.int 9)) aNil))) (aCons (eFn f_ldraw (aCons (eVar 0) (aCons (eBin aAdd (eFn aLen (aCons (eVar 1) aNil)) (eCst (.int 1))) aNil))) aNil)))
  (sSeq (sAsg (eFn f_lpick (aCons (eVar 0) (aCons (eCst (.str [48, 49, 50, 51, 52, 53, 57, 32, 97, 98, 99, 102, 103, 45, 10])) aNil))) (gNm 2))
  (sSeq (sIf (tCmp aLt (eVar 4) (eCst (.int 3))) (sRet (eIf (tCmp aEq (eVar 4) (eCst (.int 0))) (eBin aAdd (eSlc (eVar 1) oNone (oSome (eVar 5))) (eSlc (eVar 1) (oSome (eBin aAdd (eVar 5) (eCst (.int 1)))) oNone)) (eBin aAdd (eBin aAdd (eSlc (eVar 1) oNone (oSome (eVar 5))) (eVar 2)) (eSlc (eVar 1) (oSome (eBin aSub (eBin aAdd (eVar 5) (eVar 4)) (eCst (.int 1)))) oNone))))
  sNil)
  (sSeq (sAsg (eMthT "str" aSplit (eVar 1) (aCons (eCst (.str [32])) aNil)) (gNm 3))
  (sSeq (sPar 6 7 (aCons (eFn f_ldraw (aCons (eVar 0) (aCons (eFn aLen (aCons (eVar 3) aNil)) aNil))) (aCons (eFn f_ldraw (aCons (eVar 0) (aCons (eFn aLen (aCons (eVar 3) aNil)) aNil))) aNil)))
  (sSeq (sIf (tCmp aEq (eVar 4) (eCst (.int 3))) (sAsg (eTup (aCons (eBin aIdx (eVar 3) (eVar 7)) (aCons (eBin aIdx (eVar 3) (eVar 6)) aNil))) (gTp [(gIx (eVar 3) (eVar 6)), (gIx (eVar 3) (eVar 7))]))
  (sIf (tCmp aEq (eVar 4) (eCst (.int 4))) (sAsg (eBin aAdd (eSlc (eVar 3) oNone (oSome (eBin aAdd (eVar 6) (eCst (.int 1))))) (eSlc (eVar 3) (oSome (eVar 6)) oNone)) (gNm 3))
  (sIf (tCmp aEq (eVar 4) (eCst (.int 5))) (sAsg (eBin aAdd (eSlc (eVar 3) oNone (oSome (eVar 6))) (eSlc (eVar 3) (oSome (eBin aAdd (eVar 6) (eCst (.int 1)))) oNone)) (gNm 3))
  (sIf (tCmp aEq (eVar 4) (eCst (.int 6))) (sAsg (eUn aRev (eBin aIdx (eVar 3) (eVar 6))) (gIx (eVar 3) (eVar 6)))
  sNil))))
  (sRet (eIf (tCmp aLt (eVar 4) (eCst (.int 8))) (eMthT "str" aJoin (eCst (.str [32])) (aCons (eVar 3) aNil)) (eFn f_lpick (aCons (eVar 0) (aCons (eTup (aCons (eCst (.str [])) (aCons (eCst (.str [32])) (aCons (eCst .non) (aCons (eCst (.int 5)) (aCons (eTup (aCons (eVar 1) aNil)) (aCons (eBin aAdd (eVar 1) (eCst (.str [32]))) (aCons (eCst (.str [110, 111, 110, 101])) (aCons (eCst (.str [48, 97])) (aCons (eCst (.str [49, 51, 97])) (aCons (eCst (.str [49, 50, 102])) (aCons (eCst (.str [48, 49, 97])) (aCons (eCst (.str [97])) (aCons (eCst (.str [55, 97, 32, 54, 98])) (aCons (eCst (.str [49, 97, 32, 32, 49, 98])) (aCons (eCst (.str [97, 97, 98])) aNil)))))))))))))))) aNil)))))))))))
def f_lbent : List AV → M AV := mkF 2 6 b_lbent
/-! ### _law_same -/
def sc_lsame : Scope := { kind := .function, names := [("told", .cell), ("due", .cell), ("isinstance", .globalImplicit), ("tuple", .globalImplicit), ("list", .globalImplicit), ("len", .globalImplicit), ("all", .globalImplicit), ("range", .globalImplicit), ("bool", .globalImplicit), ("int", .globalImplicit), ("str", .globalImplicit)], isGenerator := false, isCoroutine := false, more := [("fast", .str "told"), ("fast", .str "due"), ("fast", .str "at")] }
abbrev N_lsame : List Str := ["told", "due", "at"]
abbrev P_lsame : List Str := ["told", "due"]
theorem nd_lsame : N_lsame.Nodup := by decide +kernel
theorem sf_lsame : FnScope N_lsame P_lsame sc_lsame := ⟨rfl, rfl, rfl, by decide +kernel, rfl, by decide +kernel, by decide +kernel⟩
def b_lsame (rec : List AV → M AV) : SSm := (sSeq (sIf (tOrr (tAn (tOf (eUn (aIsi .tup) (eVar 1))) (tOf (eUn (aIsi .tup) (eVar 0)))) (tAn (tOf (eUn (aIsi .lst) (eVar 1))) (tOf (eUn (aIsi .lst) (eVar 0))))) (sRet (eAnd (eBin aEq (eFn aLen (aCons (eVar 0) aNil)) (eFn aLen (aCons (eVar 1) aNil))) (eFn aAll (aCons (eComp [2] (iRange1 (aCons (eFn aLen (aCons (eVar 1) aNil)) aNil)) (gNm 2) tYs (eFn rec (aCons (eBin aIdx (eVar 0) (eVar 2)) (aCons (eBin aIdx (eVar 1) (eVar 2)) aNil)))) aNil))))
  sNil)
  (sSeq (sIf (tOrr (tOf (eUn (aIsi .tup) (eVar 1))) (tOrr (tOf (eUn (aIsi .lst) (eVar 1))) (tCmp aNe (eUn (aIsi .bl) (eVar 1)) (eUn (aIsi .bl) (eVar 0))))) (sRet (eCst (.bl false)))
  sNil)
  (sSeq (sIf (tOrr (tCmp aNe (eUn (aIsi .int) (eVar 1)) (eUn (aIsi .int) (eVar 0))) (tCmp aNe (eUn (aIsi .str) (eVar 1)) (eUn (aIsi .str) (eVar 0)))) (sRet (eCst (.bl false)))
  sNil)
  (sRet (eIf (tCmp aIsN (eVar 1) (eCst .non)) (eBin aIsN (eVar 0) (eCst .non)) (eBin aEq (eVar 0) (eVar 1)))))))
def f_lsame : Nat → List AV → M AV
  | 0 => fun _ => M.stk
  | k + 1 => mkF 2 1 (b_lsame (f_lsame k))
/-! ### _law_read -/
def sc_lread : Scope := { kind := .function, names := [("text", .local), ("row", .local), ("word", .local), ("figures", .local), ("range", .globalImplicit), ("int", .globalImplicit), ("len", .globalImplicit)], isGenerator := false, isCoroutine := false, more := [("fast", .str "text"), ("fast", .str "row"), ("fast", .str "word"), ("fast", .str "figures"), ("fast", .str "number")] }
abbrev N_lread : List Str := ["text", "row", "word", "figures", "number"]
abbrev P_lread : List Str := ["text"]
theorem nd_lread : N_lread.Nodup := by decide +kernel
theorem sf_lread : FnScope N_lread P_lread sc_lread := ⟨rfl, rfl, rfl, by decide +kernel, rfl, by decide +kernel, by decide +kernel⟩
def b_lread : SSm := (sSeq (sAsg (eCst (.str [])) (gNm 1))
  (sSeq (sFor (iVal (eIf (tCmp aNe (eVar 0) (eCst (.str [110, 111, 110, 101]))) (eMthT "str" aSplit (eVar 0) (aCons (eCst (.str [32])) aNil)) (eLst aNil))) (gNm 2)
  (sSeq (sAsg (eSlc (eVar 2) oNone (oSome (eUn aNeg (eCst (.int 1))))) (gNm 3))
  (sSeq (sIf (tOrr (tCmp aEq (eVar 2) (eCst (.str []))) (tOrr (tCmp aNin (eBin aIdx (eVar 2) (eUn aNeg (eCst (.int 1)))) (eCst (.str [97, 98, 99, 100, 101, 102]))) (tCmp aNin (eVar 3) (eComp [4] (iRange2 (aCons (eCst (.int 1)) (aCons (eCst (.int 13)) aNil))) (gNm 4) tYs (eFn aStr (aCons (eVar 4) aNil)))))) (sRet (eLst aNil))
  sNil)
  (sSeq (sIf (tAn (tCmp aNe (eVar 1) (eCst (.str []))) (tCmp aEq (eBin aIdx (eVar 1) (eUn aNeg (eCst (.int 1)))) (eBin aIdx (eVar 2) (eUn aNeg (eCst (.int 1)))))) (sRet (eLst aNil))
  sNil)
  (sAsg (eBin aAdd (eVar 1) (eBin aMul (eBin aIdx (eVar 2) (eUn aNeg (eCst (.int 1)))) (eFn aInt (aCons (eVar 3) aNil)))) (gNm 1))))))
  (sRet (eIf (tCmp aLe (eFn aLen (aCons (eVar 1) aNil)) (eCst (.int 12))) (eLst (aCons (eVar 1) aNil)) (eLst aNil)))))
def f_lread : List AV → M AV := mkF 1 4 b_lread
/-! ### _law_heard -/
def sc_lheard : Scope := { kind := .function, names := [("act", .local), ("e", .local), ("InvalidText", .globalImplicit)], isGenerator := false, isCoroutine := false, more := [] }
abbrev N_lheard : List Str := ["act", "e"]
abbrev P_lheard : List Str := ["act"]
theorem nd_lheard : N_lheard.Nodup := by decide +kernel
theorem sf_lheard : FnScope N_lheard P_lheard sc_lheard := ⟨rfl, rfl, rfl, by decide +kernel, rfl, by decide +kernel, by decide +kernel⟩
/-! ### _law_is_right -/
def sc_lis_right : Scope := { kind := .function, names := [("pot", .local), ("row", .local), ("pairs", .local), ("text", .local), ("told", .local), ("turn", .local), ("due", .local), ("bent", .cell), ("_law_lumps", .globalImplicit), ("lumps_text", .globalImplicit), ("read_lumps", .globalImplicit), ("lumps", .globalImplicit), ("_law_same", .globalImplicit), ("tuple", .globalImplicit), ("_law_read", .globalImplicit), ("range", .globalImplicit), ("_law_bent", .globalImplicit), ("isinstance", .globalImplicit), ("str", .globalImplicit), ("_law_heard", .globalImplicit)], isGenerator := false, isCoroutine := false, more := [("fast", .str "pot"), ("fast", .str "row"), ("fast", .str "pairs"), ("fast", .str "colour"), ("fast", .str "number"), ("fast", .str "text"), ("fast", .str "told"), ("fast", .str "turn"), ("fast", .str "due"), ("fast", .str "bent")] }
abbrev N_lis_right : List Str := ["pot", "row", "pairs", "text", "told", "turn", "bent", "due", "colour", "number"]
abbrev P_lis_right : List Str := ["pot", "row"]
theorem nd_lis_right : N_lis_right.Nodup := by decide +kernel
theorem sf_lis_right : FnScope N_lis_right P_lis_right sc_lis_right := ⟨rfl, rfl, rfl, by decide +kernel, rfl, by decide +kernel, by decide +kernel⟩
def b_lis_right : SSm := (sSeq (sAsg (eFn f_llumps (aCons (eVar 1) aNil)) (gNm 2))
  (sSeq (sAsg (eIf (tCmp aNe (eVar 1) (eCst (.str []))) (eMthT "str" aJoin (eCst (.str [32])) (aCons (eComp [8, 9] (iVal (eVar 2)) (gTp [(gNm 8), (gNm 9)]) tYs (eBin aAdd (eFn aStr (aCons (eVar 9) aNil)) (eVar 8))) aNil)) (eCst (.str [110, 111, 110, 101]))) (gNm 3))
  (sSeq (sAsg (eLst (aCons (eFn f_lumps_text (aCons (eVar 1) aNil)) (aCons (eFn (fun xs => f_lumps_text (reo [0] .non xs)) (aCons (eVar 1) aNil)) (aCons (eFn f_read_lumps (aCons (eVar 3) aNil)) (aCons (eFn (fun xs => f_read_lumps (reo [0] .non xs)) (aCons (eVar 3) aNil)) (aCons (eFn f_lumps (aCons (eVar 1) aNil)) aNil)))))) (gNm 4))
  (sSeq (sIf (tOrr (tNt (tOf (eFn (f_lsame 8) (aCons (eVar 4) (aCons (eLst (aCons (eVar 3) (aCons (eVar 3) (aCons (eVar 1) (aCons (eVar 1) (aCons (eFn aTuple (aCons (eVar 2) aNil)) aNil)))))) aNil))))) (tCmp aNe (eFn f_lread (aCons (eVar 3) aNil)) (eLst (aCons (eVar 1) aNil)))) (sRet (eCst (.bl false)))
  sNil)
  (sSeq (sFor (iRange1 (aCons (eCst (.int 6)) aNil)) (gNm 5)
  (sSeq (sAsg (eFn f_lbent (aCons (eVar 0) (aCons (eVar 3) aNil))) (gNm 6))
  (sSeq (sAsg (eIf (tOf (eUn (aIsi .str) (eVar 6))) (eFn f_lread (aCons (eVar 6) aNil)) (eLst aNil)) (gNm 7))
  (sIf (tNt (tOf (eFn (f_lsame 8) (aCons (eLam (heardF "InvalidText" [116, 111, 108, 100] [116, 101, 120, 116]) (eFn f_read_lumps (aCons (eVar 6) aNil))) (aCons (eIf (tCmp aNe (eVar 7) (eLst aNil)) (eLst (aCons (eCst (.str [116, 111, 108, 100])) (aCons (eBin aIdx (eVar 7) (eCst (.int 0))) aNil))) (eLst (aCons (eCst (.str [116, 101, 120, 116])) (aCons (eVar 6) aNil)))) aNil))))) (sRet (eCst (.bl false)))
  sNil))))
  (sRet (eCst (.bl true))))))))
def f_lis_right : List AV → M AV := mkF 2 8 b_lis_right
/-! ### _law_row -/
def sc_lrow : Scope := { kind := .function, names := [("pot", .local), ("most", .local), ("many", .local), ("way", .local), ("row", .local), ("turn", .local), ("part", .local), ("_law_pick", .globalImplicit), ("_law_draw", .globalImplicit), ("range", .globalImplicit), ("len", .globalImplicit)], isGenerator := false, isCoroutine := false, more := [] }
abbrev N_lrow : List Str := ["pot", "most", "turn", "part", "many", "way", "row"]
abbrev P_lrow : List Str := ["pot", "most"]
theorem nd_lrow : N_lrow.Nodup := by decide +kernel
theorem sf_lrow : FnScope N_lrow P_lrow sc_lrow := ⟨rfl, rfl, rfl, by decide +kernel, rfl, by decide +kernel, by decide +kernel⟩
def b_lrow : SSm := (sSeq (sPar3 4 5 6 (aCons (eFn f_lpick (aCons (eVar 0) (aCons (eTup (aCons (eCst (.int 1)) (aCons (eCst (.int 2)) (aCons (eCst (.int 2)) (aCons (eCst (.int 3)) (aCons (eCst (.int 3)) (aCons (eCst (.int 4)) (aCons (eCst (.int 6)) aNil)))))))) aNil))) (aCons (eFn f_ldraw (aCons (eVar 0) (aCons (eCst (.int 4)) aNil))) (aCons (eCst (.str [])) aNil))))
  (sSeq (sFor (iRange1 (aCons (eFn f_ldraw (aCons (eVar 0) (aCons (eBin aAdd (eVar 1) (eCst (.int 1))) aNil))) aNil)) (gNm 2)
  (sAsg (eBin aAdd (eVar 6) (eIf (tAn (tCmp aEq (eVar 5) (eCst (.int 0))) (tAn (tCmp aNe (eVar 6) (eCst (.str []))) (tCmp aEq (eFn f_ldraw (aCons (eVar 0) (aCons (eCst (.int 2)) aNil))) (eCst (.int 0))))) (eBin aIdx (eVar 6) (eUn aNeg (eCst (.int 1)))) (eFn f_lpick (aCons (eVar 0) (aCons (eSlc (eCst (.str [97, 98, 99, 100, 101, 102])) oNone (oSome (eVar 4))) aNil))))) (gNm 6)))
  (sSeq (sAsg (eSlc (eVar 6) oNone (oSome (eBin aAdd (eCst (.int 1)) (eFn f_ldraw (aCons (eVar 0) (aCons (eCst (.int 4)) aNil)))))) (gNm 3))
  (sRet (eIf (tCmp aEq (eVar 5) (eCst (.int 1))) (eSlc (eBin aMul (eVar 3) (eCst (.int 12))) oNone (oSome (eFn aLen (aCons (eVar 6) aNil)))) (eVar 6))))))
def f_lrow : List AV → M AV := mkF 2 5 b_lrow
/-! ### _law_right -/
def sc_lright : Scope := { kind := .function, names := [("pot", .local), ("lap", .local), ("range", .globalImplicit), ("_law_is_right", .globalImplicit), ("_law_row", .globalImplicit)], isGenerator := false, isCoroutine := false, more := [] }
abbrev N_lright : List Str := ["pot", "lap"]
abbrev P_lright : List Str := ["pot"]
theorem nd_lright : N_lright.Nodup := by decide +kernel
theorem sf_lright : FnScope N_lright P_lright sc_lright := ⟨rfl, rfl, rfl, by decide +kernel, rfl, by decide +kernel, by decide +kernel⟩
def b_lright : SSm := (sSeq (sFor (iRange1 (aCons (eCst (.int 30)) aNil)) (gNm 1)
  (sIf (tNt (tOf (eFn f_lis_right (aCons (eVar 0) (aCons (eFn f_lrow (aCons (eVar 0) (aCons (eCst (.int 12)) aNil))) aNil))))) (sRet (eCst (.bl false)))
  sNil))
  (sRet (eCst (.bl true))))
def f_lright : List AV → M AV := mkF 1 1 b_lright
/-! ### _law_named_rows -/
def sc_lnamed_rows : Scope := { kind := .function, names := [("size", .local), ("found", .local), ("turn", .local), ("longer", .local), ("row", .cell), ("range", .globalImplicit), ("len", .globalImplicit), ("set", .globalImplicit)], isGenerator := false, isCoroutine := false, more := [("fast", .str "size"), ("fast", .str "found"), ("fast", .str "turn"), ("fast", .str "longer"), ("fast", .str "row"), ("fast", .str "colour")] }
abbrev N_lnamed_rows : List Str := ["size", "found", "turn", "longer", "row", "colour"]
abbrev P_lnamed_rows : List Str := ["size"]
theorem nd_lnamed_rows : N_lnamed_rows.Nodup := by decide +kernel
theorem sf_lnamed_rows : FnScope N_lnamed_rows P_lnamed_rows sc_lnamed_rows := ⟨rfl, rfl, rfl, by decide +kernel, rfl, by decide +kernel, by decide +kernel⟩
def b_lnamed_rows : SSm := (sSeq (sAsg (eLst (aCons (eCst (.str [])) aNil)) (gNm 1))
  (sSeq (sFor (iRange1 (aCons (eVar 0) aNil)) (gNm 2)
  (sSeq (sAsg (eLst aNil) (gNm 3))
  (sSeq (sFor (iVal (eVar 1)) (gNm 4)
  (sAsg (eBin aAdd (eVar 3) (eComp [5] (iVal (eSlc (eCst (.str [97, 98, 99, 100, 101, 102])) oNone (oSome (eBin aAdd (eUn aLenSet (eVar 4)) (eCst (.int 1)))))) (gNm 5) tYs (eBin aAdd (eVar 4) (eVar 5)))) (gNm 3)))
  (sAsg (eVar 3) (gNm 1)))))
  (sRet (eVar 1))))
def f_lnamed_rows : List AV → M AV := mkF 1 5 b_lnamed_rows
/-! ### law -/
def sc_law : Scope := { kind := .function, names := [("script", .cell), ("pot", .cell), ("size", .local), ("_law_pot", .globalImplicit), ("range", .globalImplicit), ("all", .globalImplicit), ("_law_named_rows", .globalImplicit), ("max", .globalImplicit), ("min", .globalImplicit), ("len", .globalImplicit)], isGenerator := false, isCoroutine := false, more := [("fast", .str "script"), ("fast", .str "pot"), ("fast", .str "size"), ("fast", .str "row"), ("fast", .str "turn")] }
abbrev N_law : List Str := ["script", "pot", "size", "turn", "row"]
abbrev P_law : List Str := ["script"]
theorem nd_law : N_law.Nodup := by decide +kernel
theorem sf_law : FnScope N_law P_law sc_law := ⟨rfl, rfl, rfl, by decide +kernel, rfl, by decide +kernel, by decide +kernel⟩
def b_law : SSm := (sSeq (sAsg (eFn f_lpot (aCons (eVar 0) (aCons (eCst (.int 5)) aNil))) (gNm 1))
  (sSeq (sFor (iRange1 (aCons (eCst (.int 6)) aNil)) (gNm 2)
  (sIf (tNt (tOf (eFn aAll (aCons (eComp [4] (iVal (eFn f_lnamed_rows (aCons (eVar 2) aNil))) (gNm 4) tYs (eFn f_lis_right (aCons (eVar 1) (aCons (eVar 4) aNil)))) aNil)))) (sRet (eCst (.bl false)))
  sNil))
  (sRet (eFn aAll (aCons (eComp [3] (iRange1 (aCons (eFn aMax2 (aCons (eCst (.int 2)) (aCons (eFn aMin2 (aCons (eFn aLen (aCons (eVar 0) aNil)) (aCons (eCst (.int 4)) aNil))) aNil))) aNil)) (gNm 3) tYs (eFn f_lright (aCons (eFn f_lpot (aCons (eVar 0) (aCons (eVar 3) aNil))) aNil))) aNil)))))
def f_law : List AV → M AV := mkF 1 4 b_law
/-! ### the facts -/
def fldOf (c : Str) : Str := if false then "index" else "given"
def lamDefs : List Str := ["_law_is_right"]
def cfg (K : PySem.W.Frag) : Cf := ⟨K, He.ga K, fldOf, lamDefs.map fun f => ((He.cT K (f, none)).2, f ++ ".<locals>.<lambda>")⟩
structure Txt (K : PySem.W.Frag) (mg : Str → Option Value) where
  fd_lpot : FuncData
  d_lpot : DefE K mg "_law_pot" P_lpot (defArgs (top 29)) (defBody (top 29)) sc_lpot fd_lpot
  fd_llumps : FuncData
  d_llumps : DefE K mg "_law_lumps" P_llumps (defArgs (top 35)) (defBody (top 35)) sc_llumps fd_llumps
  fd_is_text_of : FuncData
  d_is_text_of : DefE K mg "is_text_of" P_is_text_of (defArgs (top 1)) (defBody (top 1)) sc_is_text_of fd_is_text_of
  fd_is_rowed : FuncData
  d_is_rowed : DefE K mg "is_rowed" P_is_rowed (defArgs (top 5)) (defBody (top 5)) sc_is_rowed fd_is_rowed
  fd_check_row : FuncData
  d_check_row : DefE K mg "check_row" P_check_row (defArgs (top 13)) (defBody (top 13)) sc_check_row fd_check_row
  fd_lumps_of : FuncData
  d_lumps_of : DefE K mg "lumps_of" P_lumps_of (defArgs (top 7)) (defBody (top 7)) sc_lumps_of fd_lumps_of
  fd_text_of_lumps : FuncData
  d_text_of_lumps : DefE K mg "text_of_lumps" P_text_of_lumps (defArgs (top 19)) (defBody (top 19)) sc_text_of_lumps fd_text_of_lumps
  fd_lumps_text : FuncData
  d_lumps_text : DefE K mg "lumps_text" P_lumps_text (defArgs (top 24)) (defBody (top 24)) sc_lumps_text fd_lumps_text
  fd_count_told : FuncData
  d_count_told : DefE K mg "count_told" P_count_told (defArgs (top 18)) (defBody (top 18)) sc_count_told fd_count_told
  fd_lump_told : FuncData
  d_lump_told : DefE K mg "lump_told" P_lump_told (defArgs (top 20)) (defBody (top 20)) sc_lump_told fd_lump_told
  fd_row_of_lumps : FuncData
  d_row_of_lumps : DefE K mg "row_of_lumps" P_row_of_lumps (defArgs (top 21)) (defBody (top 21)) sc_row_of_lumps fd_row_of_lumps
  fd_check_told : FuncData
  d_check_told : DefE K mg "check_told" P_check_told (defArgs (top 23)) (defBody (top 23)) sc_check_told fd_check_told
  fd_read_lumps : FuncData
  d_read_lumps : DefE K mg "read_lumps" P_read_lumps (defArgs (top 25)) (defBody (top 25)) sc_read_lumps fd_read_lumps
  fd_lumps : FuncData
  d_lumps : DefE K mg "lumps" P_lumps (defArgs (top 27)) (defBody (top 27)) sc_lumps fd_lumps
  fd_ldraw : FuncData
  d_ldraw : DefE K mg "_law_draw" P_ldraw (defArgs (top 30)) (defBody (top 30)) sc_ldraw fd_ldraw
  fd_lpick : FuncData
  d_lpick : DefE K mg "_law_pick" P_lpick (defArgs (top 31)) (defBody (top 31)) sc_lpick fd_lpick
  fd_lbent : FuncData
  d_lbent : DefE K mg "_law_bent" P_lbent (defArgs (top 38)) (defBody (top 38)) sc_lbent fd_lbent
  fd_lsame : FuncData
  d_lsame : DefE K mg "_law_same" P_lsame (defArgs (top 32)) (defBody (top 32)) sc_lsame fd_lsame
  fd_lread : FuncData
  d_lread : DefE K mg "_law_read" P_lread (defArgs (top 37)) (defBody (top 37)) sc_lread fd_lread
  fd_lheard : FuncData
  d_lheard : DefE K mg "_law_heard" P_lheard (defArgs (top 36)) (defBody (top 36)) sc_lheard fd_lheard
  fd_lis_right : FuncData
  d_lis_right : DefE K mg "_law_is_right" P_lis_right (defArgs (top 39)) (defBody (top 39)) sc_lis_right fd_lis_right
  fd_lrow : FuncData
  d_lrow : DefE K mg "_law_row" P_lrow (defArgs (top 33)) (defBody (top 33)) sc_lrow fd_lrow
  fd_lright : FuncData
  d_lright : DefE K mg "_law_right" P_lright (defArgs (top 40)) (defBody (top 40)) sc_lright fd_lright
  fd_lnamed_rows : FuncData
  d_lnamed_rows : DefE K mg "_law_named_rows" P_lnamed_rows (defArgs (top 34)) (defBody (top 34)) sc_lnamed_rows fd_lnamed_rows
  fd_law : FuncData
  d_law : DefE K mg "law" P_law (defArgs (top 41)) (defBody (top 41)) sc_law fd_law
  n_abs : mg "abs" = none
  n_all : mg "all" = none
  n_bool : mg "bool" = none
  n_divmod : mg "divmod" = none
  n_int : mg "int" = none
  n_isinstance : mg "isinstance" = none
  n_len : mg "len" = none
  n_list : mg "list" = none
  n_max : mg "max" = none
  n_min : mg "min" = none
  n_range : mg "range" = none
  n_set : mg "set" = none
  n_str : mg "str" = none
  n_sum : mg "sum" = none
  n_tuple : mg "tuple" = none
  v_COLOURS : ∃ t, mg "COLOURS" = some (.str (mkS [97, 98, 99, 100, 101, 102]) t)
  v_MOST_SOCKS : ∃ t, mg "MOST_SOCKS" = some (.int 12 t)
  v_BLANK : ∃ t, mg "BLANK" = some (.str (mkS [32]) t)
  v_NONE_TEXT : ∃ t, mg "NONE_TEXT" = some (.str (mkS [110, 111, 110, 101]) t)
  v_DIGITS : ∃ t, mg "DIGITS" = some (.str (mkS [48, 49, 50, 51, 52, 53, 54, 55, 56, 57]) t)
  e_InvalidRow : ZX.ErrTxt K mg "InvalidRow" "given" (He.ga K "InvalidRow") (He.ma K (He.ga K "InvalidRow") "__init__")
  e_InvalidText : ZX.ErrTxt K mg "InvalidText" "given" (He.ga K "InvalidText") (He.ma K (He.ga K "InvalidText") "__init__")
  x_InvalidText_InvalidText : PySem.W.exmOne K (.ref (He.ga K "InvalidText")) (.ref (He.ga K "InvalidText")) = some true
  one : ∀ f ∈ lamDefs, ∀ g ∈ lamDefs, (He.cT K (g, none)).2 = (He.cT K (f, none)).2 → g = f
def Tbs (K : PySem.W.Frag) (mg : Str → Option Value) (base : Heap) : Prop := ∀ f ∈ lamDefs, LamX.TabB base mg (He.cT K (f, none)).1 (He.cT K (f, none)).2
theorem tab_one {K : PySem.W.Frag} {mg : Str → Option Value} (T : Txt K mg) {f : Str} (hf : f ∈ lamDefs) : ∀ p ∈ (cfg K).T, p.1 = (He.cT K (f, none)).2 → p.2 = f ++ ".<locals>.<lambda>" := fun p hp e => by
  obtain ⟨g, hg, rfl⟩ := List.mem_map.mp hp
  rw [T.one f hf g hg e]
theorem one_of {K : PySem.W.Frag} (h : (lamDefs.all fun f => lamDefs.all fun g => decide (g = f) || !decide ((He.cT K (g, none)).2 = (He.cT K (f, none)).2)) = true) : ∀ f ∈ lamDefs, ∀ g ∈ lamDefs, (He.cT K (g, none)).2 = (He.cT K (f, none)).2 → g = f := fun f hf g hg e => by
  have := List.all_eq_true.mp (List.all_eq_true.mp h f hf) g hg
  simpa [e] using this
variable {Pg : Program} {w : World} {K : PySem.W.Frag} {mg : Str → Option Value} {base : Heap}
theorem ok_lpot (T : Txt K mg) (hT : Tbs K mg base) : FnOk Pg w K mg base (L2.CX Pg w) 1 (He.ga K "_law_pot") T.fd_lpot P_lpot (spOf (cfg K) f_lpot) := by
  refine fn_ok T.d_lpot.F sf_lpot rfl rfl rfl fun cdv A outer s H E hcd hr => ?_
  exact (s_cons (s_asg (s_ife (s_tcmp (o_lt rfl) (s_var rfl (vis_by (by kernel_rfl)) (by kernel_rfl) (by kernel_rfl)) (s_fnB (c_len rfl) (gl_by (by kernel_rfl)) T.n_len (by rfl) (s_acons (s_var rfl (vis_by (by kernel_rfl)) (by kernel_rfl) (by kernel_rfl)) s_anil rfl) (by decide) (by kernel_rfl) rfl rfl) rfl) (s_fnT (c_int rfl) (gl_by (by kernel_rfl)) T.n_int (by rfl) (s_acons (s_idx rfl (s_var rfl (vis_by (by kernel_rfl)) (by kernel_rfl) (by kernel_rfl)) (s_var rfl (vis_by (by kernel_rfl)) (by kernel_rfl) (by kernel_rfl)) (fun _ _ => rfl)) s_anil rfl) (by decide) (by kernel_rfl) rfl rfl) (s_bin (o_add rfl) (s_bin (o_add rfl) (s_bin (o_mul rfl) s_int (s_var rfl (vis_by (by kernel_rfl)) (by kernel_rfl) (by kernel_rfl))) s_int) (s_bin (o_mod rfl) (s_fnT (c_int rfl) (gl_by (by kernel_rfl)) T.n_int (by rfl) (s_acons (s_fnB (c_sum rfl rfl) (gl_by (by kernel_rfl)) T.n_sum (by rfl) (s_acons (s_slc rfl (s_var rfl (vis_by (by kernel_rfl)) (by kernel_rfl) (by kernel_rfl)) s_onone (s_osome s_int)) s_anil rfl) (by decide) (by kernel_rfl) rfl rfl) s_anil rfl) (by decide) (by kernel_rfl) rfl rfl) s_int))) (s_gnm (i := 2) nd_lpot rfl (loc_by (by kernel_rfl)) (by first | exact .inr rfl | exact .inl rfl) (fun _ e => nomatch e)) rfl rfl rfl)
  (s_cons (s_asg (s_bin (o_add rfl) s_int (s_bin (o_mul rfl) s_int (s_var rfl (vis_by (by kernel_rfl)) (by kernel_rfl) (by kernel_rfl)))) (s_gnm (i := 3) nd_lpot rfl (loc_by (by kernel_rfl)) (by first | exact .inr rfl | exact .inl rfl) (fun _ e => nomatch e)) rfl rfl rfl)
  (s_cons (s_for (passes_of rfl) rfl (s_ival rfl (s_bin (o_add rfl) (s_slc rfl (s_var rfl (vis_by (by kernel_rfl)) (by kernel_rfl) (by kernel_rfl)) s_onone (s_osome s_int)) (s_lst (s_acons (s_var rfl (vis_by (by kernel_rfl)) (by kernel_rfl) (by kernel_rfl)) s_anil rfl) (alen_le (alen_cons alen_nil) (by decide))))) (s_gnm (i := 4) nd_lpot rfl (loc_by (by kernel_rfl)) (by first | exact .inr rfl | exact .inl rfl) (fun _ e => nomatch e))
  (s_sone (s_asg (s_bin (o_mod rfl) (s_fnT (c_int rfl) (gl_by (by kernel_rfl)) T.n_int (by rfl) (s_acons (s_bin (o_add rfl) (s_bin (o_add rfl) (s_bin (o_mul rfl) (s_var rfl (vis_by (by kernel_rfl)) (by kernel_rfl) (by kernel_rfl)) s_int) (s_bin (o_mod rfl) (s_fnT (c_int rfl) (gl_by (by kernel_rfl)) T.n_int (by rfl) (s_acons (s_var rfl (vis_by (by kernel_rfl)) (by kernel_rfl) (by kernel_rfl)) s_anil rfl) (by decide) (by kernel_rfl) rfl rfl) s_int)) s_int) s_anil rfl) (by decide) (by kernel_rfl) rfl rfl) s_int) (s_gnm (i := 3) nd_lpot rfl (loc_by (by kernel_rfl)) (by first | exact .inr rfl | exact .inl rfl) (fun _ e => nomatch e)) rfl rfl rfl)) (fun _ => rfl))
  (s_sone (s_ret (s_lst (s_acons (s_ife (PW.pt (s_tor (s_tcmp (o_lt rfl) (s_var rfl (vis_by (by kernel_rfl)) (by kernel_rfl) (by kernel_rfl)) s_int rfl) (s_or1 (s_tcmp (o_ge rfl) (s_var rfl (vis_by (by kernel_rfl)) (by kernel_rfl) (by kernel_rfl)) (s_bin (o_pow rfl) s_int s_int) rfl)))) (s_bin (o_mod rfl) (s_fnT (c_int rfl) (gl_by (by kernel_rfl)) T.n_int (by rfl) (s_acons (s_fnB (c_abs rfl) (gl_by (by kernel_rfl)) T.n_abs (by rfl) (s_acons (s_var rfl (vis_by (by kernel_rfl)) (by kernel_rfl) (by kernel_rfl)) s_anil rfl) (by decide) (by kernel_rfl) rfl rfl) s_anil rfl) (by decide) (by kernel_rfl) rfl rfl) (s_bin (o_pow rfl) s_int s_int)) s_int) (s_acons (s_var rfl (vis_by (by kernel_rfl)) (by kernel_rfl) (by kernel_rfl)) (s_acons s_int s_anil rfl) rfl) rfl) (alen_le (alen_cons (alen_cons (alen_cons alen_nil))) (by decide))))))))
theorem ok_llumps (T : Txt K mg) (hT : Tbs K mg base) : FnOk Pg w K mg base (L2.CX Pg w) 1 (He.ga K "_law_lumps") T.fd_llumps P_llumps (spOf (cfg K) f_llumps) := by
  refine fn_ok T.d_llumps.F sf_llumps rfl rfl rfl fun cdv A outer s H E hcd hr => ?_
  exact (s_cons (s_asg (s_lst s_anil (alen_le alen_nil (by decide))) (s_gnm (i := 1) nd_llumps rfl (loc_by (by kernel_rfl)) (by first | exact .inr rfl | exact .inl rfl) (fun _ e => nomatch e)) rfl rfl rfl)
  (s_cons (s_for (passes_of rfl) rfl (s_ival rfl (s_var rfl (vis_by (by kernel_rfl)) (by kernel_rfl) (by kernel_rfl))) (s_gnm (i := 2) nd_llumps rfl (loc_by (by kernel_rfl)) (by first | exact .inr rfl | exact .inl rfl) (fun _ e => nomatch e))
  (s_sone (s_if (PW.pt (s_tand (s_tcmp (o_ne rfl hr.units) (s_var rfl (vis_by (by kernel_rfl)) (by kernel_rfl) (by kernel_rfl)) (s_lst s_anil (alen_le alen_nil (by decide))) rfl) (s_and1 (s_tcmp (o_eq rfl hr.units) (s_idx rfl (s_idx rfl (s_var rfl (vis_by (by kernel_rfl)) (by kernel_rfl) (by kernel_rfl)) (s_neg s_int) (fun _ _ => rfl)) s_int (fun _ _ => rfl)) (s_var rfl (vis_by (by kernel_rfl)) (by kernel_rfl) (by kernel_rfl)) rfl)))) (s_sone (s_asg (s_tup (s_acons (s_var rfl (vis_by (by kernel_rfl)) (by kernel_rfl) (by kernel_rfl)) (s_acons (s_bin (o_add rfl) (s_idx rfl (s_idx rfl (s_var rfl (vis_by (by kernel_rfl)) (by kernel_rfl) (by kernel_rfl)) (s_neg s_int) (fun _ _ => rfl)) s_int (fun _ _ => rfl)) s_int) s_anil rfl) rfl) (alen_le (alen_cons (alen_cons alen_nil)) (by decide))) (s_gix (s_var rfl (vis_by (by kernel_rfl)) (by kernel_rfl) (by kernel_rfl)) (s_neg s_int) (fun _ => rfl)) rfl rfl rfl))
  (s_sone (s_drop (s_mth F.plainAttrs_list F.slot_list_append F.type_list_append (t_append rfl) (s_var rfl (vis_by (by kernel_rfl)) (by kernel_rfl) (by kernel_rfl)) (s_acons (s_tup (s_acons (s_var rfl (vis_by (by kernel_rfl)) (by kernel_rfl) (by kernel_rfl)) (s_acons s_int s_anil rfl) rfl) (alen_le (alen_cons (alen_cons alen_nil)) (by decide))) s_anil rfl) rfl rfl rfl rfl rfl) rfl)))) (fun _ => rfl))
  (s_sone (s_ret (s_var rfl (vis_by (by kernel_rfl)) (by kernel_rfl) (by kernel_rfl))))))
theorem ok_is_text_of (T : Txt K mg) (hT : Tbs K mg base) : FnOk Pg w K mg base (L2.CX Pg w) 1 (He.ga K "is_text_of") T.fd_is_text_of P_is_text_of (spOf (cfg K) f_is_text_of) := by
  refine fn_ok T.d_is_text_of.F sf_is_text_of rfl rfl rfl fun cdv A outer s H E hcd hr => ?_
  exact (s_sone (s_ret (s_and (s_isi (T := .str) rfl (gl_by (by kernel_rfl)) T.n_isinstance (gl_by (by kernel_rfl)) T.n_str (by kernel_rfl) (s_var rfl (vis_by (by kernel_rfl)) (by kernel_rfl) (by kernel_rfl)) (by decide) (by kernel_rfl) rfl rfl rfl) (s_one (s_fnB (c_all rfl rfl) (gl_by (by kernel_rfl)) T.n_all (by rfl) (s_acons (s_comp (own := [("sign", 2)]) rfl nd_is_text_of (s_ival rfl (s_var rfl (vis_by (by kernel_rfl)) (by kernel_rfl) (by kernel_rfl))) (blkOk_by (by kernel_rfl)) (fun _ _ _ _ _ => (s_gnm (i := 2) nd_is_text_of rfl (loc_by (by kernel_rfl)) (by first | exact .inr rfl | exact .inl rfl) (fun l e => by cases e; decide))) (fun _ _ _ _ _ => s_ts0) (fun _ _ _ _ _ => (s_cmp (o_in rfl) (s_var rfl (vis_by (by kernel_rfl)) (by kernel_rfl) (by kernel_rfl)) (s_var rfl (vis_by (by kernel_rfl)) (by kernel_rfl) (by kernel_rfl)) rfl)) (fun _ => rfl)) s_anil rfl) (by decide) (by kernel_rfl) rfl rfl)))))
theorem ok_is_rowed (T : Txt K mg) (hT : Tbs K mg base) : FnOk Pg w K mg base (L2.CX Pg w) 2 (He.ga K "is_rowed") T.fd_is_rowed P_is_rowed (spOf (cfg K) f_is_rowed) := by
  refine fn_ok T.d_is_rowed.F sf_is_rowed rfl rfl rfl fun cdv A outer s H E hcd hr => ?_
  exact (s_sone (s_ret (s_and (s_call (ok_is_text_of T hT) (hr.mono (by decide)) (takes_of rfl rfl rfl rfl) (gl_by (by kernel_rfl)) T.d_is_text_of.g T.d_is_text_of.F.kp T.d_is_text_of.b (s_acons (s_var rfl (vis_by (by kernel_rfl)) (by kernel_rfl) (by kernel_rfl)) (s_acons (s_gstr (by kernel_rfl) (gl_by (by kernel_rfl)) T.v_COLOURS (by kernel_rfl)) s_anil rfl) rfl) (by kernel_rfl) rfl rfl) (s_one (s_cmp (o_le rfl) (s_fnB (c_len rfl) (gl_by (by kernel_rfl)) T.n_len (by rfl) (s_acons (s_var rfl (vis_by (by kernel_rfl)) (by kernel_rfl) (by kernel_rfl)) s_anil rfl) (by decide) (by kernel_rfl) rfl rfl) (s_gint (gl_by (by kernel_rfl)) T.v_MOST_SOCKS (by kernel_rfl)) rfl)))))
theorem ok_check_row (T : Txt K mg) (hT : Tbs K mg base) : FnOk Pg w K mg base (L2.CX Pg w) 3 (He.ga K "check_row") T.fd_check_row P_check_row (spOf (cfg K) f_check_row) := by
  refine fn_ok T.d_check_row.F sf_check_row rfl rfl rfl fun cdv A outer s H E hcd hr => ?_
  exact (s_sone (s_if (s_tnot (s_truth (s_call (ok_is_rowed T hT) (hr.mono (by decide)) (takes_of rfl rfl rfl rfl) (gl_by (by kernel_rfl)) T.d_is_rowed.g T.d_is_rowed.F.kp T.d_is_rowed.b (s_acons (s_var rfl (vis_by (by kernel_rfl)) (by kernel_rfl) (by kernel_rfl)) s_anil rfl) (by kernel_rfl) rfl rfl) rfl (fun _ => rfl))) (s_sone (s_raise (fl := "given") (.inl rfl) rfl (by kernel_rfl) rfl T.e_InvalidRow hr (takes_of rfl rfl rfl rfl) (s_var rfl (vis_by (by kernel_rfl)) (by kernel_rfl) (by kernel_rfl)) (gl_by (by kernel_rfl)) (by kernel_rfl) rfl rfl rfl))
  s_nil))
theorem ok_lumps_of (T : Txt K mg) (hT : Tbs K mg base) : FnOk Pg w K mg base (L2.CX Pg w) 1 (He.ga K "lumps_of") T.fd_lumps_of P_lumps_of (spOf (cfg K) f_lumps_of) := by
  refine fn_ok T.d_lumps_of.F sf_lumps_of rfl rfl rfl fun cdv A outer s H E hcd hr => ?_
  exact (s_cons (s_asg (s_lst s_anil (alen_le alen_nil (by decide))) (s_gnm (i := 1) nd_lumps_of rfl (loc_by (by kernel_rfl)) (by first | exact .inr rfl | exact .inl rfl) (fun _ e => nomatch e)) rfl rfl rfl)
  (s_cons (s_for (passes_of rfl) rfl (s_ival rfl (s_var rfl (vis_by (by kernel_rfl)) (by kernel_rfl) (by kernel_rfl))) (s_gnm (i := 2) nd_lumps_of rfl (loc_by (by kernel_rfl)) (by first | exact .inr rfl | exact .inl rfl) (fun _ e => nomatch e))
  (s_sone (s_if (PW.pt (s_tand (s_tcmp (o_ne rfl hr.units) (s_var rfl (vis_by (by kernel_rfl)) (by kernel_rfl) (by kernel_rfl)) (s_lst s_anil (alen_le alen_nil (by decide))) rfl) (s_and1 (s_tcmp (o_eq rfl hr.units) (s_idx rfl (s_idx rfl (s_var rfl (vis_by (by kernel_rfl)) (by kernel_rfl) (by kernel_rfl)) (s_neg s_int) (fun _ _ => rfl)) s_int (fun _ _ => rfl)) (s_var rfl (vis_by (by kernel_rfl)) (by kernel_rfl) (by kernel_rfl)) rfl)))) (s_sone (s_asg (s_tup (s_acons (s_var rfl (vis_by (by kernel_rfl)) (by kernel_rfl) (by kernel_rfl)) (s_acons (s_bin (o_add rfl) (s_idx rfl (s_idx rfl (s_var rfl (vis_by (by kernel_rfl)) (by kernel_rfl) (by kernel_rfl)) (s_neg s_int) (fun _ _ => rfl)) s_int (fun _ _ => rfl)) s_int) s_anil rfl) rfl) (alen_le (alen_cons (alen_cons alen_nil)) (by decide))) (s_gix (s_var rfl (vis_by (by kernel_rfl)) (by kernel_rfl) (by kernel_rfl)) (s_neg s_int) (fun _ => rfl)) rfl rfl rfl))
  (s_sone (s_drop (s_mth F.plainAttrs_list F.slot_list_append F.type_list_append (t_append rfl) (s_var rfl (vis_by (by kernel_rfl)) (by kernel_rfl) (by kernel_rfl)) (s_acons (s_tup (s_acons (s_var rfl (vis_by (by kernel_rfl)) (by kernel_rfl) (by kernel_rfl)) (s_acons s_int s_anil rfl) rfl) (alen_le (alen_cons (alen_cons alen_nil)) (by decide))) s_anil rfl) rfl rfl rfl rfl rfl) rfl)))) (fun _ => rfl))
  (s_sone (s_ret (s_var rfl (vis_by (by kernel_rfl)) (by kernel_rfl) (by kernel_rfl))))))
theorem ok_text_of_lumps (T : Txt K mg) (hT : Tbs K mg base) : FnOk Pg w K mg base (L2.CX Pg w) 2 (He.ga K "text_of_lumps") T.fd_text_of_lumps P_text_of_lumps (spOf (cfg K) f_text_of_lumps) := by
  refine fn_ok T.d_text_of_lumps.F sf_text_of_lumps rfl rfl rfl fun cdv A outer s H E hcd hr => ?_
  exact (s_sone (s_ret (s_ife (s_tcmp (o_ne rfl hr.units) (s_var rfl (vis_by (by kernel_rfl)) (by kernel_rfl) (by kernel_rfl)) (s_str (by kernel_rfl) (by kernel_rfl)) rfl) (s_mth F.plainAttrs_str F.slot_str_join F.type_str_join (t_join rfl) (s_gstr (by kernel_rfl) (gl_by (by kernel_rfl)) T.v_BLANK (by kernel_rfl)) (s_acons (s_comp (own := [("colour", 1), ("many", 2)]) rfl nd_text_of_lumps (s_ival rfl (s_call (ok_lumps_of T hT) (hr.mono (by decide)) (takes_of rfl rfl rfl rfl) (gl_by (by kernel_rfl)) T.d_lumps_of.g T.d_lumps_of.F.kp T.d_lumps_of.b (s_acons (s_var rfl (vis_by (by kernel_rfl)) (by kernel_rfl) (by kernel_rfl)) s_anil rfl) (by kernel_rfl) rfl rfl)) (blkOk_by (by kernel_rfl)) (fun _ _ _ _ _ => (s_gtup rfl rfl (s_gscons (s_gnm (i := 1) nd_text_of_lumps rfl (loc_by (by kernel_rfl)) (by first | exact .inr rfl | exact .inl rfl) (fun l e => by cases e; decide)) (s_gscons (s_gnm (i := 2) nd_text_of_lumps rfl (loc_by (by kernel_rfl)) (by first | exact .inr rfl | exact .inl rfl) (fun l e => by cases e; decide)) s_gsnil rfl) rfl) rfl rfl)) (fun _ _ _ _ _ => s_ts0) (fun _ _ _ _ _ => (s_joined (ts := [(eUn aFmt (eVar 2)), (eUn aFmt (eVar 1))]) (.cons (s_fmt (s_var rfl (vis_by (by kernel_rfl)) (by kernel_rfl) (by kernel_rfl))) (.cons (s_fmt (s_var rfl (vis_by (by kernel_rfl)) (by kernel_rfl) (by kernel_rfl))) .nil)))) (fun _ => rfl)) s_anil rfl) rfl rfl rfl rfl rfl) (s_gstr (by kernel_rfl) (gl_by (by kernel_rfl)) T.v_NONE_TEXT (by kernel_rfl)))))
theorem ok_lumps_text (T : Txt K mg) (hT : Tbs K mg base) : FnOk Pg w K mg base (L2.CX Pg w) 4 (He.ga K "lumps_text") T.fd_lumps_text P_lumps_text (spOf (cfg K) f_lumps_text) := by
  refine fn_ok T.d_lumps_text.F sf_lumps_text rfl rfl rfl fun cdv A outer s H E hcd hr => ?_
  exact (s_cons (s_drop (s_call (ok_check_row T hT) (hr.mono (by decide)) (takes_of rfl rfl rfl rfl) (gl_by (by kernel_rfl)) T.d_check_row.g T.d_check_row.F.kp T.d_check_row.b (s_acons (s_var rfl (vis_by (by kernel_rfl)) (by kernel_rfl) (by kernel_rfl)) s_anil rfl) (by kernel_rfl) rfl rfl) rfl)
  (s_sone (s_ret (s_call (ok_text_of_lumps T hT) (hr.mono (by decide)) (takes_of rfl rfl rfl rfl) (gl_by (by kernel_rfl)) T.d_text_of_lumps.g T.d_text_of_lumps.F.kp T.d_text_of_lumps.b (s_acons (s_var rfl (vis_by (by kernel_rfl)) (by kernel_rfl) (by kernel_rfl)) s_anil rfl) (by kernel_rfl) rfl rfl))))
theorem ok_count_told (T : Txt K mg) (hT : Tbs K mg base) : FnOk Pg w K mg base (L2.CX Pg w) 2 (He.ga K "count_told") T.fd_count_told P_count_told (spOf (cfg K) f_count_told) := by
  refine fn_ok T.d_count_told.F sf_count_told rfl rfl rfl fun cdv A outer s H E hcd hr => ?_
  exact (s_cons (s_if (PW.pt (s_tor (s_tcmp (o_eq rfl hr.units) (s_var rfl (vis_by (by kernel_rfl)) (by kernel_rfl) (by kernel_rfl)) (s_str (by kernel_rfl) (by kernel_rfl)) rfl) (s_or1 (s_tnot (s_truth (s_call (ok_is_text_of T hT) (hr.mono (by decide)) (takes_of rfl rfl rfl rfl) (gl_by (by kernel_rfl)) T.d_is_text_of.g T.d_is_text_of.F.kp T.d_is_text_of.b (s_acons (s_var rfl (vis_by (by kernel_rfl)) (by kernel_rfl) (by kernel_rfl)) (s_acons (s_gstr (by kernel_rfl) (gl_by (by kernel_rfl)) T.v_DIGITS (by kernel_rfl)) s_anil rfl) rfl) (by kernel_rfl) rfl rfl) rfl (fun _ => rfl)))))) (s_sone (s_ret s_non))
  s_nil)
  (s_sone (s_ret (s_ife (PW.pt (s_tand (s_tcmp (o_eq rfl hr.units) (s_idx rfl (s_var rfl (vis_by (by kernel_rfl)) (by kernel_rfl) (by kernel_rfl)) s_int (fun _ _ => rfl)) (s_str (by kernel_rfl) (by kernel_rfl)) rfl) (s_and1 (s_tcmp (o_gt rfl) (s_fnB (c_len rfl) (gl_by (by kernel_rfl)) T.n_len (by rfl) (s_acons (s_var rfl (vis_by (by kernel_rfl)) (by kernel_rfl) (by kernel_rfl)) s_anil rfl) (by decide) (by kernel_rfl) rfl rfl) s_int rfl)))) s_non (s_fnT (c_int rfl) (gl_by (by kernel_rfl)) T.n_int (by rfl) (s_acons (s_var rfl (vis_by (by kernel_rfl)) (by kernel_rfl) (by kernel_rfl)) s_anil rfl) (by decide) (by kernel_rfl) rfl rfl)))))
theorem ok_lump_told (T : Txt K mg) (hT : Tbs K mg base) : FnOk Pg w K mg base (L2.CX Pg w) 3 (He.ga K "lump_told") T.fd_lump_told P_lump_told (spOf (cfg K) f_lump_told) := by
  refine fn_ok T.d_lump_told.F sf_lump_told rfl rfl rfl fun cdv A outer s H E hcd hr => ?_
  exact (s_cons (s_asg (s_call (ok_count_told T hT) (hr.mono (by decide)) (takes_of rfl rfl rfl rfl) (gl_by (by kernel_rfl)) T.d_count_told.g T.d_count_told.F.kp T.d_count_told.b (s_acons (s_slc rfl (s_var rfl (vis_by (by kernel_rfl)) (by kernel_rfl) (by kernel_rfl)) s_onone (s_osome (s_neg s_int))) s_anil rfl) (by kernel_rfl) rfl rfl) (s_gnm (i := 1) nd_lump_told rfl (loc_by (by kernel_rfl)) (by first | exact .inr rfl | exact .inl rfl) (fun _ e => nomatch e)) rfl rfl rfl)
  (s_sone (s_ret (s_ife (PW.pt (s_tand (s_tcmp (o_isn rfl) (s_var rfl (vis_by (by kernel_rfl)) (by kernel_rfl) (by kernel_rfl)) s_non rfl) (s_and1 (s_tcmp (o_le rfl) (s_var rfl (vis_by (by kernel_rfl)) (by kernel_rfl) (by kernel_rfl)) (s_gint (gl_by (by kernel_rfl)) T.v_MOST_SOCKS (by kernel_rfl)) rfl)))) (s_bin (o_mul rfl) (s_idx rfl (s_var rfl (vis_by (by kernel_rfl)) (by kernel_rfl) (by kernel_rfl)) (s_neg s_int) (fun _ _ => rfl)) (s_var rfl (vis_by (by kernel_rfl)) (by kernel_rfl) (by kernel_rfl))) s_non))))
theorem ok_row_of_lumps (T : Txt K mg) (hT : Tbs K mg base) : FnOk Pg w K mg base (L2.CX Pg w) 4 (He.ga K "row_of_lumps") T.fd_row_of_lumps P_row_of_lumps (spOf (cfg K) f_row_of_lumps) := by
  refine fn_ok T.d_row_of_lumps.F sf_row_of_lumps rfl rfl rfl fun cdv A outer s H E hcd hr => ?_
  exact (s_cons (s_if (s_tnot (s_truth (s_isi (T := .str) rfl (gl_by (by kernel_rfl)) T.n_isinstance (gl_by (by kernel_rfl)) T.n_str (by kernel_rfl) (s_var rfl (vis_by (by kernel_rfl)) (by kernel_rfl) (by kernel_rfl)) (by decide) (by kernel_rfl) rfl rfl rfl) rfl (fun _ => rfl))) (s_sone (s_ret s_non))
  s_nil)
  (s_cons (s_asg (s_ife (s_tcmp (o_ne rfl hr.units) (s_var rfl (vis_by (by kernel_rfl)) (by kernel_rfl) (by kernel_rfl)) (s_gstr (by kernel_rfl) (gl_by (by kernel_rfl)) T.v_NONE_TEXT (by kernel_rfl)) rfl) (s_comp (own := [("word", 3)]) rfl nd_row_of_lumps (s_ival rfl (s_mth F.plainAttrs_str F.slot_str_split F.type_str_split (t_split rfl) (s_var rfl (vis_by (by kernel_rfl)) (by kernel_rfl) (by kernel_rfl)) (s_acons (s_gstr (by kernel_rfl) (gl_by (by kernel_rfl)) T.v_BLANK (by kernel_rfl)) s_anil rfl) rfl rfl rfl rfl rfl)) (blkOk_by (by kernel_rfl)) (fun _ _ _ _ _ => (s_gnm (i := 3) nd_row_of_lumps rfl (loc_by (by kernel_rfl)) (by first | exact .inr rfl | exact .inl rfl) (fun l e => by cases e; decide))) (fun _ _ _ _ _ => s_ts0) (fun _ _ _ _ _ => (s_call (ok_lump_told T hT) (hr.mono (by decide)) LamX.takes0 (gl_by (by kernel_rfl)) T.d_lump_told.g T.d_lump_told.F.kp T.d_lump_told.b (s_acons (s_var rfl (vis_by (by kernel_rfl)) (by kernel_rfl) (by kernel_rfl)) s_anil rfl) (by kernel_rfl) rfl rfl)) (fun _ => rfl)) (s_lst s_anil (alen_le alen_nil (by decide)))) (s_gnm (i := 1) nd_row_of_lumps rfl (loc_by (by kernel_rfl)) (by first | exact .inr rfl | exact .inl rfl) (fun _ e => nomatch e)) rfl rfl rfl)
  (s_cons (s_asg (s_ife (s_tcmp (o_nin rfl) s_non (s_var rfl (vis_by (by kernel_rfl)) (by kernel_rfl) (by kernel_rfl)) rfl) (s_mth F.plainAttrs_str F.slot_str_join F.type_str_join (t_join rfl) (s_str (by kernel_rfl) (by kernel_rfl)) (s_acons (s_var rfl (vis_by (by kernel_rfl)) (by kernel_rfl) (by kernel_rfl)) s_anil rfl) rfl rfl rfl rfl rfl) s_non) (s_gnm (i := 2) nd_row_of_lumps rfl (loc_by (by kernel_rfl)) (by first | exact .inr rfl | exact .inl rfl) (fun _ e => nomatch e)) rfl rfl rfl)
  (s_sone (s_ret (s_ife (PW.pt (s_tand (s_truth (s_call (ok_is_rowed T hT) (hr.mono (by decide)) (takes_of rfl rfl rfl rfl) (gl_by (by kernel_rfl)) T.d_is_rowed.g T.d_is_rowed.F.kp T.d_is_rowed.b (s_acons (s_var rfl (vis_by (by kernel_rfl)) (by kernel_rfl) (by kernel_rfl)) s_anil rfl) (by kernel_rfl) rfl rfl) rfl (fun _ => rfl)) (s_and1 (s_tcmp (o_eq rfl hr.units) (s_call (ok_text_of_lumps T hT) (hr.mono (by decide)) (takes_of rfl rfl rfl rfl) (gl_by (by kernel_rfl)) T.d_text_of_lumps.g T.d_text_of_lumps.F.kp T.d_text_of_lumps.b (s_acons (s_var rfl (vis_by (by kernel_rfl)) (by kernel_rfl) (by kernel_rfl)) s_anil rfl) (by kernel_rfl) rfl rfl) (s_var rfl (vis_by (by kernel_rfl)) (by kernel_rfl) (by kernel_rfl)) rfl)))) (s_var rfl (vis_by (by kernel_rfl)) (by kernel_rfl) (by kernel_rfl)) s_non))))))
theorem ok_check_told (T : Txt K mg) (hT : Tbs K mg base) : FnOk Pg w K mg base (L2.CX Pg w) 1 (He.ga K "check_told") T.fd_check_told P_check_told (spOf (cfg K) f_check_told) := by
  refine fn_ok T.d_check_told.F sf_check_told rfl rfl rfl fun cdv A outer s H E hcd hr => ?_
  exact (s_sone (s_if (s_tcmp (o_is rfl) (s_var rfl (vis_by (by kernel_rfl)) (by kernel_rfl) (by kernel_rfl)) s_non rfl) (s_sone (s_raise (fl := "given") (.inl rfl) rfl (by kernel_rfl) rfl T.e_InvalidText hr (takes_of rfl rfl rfl rfl) (s_var rfl (vis_by (by kernel_rfl)) (by kernel_rfl) (by kernel_rfl)) (gl_by (by kernel_rfl)) (by kernel_rfl) rfl rfl rfl))
  s_nil))
theorem ok_read_lumps (T : Txt K mg) (hT : Tbs K mg base) : FnOk Pg w K mg base (L2.CX Pg w) 5 (He.ga K "read_lumps") T.fd_read_lumps P_read_lumps (spOf (cfg K) f_read_lumps) := by
  refine fn_ok T.d_read_lumps.F sf_read_lumps rfl rfl rfl fun cdv A outer s H E hcd hr => ?_
  exact (s_cons (s_asg (s_call (ok_row_of_lumps T hT) (hr.mono (by decide)) (takes_of rfl rfl rfl rfl) (gl_by (by kernel_rfl)) T.d_row_of_lumps.g T.d_row_of_lumps.F.kp T.d_row_of_lumps.b (s_acons (s_var rfl (vis_by (by kernel_rfl)) (by kernel_rfl) (by kernel_rfl)) s_anil rfl) (by kernel_rfl) rfl rfl) (s_gnm (i := 1) nd_read_lumps rfl (loc_by (by kernel_rfl)) (by first | exact .inr rfl | exact .inl rfl) (fun _ e => nomatch e)) rfl rfl rfl)
  (s_cons (s_drop (s_call (ok_check_told T hT) (hr.mono (by decide)) (takes_of rfl rfl rfl rfl) (gl_by (by kernel_rfl)) T.d_check_told.g T.d_check_told.F.kp T.d_check_told.b (s_acons (s_var rfl (vis_by (by kernel_rfl)) (by kernel_rfl) (by kernel_rfl)) (s_acons (s_var rfl (vis_by (by kernel_rfl)) (by kernel_rfl) (by kernel_rfl)) s_anil rfl) rfl) (by kernel_rfl) rfl rfl) rfl)
  (s_sone (s_ret (s_var rfl (vis_by (by kernel_rfl)) (by kernel_rfl) (by kernel_rfl))))))
theorem ok_lumps (T : Txt K mg) (hT : Tbs K mg base) : FnOk Pg w K mg base (L2.CX Pg w) 4 (He.ga K "lumps") T.fd_lumps P_lumps (spOf (cfg K) f_lumps) := by
  refine fn_ok T.d_lumps.F sf_lumps rfl rfl rfl fun cdv A outer s H E hcd hr => ?_
  exact (s_cons (s_drop (s_call (ok_check_row T hT) (hr.mono (by decide)) (takes_of rfl rfl rfl rfl) (gl_by (by kernel_rfl)) T.d_check_row.g T.d_check_row.F.kp T.d_check_row.b (s_acons (s_var rfl (vis_by (by kernel_rfl)) (by kernel_rfl) (by kernel_rfl)) s_anil rfl) (by kernel_rfl) rfl rfl) rfl)
  (s_sone (s_ret (s_fnT (c_tuple rfl) (gl_by (by kernel_rfl)) T.n_tuple (by rfl) (s_acons (s_call (ok_lumps_of T hT) (hr.mono (by decide)) (takes_of rfl rfl rfl rfl) (gl_by (by kernel_rfl)) T.d_lumps_of.g T.d_lumps_of.F.kp T.d_lumps_of.b (s_acons (s_var rfl (vis_by (by kernel_rfl)) (by kernel_rfl) (by kernel_rfl)) s_anil rfl) (by kernel_rfl) rfl rfl) s_anil rfl) (by decide) (by kernel_rfl) rfl rfl))))
theorem ok_ldraw (T : Txt K mg) (hT : Tbs K mg base) : FnOk Pg w K mg base (L2.CX Pg w) 1 (He.ga K "_law_draw") T.fd_ldraw P_ldraw (spOf (cfg K) f_ldraw) := by
  refine fn_ok T.d_ldraw.F sf_ldraw rfl rfl rfl fun cdv A outer s H E hcd hr => ?_
  exact (s_cons (s_if (s_tcmp (o_gt rfl) (s_idx rfl (s_var rfl (vis_by (by kernel_rfl)) (by kernel_rfl) (by kernel_rfl)) s_int (fun _ _ => rfl)) s_int rfl) (s_cons (s_asg (s_fnB (c_divmod rfl) (gl_by (by kernel_rfl)) T.n_divmod (by rfl) (s_acons (s_idx rfl (s_var rfl (vis_by (by kernel_rfl)) (by kernel_rfl) (by kernel_rfl)) s_int (fun _ _ => rfl)) (s_acons (s_var rfl (vis_by (by kernel_rfl)) (by kernel_rfl) (by kernel_rfl)) s_anil rfl) rfl) (by decide) (by kernel_rfl) rfl rfl) (s_gtup rfl rfl (s_gscons (s_gix (s_var rfl (vis_by (by kernel_rfl)) (by kernel_rfl) (by kernel_rfl)) s_int (fun _ => rfl)) (s_gscons (s_gnm (i := 2) nd_ldraw rfl (loc_by (by kernel_rfl)) (by first | exact .inr rfl | exact .inl rfl) (fun _ e => nomatch e)) s_gsnil rfl) rfl) rfl rfl) rfl rfl rfl)
  (s_sone (s_ret (s_var rfl (vis_by (by kernel_rfl)) (by kernel_rfl) (by kernel_rfl)))))
  s_nil)
  (s_cons (s_asg (s_bin (o_add rfl) (s_idx rfl (s_var rfl (vis_by (by kernel_rfl)) (by kernel_rfl) (by kernel_rfl)) s_int (fun _ _ => rfl)) s_int) (s_gix (s_var rfl (vis_by (by kernel_rfl)) (by kernel_rfl) (by kernel_rfl)) s_int (fun _ => rfl)) rfl rfl rfl)
  (s_cons (s_asg (s_bin (o_mod rfl) (s_fnT (c_int rfl) (gl_by (by kernel_rfl)) T.n_int (by rfl) (s_acons (s_bin (o_add rfl) (s_bin (o_add rfl) (s_bin (o_mul rfl) (s_idx rfl (s_var rfl (vis_by (by kernel_rfl)) (by kernel_rfl) (by kernel_rfl)) s_int (fun _ _ => rfl)) (s_bin (o_add rfl) (s_bin (o_mod rfl) (s_fnT (c_int rfl) (gl_by (by kernel_rfl)) T.n_int (by rfl) (s_acons (s_idx rfl (s_var rfl (vis_by (by kernel_rfl)) (by kernel_rfl) (by kernel_rfl)) s_int (fun _ _ => rfl)) s_anil rfl) (by decide) (by kernel_rfl) rfl rfl) s_int) s_int)) (s_bin (o_mul rfl) s_int (s_idx rfl (s_var rfl (vis_by (by kernel_rfl)) (by kernel_rfl) (by kernel_rfl)) s_int (fun _ _ => rfl)))) s_int) s_anil rfl) (by decide) (by kernel_rfl) rfl rfl) s_int) (s_gix (s_var rfl (vis_by (by kernel_rfl)) (by kernel_rfl) (by kernel_rfl)) s_int (fun _ => rfl)) rfl rfl rfl)
  (s_sone (s_ret (s_bin (o_mod rfl) (s_fnT (c_int rfl) (gl_by (by kernel_rfl)) T.n_int (by rfl) (s_acons (s_bin (o_div rfl) (s_idx rfl (s_var rfl (vis_by (by kernel_rfl)) (by kernel_rfl) (by kernel_rfl)) s_int (fun _ _ => rfl)) s_int) s_anil rfl) (by decide) (by kernel_rfl) rfl rfl) (s_var rfl (vis_by (by kernel_rfl)) (by kernel_rfl) (by kernel_rfl))))))))
theorem ok_lpick (T : Txt K mg) (hT : Tbs K mg base) : FnOk Pg w K mg base (L2.CX Pg w) 2 (He.ga K "_law_pick") T.fd_lpick P_lpick (spOf (cfg K) f_lpick) := by
  refine fn_ok T.d_lpick.F sf_lpick rfl rfl rfl fun cdv A outer s H E hcd hr => ?_
  exact (s_sone (s_ret (s_idx rfl (s_var rfl (vis_by (by kernel_rfl)) (by kernel_rfl) (by kernel_rfl)) (s_call (ok_ldraw T hT) (hr.mono (by decide)) (takes_of rfl rfl rfl rfl) (gl_by (by kernel_rfl)) T.d_ldraw.g T.d_ldraw.F.kp T.d_ldraw.b (s_acons (s_var rfl (vis_by (by kernel_rfl)) (by kernel_rfl) (by kernel_rfl)) (s_acons (s_fnB (c_len rfl) (gl_by (by kernel_rfl)) T.n_len (by rfl) (s_acons (s_var rfl (vis_by (by kernel_rfl)) (by kernel_rfl) (by kernel_rfl)) s_anil rfl) (by decide) (by kernel_rfl) rfl rfl) s_anil rfl) rfl) (by kernel_rfl) rfl rfl) (fun _ _ => rfl))))
theorem ok_lbent (T : Txt K mg) (hT : Tbs K mg base) : FnOk Pg w K mg base (L2.CX Pg w) 3 (He.ga K "_law_bent") T.fd_lbent P_lbent (spOf (cfg K) f_lbent) := by
  refine fn_ok T.d_lbent.F sf_lbent rfl rfl rfl fun cdv A outer s H E hcd hr => ?_
  exact (s_cons (s_par (i := 4) (j := 5) rfl nd_lbent rfl rfl (by decide) (by kernel_rfl) (by kernel_rfl) (s_acons (s_call (ok_ldraw T hT) (hr.mono (by decide)) (takes_of rfl rfl rfl rfl) (gl_by (by kernel_rfl)) T.d_ldraw.g T.d_ldraw.F.kp T.d_ldraw.b (s_acons (s_var rfl (vis_by (by kernel_rfl)) (by kernel_rfl) (by kernel_rfl)) (s_acons s_int s_anil rfl) rfl) (by kernel_rfl) rfl rfl) (s_acons (s_call (ok_ldraw T hT) (hr.mono (by decide)) (takes_of rfl rfl rfl rfl) (gl_by (by kernel_rfl)) T.d_ldraw.g T.d_ldraw.F.kp T.d_ldraw.b (s_acons (s_var rfl (vis_by (by kernel_rfl)) (by kernel_rfl) (by kernel_rfl)) (s_acons (s_bin (o_add rfl) (s_fnB (c_len rfl) (gl_by (by kernel_rfl)) T.n_len (by rfl) (s_acons (s_var rfl (vis_by (by kernel_rfl)) (by kernel_rfl) (by kernel_rfl)) s_anil rfl) (by decide) (by kernel_rfl) rfl rfl) s_int) s_anil rfl) rfl) (by kernel_rfl) rfl rfl) s_anil rfl) rfl) rfl rfl)
  (s_cons (s_asg (s_call (ok_lpick T hT) (hr.mono (by decide)) (takes_of rfl rfl rfl rfl) (gl_by (by kernel_rfl)) T.d_lpick.g T.d_lpick.F.kp T.d_lpick.b (s_acons (s_var rfl (vis_by (by kernel_rfl)) (by kernel_rfl) (by kernel_rfl)) (s_acons (s_str (by kernel_rfl) (by kernel_rfl)) s_anil rfl) rfl) (by kernel_rfl) rfl rfl) (s_gnm (i := 2) nd_lbent rfl (loc_by (by kernel_rfl)) (by first | exact .inr rfl | exact .inl rfl) (fun _ e => nomatch e)) rfl rfl rfl)
  (s_cons (s_if (s_tcmp (o_lt rfl) (s_var rfl (vis_by (by kernel_rfl)) (by kernel_rfl) (by kernel_rfl)) s_int rfl) (s_sone (s_ret (s_ife (s_tcmp (o_eq rfl hr.units) (s_var rfl (vis_by (by kernel_rfl)) (by kernel_rfl) (by kernel_rfl)) s_int rfl) (s_bin (o_add rfl) (s_slc rfl (s_var rfl (vis_by (by kernel_rfl)) (by kernel_rfl) (by kernel_rfl)) s_onone (s_osome (s_var rfl (vis_by (by kernel_rfl)) (by kernel_rfl) (by kernel_rfl)))) (s_slc rfl (s_var rfl (vis_by (by kernel_rfl)) (by kernel_rfl) (by kernel_rfl)) (s_osome (s_bin (o_add rfl) (s_var rfl (vis_by (by kernel_rfl)) (by kernel_rfl) (by kernel_rfl)) s_int)) s_onone)) (s_bin (o_add rfl) (s_bin (o_add rfl) (s_slc rfl (s_var rfl (vis_by (by kernel_rfl)) (by kernel_rfl) (by kernel_rfl)) s_onone (s_osome (s_var rfl (vis_by (by kernel_rfl)) (by kernel_rfl) (by kernel_rfl)))) (s_var rfl (vis_by (by kernel_rfl)) (by kernel_rfl) (by kernel_rfl))) (s_slc rfl (s_var rfl (vis_by (by kernel_rfl)) (by kernel_rfl) (by kernel_rfl)) (s_osome (s_bin (o_sub rfl) (s_bin (o_add rfl) (s_var rfl (vis_by (by kernel_rfl)) (by kernel_rfl) (by kernel_rfl)) (s_var rfl (vis_by (by kernel_rfl)) (by kernel_rfl) (by kernel_rfl))) s_int)) s_onone)))))
  s_nil)
  (s_cons (s_asg (s_mth F.plainAttrs_str F.slot_str_split F.type_str_split (t_split rfl) (s_var rfl (vis_by (by kernel_rfl)) (by kernel_rfl) (by kernel_rfl)) (s_acons (s_str (by kernel_rfl) (by kernel_rfl)) s_anil rfl) rfl rfl rfl rfl rfl) (s_gnm (i := 3) nd_lbent rfl (loc_by (by kernel_rfl)) (by first | exact .inr rfl | exact .inl rfl) (fun _ e => nomatch e)) rfl rfl rfl)
  (s_cons (s_par (i := 6) (j := 7) rfl nd_lbent rfl rfl (by decide) (by kernel_rfl) (by kernel_rfl) (s_acons (s_call (ok_ldraw T hT) (hr.mono (by decide)) (takes_of rfl rfl rfl rfl) (gl_by (by kernel_rfl)) T.d_ldraw.g T.d_ldraw.F.kp T.d_ldraw.b (s_acons (s_var rfl (vis_by (by kernel_rfl)) (by kernel_rfl) (by kernel_rfl)) (s_acons (s_fnB (c_len rfl) (gl_by (by kernel_rfl)) T.n_len (by rfl) (s_acons (s_var rfl (vis_by (by kernel_rfl)) (by kernel_rfl) (by kernel_rfl)) s_anil rfl) (by decide) (by kernel_rfl) rfl rfl) s_anil rfl) rfl) (by kernel_rfl) rfl rfl) (s_acons (s_call (ok_ldraw T hT) (hr.mono (by decide)) (takes_of rfl rfl rfl rfl) (gl_by (by kernel_rfl)) T.d_ldraw.g T.d_ldraw.F.kp T.d_ldraw.b (s_acons (s_var rfl (vis_by (by kernel_rfl)) (by kernel_rfl) (by kernel_rfl)) (s_acons (s_fnB (c_len rfl) (gl_by (by kernel_rfl)) T.n_len (by rfl) (s_acons (s_var rfl (vis_by (by kernel_rfl)) (by kernel_rfl) (by kernel_rfl)) s_anil rfl) (by decide) (by kernel_rfl) rfl rfl) s_anil rfl) rfl) (by kernel_rfl) rfl rfl) s_anil rfl) rfl) rfl rfl)
  (s_cons (s_if (s_tcmp (o_eq rfl hr.units) (s_var rfl (vis_by (by kernel_rfl)) (by kernel_rfl) (by kernel_rfl)) s_int rfl) (s_sone (s_asg (s_tup (s_acons (s_idx rfl (s_var rfl (vis_by (by kernel_rfl)) (by kernel_rfl) (by kernel_rfl)) (s_var rfl (vis_by (by kernel_rfl)) (by kernel_rfl) (by kernel_rfl)) (fun _ _ => rfl)) (s_acons (s_idx rfl (s_var rfl (vis_by (by kernel_rfl)) (by kernel_rfl) (by kernel_rfl)) (s_var rfl (vis_by (by kernel_rfl)) (by kernel_rfl) (by kernel_rfl)) (fun _ _ => rfl)) s_anil rfl) rfl) (alen_le (alen_cons (alen_cons alen_nil)) (by decide))) (s_gtup rfl rfl (s_gscons (s_gix (s_var rfl (vis_by (by kernel_rfl)) (by kernel_rfl) (by kernel_rfl)) (s_var rfl (vis_by (by kernel_rfl)) (by kernel_rfl) (by kernel_rfl)) (fun _ => rfl)) (s_gscons (s_gix (s_var rfl (vis_by (by kernel_rfl)) (by kernel_rfl) (by kernel_rfl)) (s_var rfl (vis_by (by kernel_rfl)) (by kernel_rfl) (by kernel_rfl)) (fun _ => rfl)) s_gsnil rfl) rfl) rfl rfl) rfl rfl rfl))
  (s_sone (s_if (s_tcmp (o_eq rfl hr.units) (s_var rfl (vis_by (by kernel_rfl)) (by kernel_rfl) (by kernel_rfl)) s_int rfl) (s_sone (s_asg (s_bin (o_add rfl) (s_slc rfl (s_var rfl (vis_by (by kernel_rfl)) (by kernel_rfl) (by kernel_rfl)) s_onone (s_osome (s_bin (o_add rfl) (s_var rfl (vis_by (by kernel_rfl)) (by kernel_rfl) (by kernel_rfl)) s_int))) (s_slc rfl (s_var rfl (vis_by (by kernel_rfl)) (by kernel_rfl) (by kernel_rfl)) (s_osome (s_var rfl (vis_by (by kernel_rfl)) (by kernel_rfl) (by kernel_rfl))) s_onone)) (s_gnm (i := 3) nd_lbent rfl (loc_by (by kernel_rfl)) (by first | exact .inr rfl | exact .inl rfl) (fun _ e => nomatch e)) rfl rfl rfl))
  (s_sone (s_if (s_tcmp (o_eq rfl hr.units) (s_var rfl (vis_by (by kernel_rfl)) (by kernel_rfl) (by kernel_rfl)) s_int rfl) (s_sone (s_asg (s_bin (o_add rfl) (s_slc rfl (s_var rfl (vis_by (by kernel_rfl)) (by kernel_rfl) (by kernel_rfl)) s_onone (s_osome (s_var rfl (vis_by (by kernel_rfl)) (by kernel_rfl) (by kernel_rfl)))) (s_slc rfl (s_var rfl (vis_by (by kernel_rfl)) (by kernel_rfl) (by kernel_rfl)) (s_osome (s_bin (o_add rfl) (s_var rfl (vis_by (by kernel_rfl)) (by kernel_rfl) (by kernel_rfl)) s_int)) s_onone)) (s_gnm (i := 3) nd_lbent rfl (loc_by (by kernel_rfl)) (by first | exact .inr rfl | exact .inl rfl) (fun _ e => nomatch e)) rfl rfl rfl))
  (s_sone (s_if (s_tcmp (o_eq rfl hr.units) (s_var rfl (vis_by (by kernel_rfl)) (by kernel_rfl) (by kernel_rfl)) s_int rfl) (s_sone (s_asg (s_rev rfl (s_idx rfl (s_var rfl (vis_by (by kernel_rfl)) (by kernel_rfl) (by kernel_rfl)) (s_var rfl (vis_by (by kernel_rfl)) (by kernel_rfl) (by kernel_rfl)) (fun _ _ => rfl))) (s_gix (s_var rfl (vis_by (by kernel_rfl)) (by kernel_rfl) (by kernel_rfl)) (s_var rfl (vis_by (by kernel_rfl)) (by kernel_rfl) (by kernel_rfl)) (fun _ => rfl)) rfl rfl rfl))
  s_nil)))))))
  (s_sone (s_ret (s_ife (s_tcmp (o_lt rfl) (s_var rfl (vis_by (by kernel_rfl)) (by kernel_rfl) (by kernel_rfl)) s_int rfl) (s_mth F.plainAttrs_str F.slot_str_join F.type_str_join (t_join rfl) (s_str (by kernel_rfl) (by kernel_rfl)) (s_acons (s_var rfl (vis_by (by kernel_rfl)) (by kernel_rfl) (by kernel_rfl)) s_anil rfl) rfl rfl rfl rfl rfl) (s_call (ok_lpick T hT) (hr.mono (by decide)) (takes_of rfl rfl rfl rfl) (gl_by (by kernel_rfl)) T.d_lpick.g T.d_lpick.F.kp T.d_lpick.b (s_acons (s_var rfl (vis_by (by kernel_rfl)) (by kernel_rfl) (by kernel_rfl)) (s_acons (s_tup (s_acons (s_str (by kernel_rfl) (by kernel_rfl)) (s_acons (s_str (by kernel_rfl) (by kernel_rfl)) (s_acons s_non (s_acons s_int (s_acons (s_tup (s_acons (s_var rfl (vis_by (by kernel_rfl)) (by kernel_rfl) (by kernel_rfl)) s_anil rfl) (alen_le (alen_cons alen_nil) (by decide))) (s_acons (s_bin (o_add rfl) (s_var rfl (vis_by (by kernel_rfl)) (by kernel_rfl) (by kernel_rfl)) (s_str (by kernel_rfl) (by kernel_rfl))) (s_acons (s_str (by kernel_rfl) (by kernel_rfl)) (s_acons (s_str (by kernel_rfl) (by kernel_rfl)) (s_acons (s_str (by kernel_rfl) (by kernel_rfl)) (s_acons (s_str (by kernel_rfl) (by kernel_rfl)) (s_acons (s_str (by kernel_rfl) (by kernel_rfl)) (s_acons (s_str (by kernel_rfl) (by kernel_rfl)) (s_acons (s_str (by kernel_rfl) (by kernel_rfl)) (s_acons (s_str (by kernel_rfl) (by kernel_rfl)) (s_acons (s_str (by kernel_rfl) (by kernel_rfl)) s_anil rfl) rfl) rfl) rfl) rfl) rfl) rfl) rfl) rfl) rfl) rfl) rfl) rfl) rfl) rfl) (alen_le (alen_cons (alen_cons (alen_cons (alen_cons (alen_cons (alen_cons (alen_cons (alen_cons (alen_cons (alen_cons (alen_cons (alen_cons (alen_cons (alen_cons (alen_cons alen_nil))))))))))))))) (by decide))) s_anil rfl) rfl) (by kernel_rfl) rfl rfl))))))))))
theorem ok_lsame_n (T : Txt K mg) (hT : Tbs K mg base) : ∀ k, FnOk Pg w K mg base (L2.CX Pg w) (0 + k + 1) (He.ga K "_law_same") T.fd_lsame P_lsame (spOf (cfg K) (f_lsame k))
  | 0 => fn_stk
  | k + 1 => by
    have ih := ok_lsame_n T hT k
    refine fn_ok T.d_lsame.F sf_lsame rfl rfl rfl fun cdv A outer s H E hcd hr => ?_
    exact (s_cons (s_if (PW.pt (s_tor (PW.pt (s_tand (s_truth (s_isi (T := .tup) rfl (gl_by (by kernel_rfl)) T.n_isinstance (gl_by (by kernel_rfl)) T.n_tuple (by kernel_rfl) (s_var rfl (vis_by (by kernel_rfl)) (by kernel_rfl) (by kernel_rfl)) (by decide) (by kernel_rfl) rfl rfl rfl) rfl (fun _ => rfl)) (s_and1 (s_truth (s_isi (T := .tup) rfl (gl_by (by kernel_rfl)) T.n_isinstance (gl_by (by kernel_rfl)) T.n_tuple (by kernel_rfl) (s_var rfl (vis_by (by kernel_rfl)) (by kernel_rfl) (by kernel_rfl)) (by decide) (by kernel_rfl) rfl rfl rfl) rfl (fun _ => rfl))))) (s_or1 (PW.pt (s_tand (s_truth (s_isi (T := .lst) rfl (gl_by (by kernel_rfl)) T.n_isinstance (gl_by (by kernel_rfl)) T.n_list (by kernel_rfl) (s_var rfl (vis_by (by kernel_rfl)) (by kernel_rfl) (by kernel_rfl)) (by decide) (by kernel_rfl) rfl rfl rfl) rfl (fun _ => rfl)) (s_and1 (s_truth (s_isi (T := .lst) rfl (gl_by (by kernel_rfl)) T.n_isinstance (gl_by (by kernel_rfl)) T.n_list (by kernel_rfl) (s_var rfl (vis_by (by kernel_rfl)) (by kernel_rfl) (by kernel_rfl)) (by decide) (by kernel_rfl) rfl rfl rfl) rfl (fun _ => rfl)))))))) (s_sone (s_ret (s_and (s_cmp (o_eq rfl hr.units) (s_fnB (c_len rfl) (gl_by (by kernel_rfl)) T.n_len (by rfl) (s_acons (s_var rfl (vis_by (by kernel_rfl)) (by kernel_rfl) (by kernel_rfl)) s_anil rfl) (by decide) (by kernel_rfl) rfl rfl) (s_fnB (c_len rfl) (gl_by (by kernel_rfl)) T.n_len (by rfl) (s_acons (s_var rfl (vis_by (by kernel_rfl)) (by kernel_rfl) (by kernel_rfl)) s_anil rfl) (by decide) (by kernel_rfl) rfl rfl) rfl) (s_one (s_fnB (c_all rfl rfl) (gl_by (by kernel_rfl)) T.n_all (by rfl) (s_acons (s_comp (own := [("at", 2)]) rfl nd_lsame (s_irange1 (gl_by (by kernel_rfl)) T.n_range (s_acons (s_fnB (c_len rfl) (gl_by (by kernel_rfl)) T.n_len (by rfl) (s_acons (s_var rfl (vis_by (by kernel_rfl)) (by kernel_rfl) (by kernel_rfl)) s_anil rfl) (by decide) (by kernel_rfl) rfl rfl) s_anil rfl) rfl) (blkOk_by (by kernel_rfl)) (fun _ _ _ _ _ => (s_gnm (i := 2) nd_lsame rfl (loc_by (by kernel_rfl)) (by first | exact .inr rfl | exact .inl rfl) (fun l e => by cases e; decide))) (fun _ _ _ _ _ => s_ts0) (fun _ _ _ _ _ => (s_call ih hr LamX.takes0 (gl_by (by kernel_rfl)) T.d_lsame.g T.d_lsame.F.kp T.d_lsame.b (s_acons (s_idx rfl (s_var rfl (vis_by (by kernel_rfl)) (by kernel_rfl) (by kernel_rfl)) (s_var rfl (vis_by (by kernel_rfl)) (by kernel_rfl) (by kernel_rfl)) (fun _ _ => rfl)) (s_acons (s_idx rfl (s_var rfl (vis_by (by kernel_rfl)) (by kernel_rfl) (by kernel_rfl)) (s_var rfl (vis_by (by kernel_rfl)) (by kernel_rfl) (by kernel_rfl)) (fun _ _ => rfl)) s_anil rfl) rfl) (by kernel_rfl) rfl rfl)) (fun _ => rfl)) s_anil rfl) (by decide) (by kernel_rfl) rfl rfl)))))
  s_nil)
  (s_cons (s_if (PW.pt (s_tor (s_truth (s_isi (T := .tup) rfl (gl_by (by kernel_rfl)) T.n_isinstance (gl_by (by kernel_rfl)) T.n_tuple (by kernel_rfl) (s_var rfl (vis_by (by kernel_rfl)) (by kernel_rfl) (by kernel_rfl)) (by decide) (by kernel_rfl) rfl rfl rfl) rfl (fun _ => rfl)) (s_tor (s_truth (s_isi (T := .lst) rfl (gl_by (by kernel_rfl)) T.n_isinstance (gl_by (by kernel_rfl)) T.n_list (by kernel_rfl) (s_var rfl (vis_by (by kernel_rfl)) (by kernel_rfl) (by kernel_rfl)) (by decide) (by kernel_rfl) rfl rfl rfl) rfl (fun _ => rfl)) (s_or1 (s_tcmp (o_ne rfl hr.units) (s_isi (T := .bl) rfl (gl_by (by kernel_rfl)) T.n_isinstance (gl_by (by kernel_rfl)) T.n_bool (by kernel_rfl) (s_var rfl (vis_by (by kernel_rfl)) (by kernel_rfl) (by kernel_rfl)) (by decide) (by kernel_rfl) rfl rfl rfl) (s_isi (T := .bl) rfl (gl_by (by kernel_rfl)) T.n_isinstance (gl_by (by kernel_rfl)) T.n_bool (by kernel_rfl) (s_var rfl (vis_by (by kernel_rfl)) (by kernel_rfl) (by kernel_rfl)) (by decide) (by kernel_rfl) rfl rfl rfl) rfl))))) (s_sone (s_ret s_bl))
  s_nil)
  (s_cons (s_if (PW.pt (s_tor (s_tcmp (o_ne rfl hr.units) (s_isi (T := .int) rfl (gl_by (by kernel_rfl)) T.n_isinstance (gl_by (by kernel_rfl)) T.n_int (by kernel_rfl) (s_var rfl (vis_by (by kernel_rfl)) (by kernel_rfl) (by kernel_rfl)) (by decide) (by kernel_rfl) rfl rfl rfl) (s_isi (T := .int) rfl (gl_by (by kernel_rfl)) T.n_isinstance (gl_by (by kernel_rfl)) T.n_int (by kernel_rfl) (s_var rfl (vis_by (by kernel_rfl)) (by kernel_rfl) (by kernel_rfl)) (by decide) (by kernel_rfl) rfl rfl rfl) rfl) (s_or1 (s_tcmp (o_ne rfl hr.units) (s_isi (T := .str) rfl (gl_by (by kernel_rfl)) T.n_isinstance (gl_by (by kernel_rfl)) T.n_str (by kernel_rfl) (s_var rfl (vis_by (by kernel_rfl)) (by kernel_rfl) (by kernel_rfl)) (by decide) (by kernel_rfl) rfl rfl rfl) (s_isi (T := .str) rfl (gl_by (by kernel_rfl)) T.n_isinstance (gl_by (by kernel_rfl)) T.n_str (by kernel_rfl) (s_var rfl (vis_by (by kernel_rfl)) (by kernel_rfl) (by kernel_rfl)) (by decide) (by kernel_rfl) rfl rfl rfl) rfl)))) (s_sone (s_ret s_bl))
  s_nil)
  (s_sone (s_ret (s_ife (s_tcmp (o_is rfl) (s_var rfl (vis_by (by kernel_rfl)) (by kernel_rfl) (by kernel_rfl)) s_non rfl) (s_cmp (o_is rfl) (s_var rfl (vis_by (by kernel_rfl)) (by kernel_rfl) (by kernel_rfl)) s_non rfl) (s_cmp (o_eq rfl hr.units) (s_var rfl (vis_by (by kernel_rfl)) (by kernel_rfl) (by kernel_rfl)) (s_var rfl (vis_by (by kernel_rfl)) (by kernel_rfl) (by kernel_rfl)) rfl)))))))
theorem ok_lsame (T : Txt K mg) (hT : Tbs K mg base) : FnOk Pg w K mg base (L2.CX Pg w) 9 (He.ga K "_law_same") T.fd_lsame P_lsame (spOf (cfg K) (f_lsame 8)) := ok_lsame_n T hT 8
theorem ok_lread (T : Txt K mg) (hT : Tbs K mg base) : FnOk Pg w K mg base (L2.CX Pg w) 1 (He.ga K "_law_read") T.fd_lread P_lread (spOf (cfg K) f_lread) := by
  refine fn_ok T.d_lread.F sf_lread rfl rfl rfl fun cdv A outer s H E hcd hr => ?_
  exact (s_cons (s_asg (s_str (by kernel_rfl) (by kernel_rfl)) (s_gnm (i := 1) nd_lread rfl (loc_by (by kernel_rfl)) (by first | exact .inr rfl | exact .inl rfl) (fun _ e => nomatch e)) rfl rfl rfl)
  (s_cons (s_for (passes_of rfl) rfl (s_ival rfl (s_ife (s_tcmp (o_ne rfl hr.units) (s_var rfl (vis_by (by kernel_rfl)) (by kernel_rfl) (by kernel_rfl)) (s_str (by kernel_rfl) (by kernel_rfl)) rfl) (s_mth F.plainAttrs_str F.slot_str_split F.type_str_split (t_split rfl) (s_var rfl (vis_by (by kernel_rfl)) (by kernel_rfl) (by kernel_rfl)) (s_acons (s_str (by kernel_rfl) (by kernel_rfl)) s_anil rfl) rfl rfl rfl rfl rfl) (s_lst s_anil (alen_le alen_nil (by decide))))) (s_gnm (i := 2) nd_lread rfl (loc_by (by kernel_rfl)) (by first | exact .inr rfl | exact .inl rfl) (fun _ e => nomatch e))
  (s_cons (s_asg (s_slc rfl (s_var rfl (vis_by (by kernel_rfl)) (by kernel_rfl) (by kernel_rfl)) s_onone (s_osome (s_neg s_int))) (s_gnm (i := 3) nd_lread rfl (loc_by (by kernel_rfl)) (by first | exact .inr rfl | exact .inl rfl) (fun _ e => nomatch e)) rfl rfl rfl)
  (s_cons (s_if (PW.pt (s_tor (s_tcmp (o_eq rfl hr.units) (s_var rfl (vis_by (by kernel_rfl)) (by kernel_rfl) (by kernel_rfl)) (s_str (by kernel_rfl) (by kernel_rfl)) rfl) (s_tor (s_tcmp (o_nin rfl) (s_idx rfl (s_var rfl (vis_by (by kernel_rfl)) (by kernel_rfl) (by kernel_rfl)) (s_neg s_int) (fun _ _ => rfl)) (s_str (by kernel_rfl) (by kernel_rfl)) rfl) (s_or1 (s_tcmp (o_nin rfl) (s_var rfl (vis_by (by kernel_rfl)) (by kernel_rfl) (by kernel_rfl)) (s_comp (own := [("number", 4)]) rfl nd_lread (s_irange2 (gl_by (by kernel_rfl)) T.n_range (s_acons s_int (s_acons s_int s_anil rfl) rfl) rfl rfl) (blkOk_by (by kernel_rfl)) (fun _ _ _ _ _ => (s_gnm (i := 4) nd_lread rfl (loc_by (by kernel_rfl)) (by first | exact .inr rfl | exact .inl rfl) (fun l e => by cases e; decide))) (fun _ _ _ _ _ => s_ts0) (fun _ _ _ _ _ => (s_fnT (c_str rfl) (gl_by (by kernel_rfl)) T.n_str (by rfl) (s_acons (s_var rfl (vis_by (by kernel_rfl)) (by kernel_rfl) (by kernel_rfl)) s_anil rfl) (by decide) (by kernel_rfl) rfl rfl)) (fun _ => rfl)) rfl))))) (s_sone (s_ret (s_lst s_anil (alen_le alen_nil (by decide)))))
  s_nil)
  (s_cons (s_if (PW.pt (s_tand (s_tcmp (o_ne rfl hr.units) (s_var rfl (vis_by (by kernel_rfl)) (by kernel_rfl) (by kernel_rfl)) (s_str (by kernel_rfl) (by kernel_rfl)) rfl) (s_and1 (s_tcmp (o_eq rfl hr.units) (s_idx rfl (s_var rfl (vis_by (by kernel_rfl)) (by kernel_rfl) (by kernel_rfl)) (s_neg s_int) (fun _ _ => rfl)) (s_idx rfl (s_var rfl (vis_by (by kernel_rfl)) (by kernel_rfl) (by kernel_rfl)) (s_neg s_int) (fun _ _ => rfl)) rfl)))) (s_sone (s_ret (s_lst s_anil (alen_le alen_nil (by decide)))))
  s_nil)
  (s_sone (s_asg (s_bin (o_add rfl) (s_var rfl (vis_by (by kernel_rfl)) (by kernel_rfl) (by kernel_rfl)) (s_bin (o_mul rfl) (s_idx rfl (s_var rfl (vis_by (by kernel_rfl)) (by kernel_rfl) (by kernel_rfl)) (s_neg s_int) (fun _ _ => rfl)) (s_fnT (c_int rfl) (gl_by (by kernel_rfl)) T.n_int (by rfl) (s_acons (s_var rfl (vis_by (by kernel_rfl)) (by kernel_rfl) (by kernel_rfl)) s_anil rfl) (by decide) (by kernel_rfl) rfl rfl))) (s_gnm (i := 1) nd_lread rfl (loc_by (by kernel_rfl)) (by first | exact .inr rfl | exact .inl rfl) (fun _ e => nomatch e)) rfl rfl rfl))))) (fun _ => rfl))
  (s_sone (s_ret (s_ife (s_tcmp (o_le rfl) (s_fnB (c_len rfl) (gl_by (by kernel_rfl)) T.n_len (by rfl) (s_acons (s_var rfl (vis_by (by kernel_rfl)) (by kernel_rfl) (by kernel_rfl)) s_anil rfl) (by decide) (by kernel_rfl) rfl rfl) s_int rfl) (s_lst (s_acons (s_var rfl (vis_by (by kernel_rfl)) (by kernel_rfl) (by kernel_rfl)) s_anil rfl) (alen_le (alen_cons alen_nil) (by decide))) (s_lst s_anil (alen_le alen_nil (by decide))))))))
theorem ok_lis_right (T : Txt K mg) (hT : Tbs K mg base) : FnOk Pg w K mg base (L2.CX Pg w) 10 (He.ga K "_law_is_right") T.fd_lis_right P_lis_right (spOf (cfg K) f_lis_right) := by
  refine fn_ok T.d_lis_right.F sf_lis_right rfl rfl rfl fun cdv A outer s H E hcd hr => ?_
  exact (s_cons (s_asg (s_call (ok_llumps T hT) (hr.mono (by decide)) (takes_of rfl rfl rfl rfl) (gl_by (by kernel_rfl)) T.d_llumps.g T.d_llumps.F.kp T.d_llumps.b (s_acons (s_var rfl (vis_by (by kernel_rfl)) (by kernel_rfl) (by kernel_rfl)) s_anil rfl) (by kernel_rfl) rfl rfl) (s_gnm (i := 2) nd_lis_right rfl (loc_by (by kernel_rfl)) (by first | exact .inr rfl | exact .inl rfl) (fun _ e => nomatch e)) rfl rfl rfl)
  (s_cons (s_asg (s_ife (s_tcmp (o_ne rfl hr.units) (s_var rfl (vis_by (by kernel_rfl)) (by kernel_rfl) (by kernel_rfl)) (s_str (by kernel_rfl) (by kernel_rfl)) rfl) (s_mth F.plainAttrs_str F.slot_str_join F.type_str_join (t_join rfl) (s_str (by kernel_rfl) (by kernel_rfl)) (s_acons (s_comp (own := [("colour", 8), ("number", 9)]) rfl nd_lis_right (s_ival rfl (s_var rfl (vis_by (by kernel_rfl)) (by kernel_rfl) (by kernel_rfl))) (blkOk_by (by kernel_rfl)) (fun _ _ _ _ _ => (s_gtup rfl rfl (s_gscons (s_gnm (i := 8) nd_lis_right rfl (loc_by (by kernel_rfl)) (by first | exact .inr rfl | exact .inl rfl) (fun l e => by cases e; decide)) (s_gscons (s_gnm (i := 9) nd_lis_right rfl (loc_by (by kernel_rfl)) (by first | exact .inr rfl | exact .inl rfl) (fun l e => by cases e; decide)) s_gsnil rfl) rfl) rfl rfl)) (fun _ _ _ _ _ => s_ts0) (fun _ _ _ _ _ => (s_bin (o_add rfl) (s_fnT (c_str rfl) (gl_by (by kernel_rfl)) T.n_str (by rfl) (s_acons (s_var rfl (vis_by (by kernel_rfl)) (by kernel_rfl) (by kernel_rfl)) s_anil rfl) (by decide) (by kernel_rfl) rfl rfl) (s_var rfl (vis_by (by kernel_rfl)) (by kernel_rfl) (by kernel_rfl)))) (fun _ => rfl)) s_anil rfl) rfl rfl rfl rfl rfl) (s_str (by kernel_rfl) (by kernel_rfl))) (s_gnm (i := 3) nd_lis_right rfl (loc_by (by kernel_rfl)) (by first | exact .inr rfl | exact .inl rfl) (fun _ e => nomatch e)) rfl rfl rfl)
  (s_cons (s_asg (s_lst (s_acons (s_call (ok_lumps_text T hT) (hr.mono (by decide)) (takes_of rfl rfl rfl rfl) (gl_by (by kernel_rfl)) T.d_lumps_text.g T.d_lumps_text.F.kp T.d_lumps_text.b (s_acons (s_var rfl (vis_by (by kernel_rfl)) (by kernel_rfl) (by kernel_rfl)) s_anil rfl) (by kernel_rfl) rfl rfl) (s_acons (s_callK (pm := [0]) (ks := ["row"]) (ok_lumps_text T hT) (hr.mono (by decide)) (takes_of rfl rfl rfl rfl) (gl_by (by kernel_rfl)) T.d_lumps_text.g T.d_lumps_text.F.kp (kwTo_of T.d_lumps_text.F (fun _ _ _ _ _ _ ws hl => match ws, hl with | [_], _ => (by kernel_rfl))) rfl (s_kcons (s_var rfl (vis_by (by kernel_rfl)) (by kernel_rfl) (by kernel_rfl)) s_knil) (by kernel_rfl) rfl rfl rfl (alen_cons alen_nil)) (s_acons (s_call (ok_read_lumps T hT) (hr.mono (by decide)) (takes_of rfl rfl rfl rfl) (gl_by (by kernel_rfl)) T.d_read_lumps.g T.d_read_lumps.F.kp T.d_read_lumps.b (s_acons (s_var rfl (vis_by (by kernel_rfl)) (by kernel_rfl) (by kernel_rfl)) s_anil rfl) (by kernel_rfl) rfl rfl) (s_acons (s_callK (pm := [0]) (ks := ["text"]) (ok_read_lumps T hT) (hr.mono (by decide)) (takes_of rfl rfl rfl rfl) (gl_by (by kernel_rfl)) T.d_read_lumps.g T.d_read_lumps.F.kp (kwTo_of T.d_read_lumps.F (fun _ _ _ _ _ _ ws hl => match ws, hl with | [_], _ => (by kernel_rfl))) rfl (s_kcons (s_var rfl (vis_by (by kernel_rfl)) (by kernel_rfl) (by kernel_rfl)) s_knil) (by kernel_rfl) rfl rfl rfl (alen_cons alen_nil)) (s_acons (s_call (ok_lumps T hT) (hr.mono (by decide)) (takes_of rfl rfl rfl rfl) (gl_by (by kernel_rfl)) T.d_lumps.g T.d_lumps.F.kp T.d_lumps.b (s_acons (s_var rfl (vis_by (by kernel_rfl)) (by kernel_rfl) (by kernel_rfl)) s_anil rfl) (by kernel_rfl) rfl rfl) s_anil rfl) rfl) rfl) rfl) rfl) (alen_le (alen_cons (alen_cons (alen_cons (alen_cons (alen_cons alen_nil))))) (by decide))) (s_gnm (i := 4) nd_lis_right rfl (loc_by (by kernel_rfl)) (by first | exact .inr rfl | exact .inl rfl) (fun _ e => nomatch e)) rfl rfl rfl)
  (s_cons (s_if (PW.pt (s_tor (s_tnot (s_truth (s_call (ok_lsame T hT) (hr.mono (by decide)) (takes_of rfl rfl rfl rfl) (gl_by (by kernel_rfl)) T.d_lsame.g T.d_lsame.F.kp T.d_lsame.b (s_acons (s_var rfl (vis_by (by kernel_rfl)) (by kernel_rfl) (by kernel_rfl)) (s_acons (s_lst (s_acons (s_var rfl (vis_by (by kernel_rfl)) (by kernel_rfl) (by kernel_rfl)) (s_acons (s_var rfl (vis_by (by kernel_rfl)) (by kernel_rfl) (by kernel_rfl)) (s_acons (s_var rfl (vis_by (by kernel_rfl)) (by kernel_rfl) (by kernel_rfl)) (s_acons (s_var rfl (vis_by (by kernel_rfl)) (by kernel_rfl) (by kernel_rfl)) (s_acons (s_fnT (c_tuple rfl) (gl_by (by kernel_rfl)) T.n_tuple (by rfl) (s_acons (s_var rfl (vis_by (by kernel_rfl)) (by kernel_rfl) (by kernel_rfl)) s_anil rfl) (by decide) (by kernel_rfl) rfl rfl) s_anil rfl) rfl) rfl) rfl) rfl) (alen_le (alen_cons (alen_cons (alen_cons (alen_cons (alen_cons alen_nil))))) (by decide))) s_anil rfl) rfl) (by kernel_rfl) rfl rfl) rfl (fun _ => rfl))) (s_or1 (s_tcmp (o_ne rfl hr.units) (s_call (ok_lread T hT) (hr.mono (by decide)) (takes_of rfl rfl rfl rfl) (gl_by (by kernel_rfl)) T.d_lread.g T.d_lread.F.kp T.d_lread.b (s_acons (s_var rfl (vis_by (by kernel_rfl)) (by kernel_rfl) (by kernel_rfl)) s_anil rfl) (by kernel_rfl) rfl rfl) (s_lst (s_acons (s_var rfl (vis_by (by kernel_rfl)) (by kernel_rfl) (by kernel_rfl)) s_anil rfl) (alen_le (alen_cons alen_nil) (by decide))) rfl)))) (s_sone (s_ret s_bl))
  s_nil)
  (s_cons (s_for (passes_of rfl) rfl (s_irange1 (gl_by (by kernel_rfl)) T.n_range (s_acons s_int s_anil rfl) rfl) (s_gnm (i := 5) nd_lis_right rfl (loc_by (by kernel_rfl)) (by first | exact .inr rfl | exact .inl rfl) (fun _ e => nomatch e))
  (s_cons (s_asg (s_call (ok_lbent T hT) (hr.mono (by decide)) (takes_of rfl rfl rfl rfl) (gl_by (by kernel_rfl)) T.d_lbent.g T.d_lbent.F.kp T.d_lbent.b (s_acons (s_var rfl (vis_by (by kernel_rfl)) (by kernel_rfl) (by kernel_rfl)) (s_acons (s_var rfl (vis_by (by kernel_rfl)) (by kernel_rfl) (by kernel_rfl)) s_anil rfl) rfl) (by kernel_rfl) rfl rfl) (s_gnm (i := 6) nd_lis_right rfl (loc_by (by kernel_rfl)) (by first | exact .inr rfl | exact .inl rfl) (fun _ e => nomatch e)) rfl rfl rfl)
  (s_cons (s_asg (s_ife (s_truth (s_isi (T := .str) rfl (gl_by (by kernel_rfl)) T.n_isinstance (gl_by (by kernel_rfl)) T.n_str (by kernel_rfl) (s_var rfl (vis_by (by kernel_rfl)) (by kernel_rfl) (by kernel_rfl)) (by decide) (by kernel_rfl) rfl rfl rfl) rfl (fun _ => rfl)) (s_call (ok_lread T hT) (hr.mono (by decide)) (takes_of rfl rfl rfl rfl) (gl_by (by kernel_rfl)) T.d_lread.g T.d_lread.F.kp T.d_lread.b (s_acons (s_var rfl (vis_by (by kernel_rfl)) (by kernel_rfl) (by kernel_rfl)) s_anil rfl) (by kernel_rfl) rfl rfl) (s_lst s_anil (alen_le alen_nil (by decide)))) (s_gnm (i := 7) nd_lis_right rfl (loc_by (by kernel_rfl)) (by first | exact .inr rfl | exact .inl rfl) (fun _ e => nomatch e)) rfl rfl rfl)
  (s_sone (s_if (s_tnot (s_truth (s_call (ok_lsame T hT) (hr.mono (by decide)) (takes_of rfl rfl rfl rfl) (gl_by (by kernel_rfl)) T.d_lsame.g T.d_lsame.F.kp T.d_lsame.b (s_acons (s_lam (k := 5) (Ng := N_lheard) (hears_told (y := "InvalidText") (fl := "given") (told := [116, 111, 108, 100]) (tag := [116, 101, 120, 116]) rfl (by kernel_rfl) (lowB_ok (by kernel_rfl)) (lowB_ok (by kernel_rfl))) (gl_by (by kernel_rfl)) T.d_lheard.g T.d_lheard.F T.d_lheard.b sf_lheard rfl (vis_by (by kernel_rfl)) (fun _ => (gives_told (Ng := N_lheard) T.e_InvalidText (by kernel_rfl) (by kernel_rfl) T.x_InvalidText_InvalidText rfl nd_lheard (fun _ => (by kernel_rfl)) (vis_by (by kernel_rfl)) (by kernel_rfl) (by kernel_rfl) (fun _ => rfl) (fun _ => rfl) (fun _ => rfl) (fun _ => rfl) (fun _ => rfl))) (hT "_law_is_right" (by decide)) (code_of T.d_lis_right.F hcd) (List.mem_map.mpr ⟨"_law_is_right", by decide, (by kernel_rfl)⟩) (fun p hp e => (tab_one T (f := "_law_is_right") (by decide) p hp e).trans (by kernel_rfl)) (hr.mono (by decide)) (LamX.lamS_by (by kernel_rfl)) rfl (fun _ _ _ _ _ => rfl) (fun _ _ _ _ _ _ _ hr => (s_call (ok_read_lumps T hT) (hr.mono (by decide)) (takes_of rfl rfl rfl rfl) (gl_by (by kernel_rfl)) T.d_read_lumps.g T.d_read_lumps.F.kp T.d_read_lumps.b (s_acons (s_var rfl (vis_by (by kernel_rfl)) (by kernel_rfl) (by kernel_rfl)) s_anil rfl) (by kernel_rfl) rfl rfl)) (by kernel_rfl) (by kernel_rfl) (by kernel_rfl)) (s_acons (s_ife (s_tcmp (o_ne rfl hr.units) (s_var rfl (vis_by (by kernel_rfl)) (by kernel_rfl) (by kernel_rfl)) (s_lst s_anil (alen_le alen_nil (by decide))) rfl) (s_lst (s_acons (s_str (by kernel_rfl) (by kernel_rfl)) (s_acons (s_idx rfl (s_var rfl (vis_by (by kernel_rfl)) (by kernel_rfl) (by kernel_rfl)) s_int (fun _ _ => rfl)) s_anil rfl) rfl) (alen_le (alen_cons (alen_cons alen_nil)) (by decide))) (s_lst (s_acons (s_str (by kernel_rfl) (by kernel_rfl)) (s_acons (s_var rfl (vis_by (by kernel_rfl)) (by kernel_rfl) (by kernel_rfl)) s_anil rfl) rfl) (alen_le (alen_cons (alen_cons alen_nil)) (by decide)))) s_anil rfl) rfl) (by kernel_rfl) rfl rfl) rfl (fun _ => rfl))) (s_sone (s_ret s_bl))
  s_nil)))) (fun _ => rfl))
  (s_sone (s_ret s_bl)))))))
theorem ok_lrow (T : Txt K mg) (hT : Tbs K mg base) : FnOk Pg w K mg base (L2.CX Pg w) 3 (He.ga K "_law_row") T.fd_lrow P_lrow (spOf (cfg K) f_lrow) := by
  refine fn_ok T.d_lrow.F sf_lrow rfl rfl rfl fun cdv A outer s H E hcd hr => ?_
  exact (s_cons (s_par3 (i := 4) (j := 5) (l := 6) rfl nd_lrow rfl rfl rfl (by decide) (by decide) (by decide) (by kernel_rfl) (by kernel_rfl) (by kernel_rfl) (s_acons (s_call (ok_lpick T hT) (hr.mono (by decide)) (takes_of rfl rfl rfl rfl) (gl_by (by kernel_rfl)) T.d_lpick.g T.d_lpick.F.kp T.d_lpick.b (s_acons (s_var rfl (vis_by (by kernel_rfl)) (by kernel_rfl) (by kernel_rfl)) (s_acons (s_tup (s_acons s_int (s_acons s_int (s_acons s_int (s_acons s_int (s_acons s_int (s_acons s_int (s_acons s_int s_anil rfl) rfl) rfl) rfl) rfl) rfl) rfl) (alen_le (alen_cons (alen_cons (alen_cons (alen_cons (alen_cons (alen_cons (alen_cons alen_nil))))))) (by decide))) s_anil rfl) rfl) (by kernel_rfl) rfl rfl) (s_acons (s_call (ok_ldraw T hT) (hr.mono (by decide)) (takes_of rfl rfl rfl rfl) (gl_by (by kernel_rfl)) T.d_ldraw.g T.d_ldraw.F.kp T.d_ldraw.b (s_acons (s_var rfl (vis_by (by kernel_rfl)) (by kernel_rfl) (by kernel_rfl)) (s_acons s_int s_anil rfl) rfl) (by kernel_rfl) rfl rfl) (s_acons (s_str (by kernel_rfl) (by kernel_rfl)) s_anil rfl) rfl) rfl) rfl rfl)
  (s_cons (s_for (passes_of rfl) rfl (s_irange1 (gl_by (by kernel_rfl)) T.n_range (s_acons (s_call (ok_ldraw T hT) (hr.mono (by decide)) (takes_of rfl rfl rfl rfl) (gl_by (by kernel_rfl)) T.d_ldraw.g T.d_ldraw.F.kp T.d_ldraw.b (s_acons (s_var rfl (vis_by (by kernel_rfl)) (by kernel_rfl) (by kernel_rfl)) (s_acons (s_bin (o_add rfl) (s_var rfl (vis_by (by kernel_rfl)) (by kernel_rfl) (by kernel_rfl)) s_int) s_anil rfl) rfl) (by kernel_rfl) rfl rfl) s_anil rfl) rfl) (s_gnm (i := 2) nd_lrow rfl (loc_by (by kernel_rfl)) (by first | exact .inr rfl | exact .inl rfl) (fun _ e => nomatch e))
  (s_sone (s_asg (s_bin (o_add rfl) (s_var rfl (vis_by (by kernel_rfl)) (by kernel_rfl) (by kernel_rfl)) (s_ife (PW.pt (s_tand (s_tcmp (o_eq rfl hr.units) (s_var rfl (vis_by (by kernel_rfl)) (by kernel_rfl) (by kernel_rfl)) s_int rfl) (s_tand (s_tcmp (o_ne rfl hr.units) (s_var rfl (vis_by (by kernel_rfl)) (by kernel_rfl) (by kernel_rfl)) (s_str (by kernel_rfl) (by kernel_rfl)) rfl) (s_and1 (s_tcmp (o_eq rfl hr.units) (s_call (ok_ldraw T hT) (hr.mono (by decide)) (takes_of rfl rfl rfl rfl) (gl_by (by kernel_rfl)) T.d_ldraw.g T.d_ldraw.F.kp T.d_ldraw.b (s_acons (s_var rfl (vis_by (by kernel_rfl)) (by kernel_rfl) (by kernel_rfl)) (s_acons s_int s_anil rfl) rfl) (by kernel_rfl) rfl rfl) s_int rfl))))) (s_idx rfl (s_var rfl (vis_by (by kernel_rfl)) (by kernel_rfl) (by kernel_rfl)) (s_neg s_int) (fun _ _ => rfl)) (s_call (ok_lpick T hT) (hr.mono (by decide)) (takes_of rfl rfl rfl rfl) (gl_by (by kernel_rfl)) T.d_lpick.g T.d_lpick.F.kp T.d_lpick.b (s_acons (s_var rfl (vis_by (by kernel_rfl)) (by kernel_rfl) (by kernel_rfl)) (s_acons (s_slc rfl (s_str (by kernel_rfl) (by kernel_rfl)) s_onone (s_osome (s_var rfl (vis_by (by kernel_rfl)) (by kernel_rfl) (by kernel_rfl)))) s_anil rfl) rfl) (by kernel_rfl) rfl rfl))) (s_gnm (i := 6) nd_lrow rfl (loc_by (by kernel_rfl)) (by first | exact .inr rfl | exact .inl rfl) (fun _ e => nomatch e)) rfl rfl rfl)) (fun _ => rfl))
  (s_cons (s_asg (s_slc rfl (s_var rfl (vis_by (by kernel_rfl)) (by kernel_rfl) (by kernel_rfl)) s_onone (s_osome (s_bin (o_add rfl) s_int (s_call (ok_ldraw T hT) (hr.mono (by decide)) (takes_of rfl rfl rfl rfl) (gl_by (by kernel_rfl)) T.d_ldraw.g T.d_ldraw.F.kp T.d_ldraw.b (s_acons (s_var rfl (vis_by (by kernel_rfl)) (by kernel_rfl) (by kernel_rfl)) (s_acons s_int s_anil rfl) rfl) (by kernel_rfl) rfl rfl)))) (s_gnm (i := 3) nd_lrow rfl (loc_by (by kernel_rfl)) (by first | exact .inr rfl | exact .inl rfl) (fun _ e => nomatch e)) rfl rfl rfl)
  (s_sone (s_ret (s_ife (s_tcmp (o_eq rfl hr.units) (s_var rfl (vis_by (by kernel_rfl)) (by kernel_rfl) (by kernel_rfl)) s_int rfl) (s_slc rfl (s_bin (o_mul rfl) (s_var rfl (vis_by (by kernel_rfl)) (by kernel_rfl) (by kernel_rfl)) s_int) s_onone (s_osome (s_fnB (c_len rfl) (gl_by (by kernel_rfl)) T.n_len (by rfl) (s_acons (s_var rfl (vis_by (by kernel_rfl)) (by kernel_rfl) (by kernel_rfl)) s_anil rfl) (by decide) (by kernel_rfl) rfl rfl))) (s_var rfl (vis_by (by kernel_rfl)) (by kernel_rfl) (by kernel_rfl))))))))
theorem ok_lright (T : Txt K mg) (hT : Tbs K mg base) : FnOk Pg w K mg base (L2.CX Pg w) 11 (He.ga K "_law_right") T.fd_lright P_lright (spOf (cfg K) f_lright) := by
  refine fn_ok T.d_lright.F sf_lright rfl rfl rfl fun cdv A outer s H E hcd hr => ?_
  exact (s_cons (s_for (passes_of rfl) rfl (s_irange1 (gl_by (by kernel_rfl)) T.n_range (s_acons s_int s_anil rfl) rfl) (s_gnm (i := 1) nd_lright rfl (loc_by (by kernel_rfl)) (by first | exact .inr rfl | exact .inl rfl) (fun _ e => nomatch e))
  (s_sone (s_if (s_tnot (s_truth (s_call (ok_lis_right T hT) (hr.mono (by decide)) (takes_of rfl rfl rfl rfl) (gl_by (by kernel_rfl)) T.d_lis_right.g T.d_lis_right.F.kp T.d_lis_right.b (s_acons (s_var rfl (vis_by (by kernel_rfl)) (by kernel_rfl) (by kernel_rfl)) (s_acons (s_call (ok_lrow T hT) (hr.mono (by decide)) (takes_of rfl rfl rfl rfl) (gl_by (by kernel_rfl)) T.d_lrow.g T.d_lrow.F.kp T.d_lrow.b (s_acons (s_var rfl (vis_by (by kernel_rfl)) (by kernel_rfl) (by kernel_rfl)) (s_acons s_int s_anil rfl) rfl) (by kernel_rfl) rfl rfl) s_anil rfl) rfl) (by kernel_rfl) rfl rfl) rfl (fun _ => rfl))) (s_sone (s_ret s_bl))
  s_nil)) (fun _ => rfl))
  (s_sone (s_ret s_bl)))
theorem ok_lnamed_rows (T : Txt K mg) (hT : Tbs K mg base) : FnOk Pg w K mg base (L2.CX Pg w) 1 (He.ga K "_law_named_rows") T.fd_lnamed_rows P_lnamed_rows (spOf (cfg K) f_lnamed_rows) := by
  refine fn_ok T.d_lnamed_rows.F sf_lnamed_rows rfl rfl rfl fun cdv A outer s H E hcd hr => ?_
  exact (s_cons (s_asg (s_lst (s_acons (s_str (by kernel_rfl) (by kernel_rfl)) s_anil rfl) (alen_le (alen_cons alen_nil) (by decide))) (s_gnm (i := 1) nd_lnamed_rows rfl (loc_by (by kernel_rfl)) (by first | exact .inr rfl | exact .inl rfl) (fun _ e => nomatch e)) rfl rfl rfl)
  (s_cons (s_for (passes_of rfl) rfl (s_irange1 (gl_by (by kernel_rfl)) T.n_range (s_acons (s_var rfl (vis_by (by kernel_rfl)) (by kernel_rfl) (by kernel_rfl)) s_anil rfl) rfl) (s_gnm (i := 2) nd_lnamed_rows rfl (loc_by (by kernel_rfl)) (by first | exact .inr rfl | exact .inl rfl) (fun _ e => nomatch e))
  (s_cons (s_asg (s_lst s_anil (alen_le alen_nil (by decide))) (s_gnm (i := 3) nd_lnamed_rows rfl (loc_by (by kernel_rfl)) (by first | exact .inr rfl | exact .inl rfl) (fun _ e => nomatch e)) rfl rfl rfl)
  (s_cons (s_for (passes_of rfl) rfl (s_ival rfl (s_var rfl (vis_by (by kernel_rfl)) (by kernel_rfl) (by kernel_rfl))) (s_gnm (i := 4) nd_lnamed_rows rfl (loc_by (by kernel_rfl)) (by first | exact .inr rfl | exact .inl rfl) (fun _ e => nomatch e))
  (s_sone (s_asg (s_bin (o_add rfl) (s_var rfl (vis_by (by kernel_rfl)) (by kernel_rfl) (by kernel_rfl)) (s_comp (own := [("colour", 5)]) rfl nd_lnamed_rows (s_ival rfl (s_slc rfl (s_str (by kernel_rfl) (by kernel_rfl)) s_onone (s_osome (s_bin (o_add rfl) (s_lenSet rfl rfl (gl_by (by kernel_rfl)) T.n_len (gl_by (by kernel_rfl)) T.n_set (s_var rfl (vis_by (by kernel_rfl)) (by kernel_rfl) (by kernel_rfl)) rfl) s_int)))) (blkOk_by (by kernel_rfl)) (fun _ _ _ _ _ => (s_gnm (i := 5) nd_lnamed_rows rfl (loc_by (by kernel_rfl)) (by first | exact .inr rfl | exact .inl rfl) (fun l e => by cases e; decide))) (fun _ _ _ _ _ => s_ts0) (fun _ _ _ _ _ => (s_bin (o_add rfl) (s_var rfl (vis_by (by kernel_rfl)) (by kernel_rfl) (by kernel_rfl)) (s_var rfl (vis_by (by kernel_rfl)) (by kernel_rfl) (by kernel_rfl)))) (fun _ => rfl))) (s_gnm (i := 3) nd_lnamed_rows rfl (loc_by (by kernel_rfl)) (by first | exact .inr rfl | exact .inl rfl) (fun _ e => nomatch e)) rfl rfl rfl)) (fun _ => rfl))
  (s_sone (s_asg (s_var rfl (vis_by (by kernel_rfl)) (by kernel_rfl) (by kernel_rfl)) (s_gnm (i := 1) nd_lnamed_rows rfl (loc_by (by kernel_rfl)) (by first | exact .inr rfl | exact .inl rfl) (fun _ e => nomatch e)) rfl rfl rfl)))) (fun _ => rfl))
  (s_sone (s_ret (s_var rfl (vis_by (by kernel_rfl)) (by kernel_rfl) (by kernel_rfl))))))
theorem ok_law (T : Txt K mg) (hT : Tbs K mg base) : FnOk Pg w K mg base (L2.CX Pg w) 12 (He.ga K "law") T.fd_law P_law (spOf (cfg K) f_law) := by
  refine fn_ok T.d_law.F sf_law rfl rfl rfl fun cdv A outer s H E hcd hr => ?_
  exact (s_cons (s_asg (s_call (ok_lpot T hT) (hr.mono (by decide)) (takes_of rfl rfl rfl rfl) (gl_by (by kernel_rfl)) T.d_lpot.g T.d_lpot.F.kp T.d_lpot.b (s_acons (s_var rfl (vis_by (by kernel_rfl)) (by kernel_rfl) (by kernel_rfl)) (s_acons s_int s_anil rfl) rfl) (by kernel_rfl) rfl rfl) (s_gnm (i := 1) nd_law rfl (loc_by (by kernel_rfl)) (by first | exact .inr rfl | exact .inl rfl) (fun _ e => nomatch e)) rfl rfl rfl)
  (s_cons (s_for (passes_of rfl) rfl (s_irange1 (gl_by (by kernel_rfl)) T.n_range (s_acons s_int s_anil rfl) rfl) (s_gnm (i := 2) nd_law rfl (loc_by (by kernel_rfl)) (by first | exact .inr rfl | exact .inl rfl) (fun _ e => nomatch e))
  (s_sone (s_if (s_tnot (s_truth (s_fnB (c_all rfl rfl) (gl_by (by kernel_rfl)) T.n_all (by rfl) (s_acons (s_comp (own := [("row", 4)]) rfl nd_law (s_ival rfl (s_call (ok_lnamed_rows T hT) (hr.mono (by decide)) (takes_of rfl rfl rfl rfl) (gl_by (by kernel_rfl)) T.d_lnamed_rows.g T.d_lnamed_rows.F.kp T.d_lnamed_rows.b (s_acons (s_var rfl (vis_by (by kernel_rfl)) (by kernel_rfl) (by kernel_rfl)) s_anil rfl) (by kernel_rfl) rfl rfl)) (blkOk_by (by kernel_rfl)) (fun _ _ _ _ _ => (s_gnm (i := 4) nd_law rfl (loc_by (by kernel_rfl)) (by first | exact .inr rfl | exact .inl rfl) (fun l e => by cases e; decide))) (fun _ _ _ _ _ => s_ts0) (fun _ _ _ _ _ => (s_call (ok_lis_right T hT) (hr.mono (by decide)) LamX.takes0 (gl_by (by kernel_rfl)) T.d_lis_right.g T.d_lis_right.F.kp T.d_lis_right.b (s_acons (s_var rfl (vis_by (by kernel_rfl)) (by kernel_rfl) (by kernel_rfl)) (s_acons (s_var rfl (vis_by (by kernel_rfl)) (by kernel_rfl) (by kernel_rfl)) s_anil rfl) rfl) (by kernel_rfl) rfl rfl)) (fun _ => rfl)) s_anil rfl) (by decide) (by kernel_rfl) rfl rfl) rfl (fun _ => rfl))) (s_sone (s_ret s_bl))
  s_nil)) (fun _ => rfl))
  (s_sone (s_ret (s_fnB (c_all rfl rfl) (gl_by (by kernel_rfl)) T.n_all (by rfl) (s_acons (s_comp (own := [("turn", 3)]) rfl nd_law (s_irange1 (gl_by (by kernel_rfl)) T.n_range (s_acons (s_fnB (c_max rfl rfl) (gl_by (by kernel_rfl)) T.n_max (by rfl) (s_acons s_int (s_acons (s_fnB (c_min rfl rfl) (gl_by (by kernel_rfl)) T.n_min (by rfl) (s_acons (s_fnB (c_len rfl) (gl_by (by kernel_rfl)) T.n_len (by rfl) (s_acons (s_var rfl (vis_by (by kernel_rfl)) (by kernel_rfl) (by kernel_rfl)) s_anil rfl) (by decide) (by kernel_rfl) rfl rfl) (s_acons s_int s_anil rfl) rfl) (by decide) (by kernel_rfl) rfl rfl) s_anil rfl) rfl) (by decide) (by kernel_rfl) rfl rfl) s_anil rfl) rfl) (blkOk_by (by kernel_rfl)) (fun _ _ _ _ _ => (s_gnm (i := 3) nd_law rfl (loc_by (by kernel_rfl)) (by first | exact .inr rfl | exact .inl rfl) (fun l e => by cases e; decide))) (fun _ _ _ _ _ => s_ts0) (fun _ _ _ _ _ => (s_call (ok_lright T hT) (hr.mono (by decide)) LamX.takes0 (gl_by (by kernel_rfl)) T.d_lright.g T.d_lright.F.kp T.d_lright.b (s_acons (s_call (ok_lpot T hT) (hr.mono (by decide)) LamX.takes0 (gl_by (by kernel_rfl)) T.d_lpot.g T.d_lpot.F.kp T.d_lpot.b (s_acons (s_var rfl (vis_by (by kernel_rfl)) (by kernel_rfl) (by kernel_rfl)) (s_acons (s_var rfl (vis_by (by kernel_rfl)) (by kernel_rfl) (by kernel_rfl)) s_anil rfl) rfl) (by kernel_rfl) rfl rfl) s_anil rfl) (by kernel_rfl) rfl rfl)) (fun _ => rfl)) s_anil rfl) (by decide) (by kernel_rfl) rfl rfl)))))
def mth (i j : Nat) : Stmt := match top i with
  | .ClassDef _ _ _ b _ _ _ _ _ _ _ => b.getD j (.Pass ⟨0, 0, 0, 0⟩)
  | s => s
def fn : List He.DefD := [⟨("_law_pot", none), "_law_pot", "_law_pot", defArgs (top 29), defBody (top 29), sc_lpot, [], []⟩,
  ⟨("_law_lumps", none), "_law_lumps", "_law_lumps", defArgs (top 35), defBody (top 35), sc_llumps, [], []⟩,
  ⟨("is_text_of", none), "is_text_of", "is_text_of", defArgs (top 1), defBody (top 1), sc_is_text_of, [], []⟩,
  ⟨("is_rowed", none), "is_rowed", "is_rowed", defArgs (top 5), defBody (top 5), sc_is_rowed, [], []⟩,
  ⟨("check_row", none), "check_row", "check_row", defArgs (top 13), defBody (top 13), sc_check_row, [], []⟩,
  ⟨("lumps_of", none), "lumps_of", "lumps_of", defArgs (top 7), defBody (top 7), sc_lumps_of, [], []⟩,
  ⟨("text_of_lumps", none), "text_of_lumps", "text_of_lumps", defArgs (top 19), defBody (top 19), sc_text_of_lumps, [], []⟩,
  ⟨("lumps_text", none), "lumps_text", "lumps_text", defArgs (top 24), defBody (top 24), sc_lumps_text, [], []⟩,
  ⟨("count_told", none), "count_told", "count_told", defArgs (top 18), defBody (top 18), sc_count_told, [], []⟩,
  ⟨("lump_told", none), "lump_told", "lump_told", defArgs (top 20), defBody (top 20), sc_lump_told, [], []⟩,
  ⟨("row_of_lumps", none), "row_of_lumps", "row_of_lumps", defArgs (top 21), defBody (top 21), sc_row_of_lumps, [], []⟩,
  ⟨("check_told", none), "check_told", "check_told", defArgs (top 23), defBody (top 23), sc_check_told, [], []⟩,
  ⟨("read_lumps", none), "read_lumps", "read_lumps", defArgs (top 25), defBody (top 25), sc_read_lumps, [], []⟩,
  ⟨("lumps", none), "lumps", "lumps", defArgs (top 27), defBody (top 27), sc_lumps, [], []⟩,
  ⟨("_law_draw", none), "_law_draw", "_law_draw", defArgs (top 30), defBody (top 30), sc_ldraw, [], []⟩,
  ⟨("_law_pick", none), "_law_pick", "_law_pick", defArgs (top 31), defBody (top 31), sc_lpick, [], []⟩,
  ⟨("_law_bent", none), "_law_bent", "_law_bent", defArgs (top 38), defBody (top 38), sc_lbent, [], []⟩,
  ⟨("_law_same", none), "_law_same", "_law_same", defArgs (top 32), defBody (top 32), sc_lsame, [], []⟩,
  ⟨("_law_read", none), "_law_read", "_law_read", defArgs (top 37), defBody (top 37), sc_lread, [], []⟩,
  ⟨("_law_heard", none), "_law_heard", "_law_heard", defArgs (top 36), defBody (top 36), sc_lheard, [], []⟩,
  ⟨("_law_is_right", none), "_law_is_right", "_law_is_right", defArgs (top 39), defBody (top 39), sc_lis_right, [], []⟩,
  ⟨("_law_row", none), "_law_row", "_law_row", defArgs (top 33), defBody (top 33), sc_lrow, [], []⟩,
  ⟨("_law_right", none), "_law_right", "_law_right", defArgs (top 40), defBody (top 40), sc_lright, [], []⟩,
  ⟨("_law_named_rows", none), "_law_named_rows", "_law_named_rows", defArgs (top 34), defBody (top 34), sc_lnamed_rows, [], []⟩,
  ⟨("law", none), "law", "law", defArgs (top 41), defBody (top 41), sc_law, [], []⟩,
  ⟨("InvalidRow", some "__init__"), "__init__", "InvalidRow.__init__", defArgs (mth 10 0), defBody (mth 10 0), ZX.iS "given", [], []⟩,
  ⟨("InvalidText", some "__init__"), "__init__", "InvalidText.__init__", defArgs (mth 11 0), defBody (mth 11 0), ZX.iS "given", [], []⟩]
def fa : List He.Fa := [.glo "_law_pot", .glo "_law_lumps", .glo "is_text_of", .glo "is_rowed", .glo "check_row", .glo "lumps_of", .glo "text_of_lumps", .glo "lumps_text", .glo "count_told", .glo "lump_told", .glo "row_of_lumps", .glo "check_told", .glo "read_lumps", .glo "lumps", .glo "_law_draw", .glo "_law_pick", .glo "_law_bent", .glo "_law_same", .glo "_law_read", .glo "_law_heard", .glo "_law_is_right", .glo "_law_row", .glo "_law_right", .glo "_law_named_rows", .glo "law", .glo "InvalidRow", .glo "InvalidText", .free "abs", .free "all", .free "bool", .free "divmod", .free "int", .free "isinstance", .free "len", .free "list", .free "max", .free "min", .free "range", .free "set", .free "str", .free "sum", .free "tuple", .str "COLOURS" (mkS [97, 98, 99, 100, 101, 102]), .int "MOST_SOCKS" 12, .str "BLANK" (mkS [32]), .str "NONE_TEXT" (mkS [110, 111, 110, 101]), .str "DIGITS" (mkS [48, 49, 50, 51, 52, 53, 54, 55, 56, 57]), .exm "InvalidText" "InvalidText" true]
def tf : List He.Defn := lamDefs.map fun f => (f, none)
def oneB (K : PySem.W.Frag) : Bool := lamDefs.all fun f => lamDefs.all fun g => decide (g = f) || !decide ((He.cT K (g, none)).2 = (He.cT K (f, none)).2)
def ex (K : PySem.W.Frag) : Bool := errB K "InvalidRow" "given" && (errB K "InvalidText" "given" && (oneB K))
abbrev R : PySem.W.OpenRow := PySem.W.OpenLaw.row PySem.Challenge.rw_sockrows_k75_whole_texts_of_lumps
abbrev hk : PySem.W.Hook := He.hookX 6 fa fn [] tf ex
def ob (s : PySem.W.SharedT) : He.AlX := He.obsX 6 fa fn [] tf ex (HandSHeadRun.getT s)
theorem ob_eq (s : PySem.W.SharedT) : ob s = hk.obs s.abs := He.obsX_eq (HandSHeadRun.getT_eq s)
def loose : List PySem.Str := (["is_text_of", "COLOURS", "MOST_SOCKS", "is_rowed", "lumps_of", "SockError", "InvalidRow", "InvalidText", "check_row", "BLANK", "NONE_TEXT", "DIGITS", "count_told", "text_of_lumps", "lump_told", "row_of_lumps", "check_told", "lumps_text", "read_lumps", "lumps", "_law_pot", "_law_draw", "_law_pick", "_law_same", "_law_row", "_law_named_rows", "_law_lumps", "_law_heard", "_law_read", "_law_bent"] : List PySem.Str) ++ (["_law_is_right", "_law_right"] : List PySem.Str)
theorem run (w : World) : HandSHeadRun.RunEq R (PySem.W.view R.prog [41]) hk ob 4000 loose w := by
  intro os
  kernel_rfl
theorem txt_of {h : Heap} (X : K.In h) (G : h.Ns mainGlobals mg) (c : He.SaysX fa fn [] tf ex w h K) : Nonempty (Txt K mg) := by
  obtain ⟨fd0, F0⟩ := c.t.d.def_ 0 rfl
  obtain ⟨fd1, F1⟩ := c.t.d.def_ 1 rfl
  obtain ⟨fd2, F2⟩ := c.t.d.def_ 2 rfl
  obtain ⟨fd3, F3⟩ := c.t.d.def_ 3 rfl
  obtain ⟨fd4, F4⟩ := c.t.d.def_ 4 rfl
  obtain ⟨fd5, F5⟩ := c.t.d.def_ 5 rfl
  obtain ⟨fd6, F6⟩ := c.t.d.def_ 6 rfl
  obtain ⟨fd7, F7⟩ := c.t.d.def_ 7 rfl
  obtain ⟨fd8, F8⟩ := c.t.d.def_ 8 rfl
  obtain ⟨fd9, F9⟩ := c.t.d.def_ 9 rfl
  obtain ⟨fd10, F10⟩ := c.t.d.def_ 10 rfl
  obtain ⟨fd11, F11⟩ := c.t.d.def_ 11 rfl
  obtain ⟨fd12, F12⟩ := c.t.d.def_ 12 rfl
  obtain ⟨fd13, F13⟩ := c.t.d.def_ 13 rfl
  obtain ⟨fd14, F14⟩ := c.t.d.def_ 14 rfl
  obtain ⟨fd15, F15⟩ := c.t.d.def_ 15 rfl
  obtain ⟨fd16, F16⟩ := c.t.d.def_ 16 rfl
  obtain ⟨fd17, F17⟩ := c.t.d.def_ 17 rfl
  obtain ⟨fd18, F18⟩ := c.t.d.def_ 18 rfl
  obtain ⟨fd19, F19⟩ := c.t.d.def_ 19 rfl
  obtain ⟨fd20, F20⟩ := c.t.d.def_ 20 rfl
  obtain ⟨fd21, F21⟩ := c.t.d.def_ 21 rfl
  obtain ⟨fd22, F22⟩ := c.t.d.def_ 22 rfl
  obtain ⟨fd23, F23⟩ := c.t.d.def_ 23 rfl
  obtain ⟨fd24, F24⟩ := c.t.d.def_ 24 rfl
  obtain ⟨fe0, E0⟩ := c.t.d.def_ 25 rfl
  obtain ⟨fe1, E1⟩ := c.t.d.def_ 26 rfl
  have hex := c.more
  obtain ⟨b0, hex⟩ := He.ba hex
  obtain ⟨b1, hex⟩ := He.ba hex
  exact ⟨{
    fd_lpot := fd0,
    d_lpot := ⟨F0, He.glo_ok X G (c.t.d.fact 0 rfl), FunD.bindsN F0 fun _ _ _ _ _ _ us hl => match us, hl with | [_, _], _ => (by kernel_rfl)⟩,
    fd_llumps := fd1,
    d_llumps := ⟨F1, He.glo_ok X G (c.t.d.fact 1 rfl), FunD.bindsN F1 fun _ _ _ _ _ _ us hl => match us, hl with | [_], _ => (by kernel_rfl)⟩,
    fd_is_text_of := fd2,
    d_is_text_of := ⟨F2, He.glo_ok X G (c.t.d.fact 2 rfl), FunD.bindsN F2 fun _ _ _ _ _ _ us hl => match us, hl with | [_, _], _ => (by kernel_rfl)⟩,
    fd_is_rowed := fd3,
    d_is_rowed := ⟨F3, He.glo_ok X G (c.t.d.fact 3 rfl), FunD.bindsN F3 fun _ _ _ _ _ _ us hl => match us, hl with | [_], _ => (by kernel_rfl)⟩,
    fd_check_row := fd4,
    d_check_row := ⟨F4, He.glo_ok X G (c.t.d.fact 4 rfl), FunD.bindsN F4 fun _ _ _ _ _ _ us hl => match us, hl with | [_], _ => (by kernel_rfl)⟩,
    fd_lumps_of := fd5,
    d_lumps_of := ⟨F5, He.glo_ok X G (c.t.d.fact 5 rfl), FunD.bindsN F5 fun _ _ _ _ _ _ us hl => match us, hl with | [_], _ => (by kernel_rfl)⟩,
    fd_text_of_lumps := fd6,
    d_text_of_lumps := ⟨F6, He.glo_ok X G (c.t.d.fact 6 rfl), FunD.bindsN F6 fun _ _ _ _ _ _ us hl => match us, hl with | [_], _ => (by kernel_rfl)⟩,
    fd_lumps_text := fd7,
    d_lumps_text := ⟨F7, He.glo_ok X G (c.t.d.fact 7 rfl), FunD.bindsN F7 fun _ _ _ _ _ _ us hl => match us, hl with | [_], _ => (by kernel_rfl)⟩,
    fd_count_told := fd8,
    d_count_told := ⟨F8, He.glo_ok X G (c.t.d.fact 8 rfl), FunD.bindsN F8 fun _ _ _ _ _ _ us hl => match us, hl with | [_], _ => (by kernel_rfl)⟩,
    fd_lump_told := fd9,
    d_lump_told := ⟨F9, He.glo_ok X G (c.t.d.fact 9 rfl), FunD.bindsN F9 fun _ _ _ _ _ _ us hl => match us, hl with | [_], _ => (by kernel_rfl)⟩,
    fd_row_of_lumps := fd10,
    d_row_of_lumps := ⟨F10, He.glo_ok X G (c.t.d.fact 10 rfl), FunD.bindsN F10 fun _ _ _ _ _ _ us hl => match us, hl with | [_], _ => (by kernel_rfl)⟩,
    fd_check_told := fd11,
    d_check_told := ⟨F11, He.glo_ok X G (c.t.d.fact 11 rfl), FunD.bindsN F11 fun _ _ _ _ _ _ us hl => match us, hl with | [_, _], _ => (by kernel_rfl)⟩,
    fd_read_lumps := fd12,
    d_read_lumps := ⟨F12, He.glo_ok X G (c.t.d.fact 12 rfl), FunD.bindsN F12 fun _ _ _ _ _ _ us hl => match us, hl with | [_], _ => (by kernel_rfl)⟩,
    fd_lumps := fd13,
    d_lumps := ⟨F13, He.glo_ok X G (c.t.d.fact 13 rfl), FunD.bindsN F13 fun _ _ _ _ _ _ us hl => match us, hl with | [_], _ => (by kernel_rfl)⟩,
    fd_ldraw := fd14,
    d_ldraw := ⟨F14, He.glo_ok X G (c.t.d.fact 14 rfl), FunD.bindsN F14 fun _ _ _ _ _ _ us hl => match us, hl with | [_, _], _ => (by kernel_rfl)⟩,
    fd_lpick := fd15,
    d_lpick := ⟨F15, He.glo_ok X G (c.t.d.fact 15 rfl), FunD.bindsN F15 fun _ _ _ _ _ _ us hl => match us, hl with | [_, _], _ => (by kernel_rfl)⟩,
    fd_lbent := fd16,
    d_lbent := ⟨F16, He.glo_ok X G (c.t.d.fact 16 rfl), FunD.bindsN F16 fun _ _ _ _ _ _ us hl => match us, hl with | [_, _], _ => (by kernel_rfl)⟩,
    fd_lsame := fd17,
    d_lsame := ⟨F17, He.glo_ok X G (c.t.d.fact 17 rfl), FunD.bindsN F17 fun _ _ _ _ _ _ us hl => match us, hl with | [_, _], _ => (by kernel_rfl)⟩,
    fd_lread := fd18,
    d_lread := ⟨F18, He.glo_ok X G (c.t.d.fact 18 rfl), FunD.bindsN F18 fun _ _ _ _ _ _ us hl => match us, hl with | [_], _ => (by kernel_rfl)⟩,
    fd_lheard := fd19,
    d_lheard := ⟨F19, He.glo_ok X G (c.t.d.fact 19 rfl), FunD.bindsN F19 fun _ _ _ _ _ _ us hl => match us, hl with | [_], _ => (by kernel_rfl)⟩,
    fd_lis_right := fd20,
    d_lis_right := ⟨F20, He.glo_ok X G (c.t.d.fact 20 rfl), FunD.bindsN F20 fun _ _ _ _ _ _ us hl => match us, hl with | [_, _], _ => (by kernel_rfl)⟩,
    fd_lrow := fd21,
    d_lrow := ⟨F21, He.glo_ok X G (c.t.d.fact 21 rfl), FunD.bindsN F21 fun _ _ _ _ _ _ us hl => match us, hl with | [_, _], _ => (by kernel_rfl)⟩,
    fd_lright := fd22,
    d_lright := ⟨F22, He.glo_ok X G (c.t.d.fact 22 rfl), FunD.bindsN F22 fun _ _ _ _ _ _ us hl => match us, hl with | [_], _ => (by kernel_rfl)⟩,
    fd_lnamed_rows := fd23,
    d_lnamed_rows := ⟨F23, He.glo_ok X G (c.t.d.fact 23 rfl), FunD.bindsN F23 fun _ _ _ _ _ _ us hl => match us, hl with | [_], _ => (by kernel_rfl)⟩,
    fd_law := fd24,
    d_law := ⟨F24, He.glo_ok X G (c.t.d.fact 24 rfl), FunD.bindsN F24 fun _ _ _ _ _ _ us hl => match us, hl with | [_], _ => (by kernel_rfl)⟩,
    e_InvalidRow := errTxt_of (He.glo_ok X G (c.t.d.fact 25 rfl)) b0 E0 rfl rfl rfl,
    e_InvalidText := errTxt_of (He.glo_ok X G (c.t.d.fact 26 rfl)) b1 E1 rfl rfl rfl,
    n_abs := He.free_ok X G (c.t.d.fact 27 rfl),
    n_all := He.free_ok X G (c.t.d.fact 28 rfl),
    n_bool := He.free_ok X G (c.t.d.fact 29 rfl),
    n_divmod := He.free_ok X G (c.t.d.fact 30 rfl),
    n_int := He.free_ok X G (c.t.d.fact 31 rfl),
    n_isinstance := He.free_ok X G (c.t.d.fact 32 rfl),
    n_len := He.free_ok X G (c.t.d.fact 33 rfl),
    n_list := He.free_ok X G (c.t.d.fact 34 rfl),
    n_max := He.free_ok X G (c.t.d.fact 35 rfl),
    n_min := He.free_ok X G (c.t.d.fact 36 rfl),
    n_range := He.free_ok X G (c.t.d.fact 37 rfl),
    n_set := He.free_ok X G (c.t.d.fact 38 rfl),
    n_str := He.free_ok X G (c.t.d.fact 39 rfl),
    n_sum := He.free_ok X G (c.t.d.fact 40 rfl),
    n_tuple := He.free_ok X G (c.t.d.fact 41 rfl),
    v_COLOURS := He.str_ok X G (c.t.d.fact 42 rfl),
    v_MOST_SOCKS := He.int_ok X G (c.t.d.fact 43 rfl),
    v_BLANK := He.str_ok X G (c.t.d.fact 44 rfl),
    v_NONE_TEXT := He.str_ok X G (c.t.d.fact 45 rfl),
    v_DIGITS := He.str_ok X G (c.t.d.fact 46 rfl),
    x_InvalidText_InvalidText := He.exm_ok (c.t.d.fact 47 rfl),
    one := one_of hex }⟩
end P

set_option maxHeartbeats 4000000
namespace P
open Z Z.LL
variable {h : AH} {Q : AV → AH → Prop}
theorem is_text_of_S {x y : List Nat} (hx : x.length ≤ 1000000) (q : ∀ h', Kp [] h h' → Q (.bl (x.all fun c => decide (c ∈ y))) h') : W (f_is_text_of [.str x, .str y] h) Q := by
  unfold f_is_text_of b_is_text_of
  refine W_call rfl ?_
  simp only [W_ok, W_bind, W_rbind, W_pure, W_stk, W_stk', W_alloc, W_var, W_cst, W_bin, W_un, W_if, W_aBl, W_and, W_or, W_fn, W_nil, W_cons, W_tup, W_lst, W_mth, W_onone, W_osome, W_slc, W_lam, W_joined, W_join0, W_join1, W_tof, W_tnt, W_tan, W_tor, W_tcmp, W_tys, W_chain, W_tchn, W_snil, W_seq, W_asg, W_drop, W_ret, W_retN, W_sif, W_brk, W_cnt, W_par, W_par3, W_gnm, W_gix, W_gtp, W_gs0, W_gs1, W_mkF, w_addI, w_addS, w_addT, w_subI, w_mulI, w_mulS, w_divI, w_modI, w_powI, w_eqS, w_neS, w_eqI, w_neI, w_eqB, w_neB, w_ltI, w_gtI, w_leI, w_geI, w_isN, w_isNN, w_inS, w_ninS, w_lenS, w_lenT, w_lenL, w_intI, w_absI, w_minI, w_maxI, w_divm, w_neg, w_not, w_truB, w_truS, w_truI, w_idxT, w_idxS, w_isi, List.length_cons, List.length_nil, List.map_cons, List.map_nil, List.replicate, List.cons_append, List.nil_append, List.getElem?_cons_zero, List.getElem?_cons_succ, List.set_cons_zero, List.set_cons_succ, Nat.zero_add, Nat.reduceAdd, if_true, if_false, tyOf, isT]
  refine W_compZ ?_
  simp only [W_ival, W_ok, W_bind, W_rbind, W_pure, W_stk, W_stk', W_alloc, W_var, W_cst, W_bin, W_un, W_if, W_aBl, W_and, W_or, W_fn, W_nil, W_cons, W_tup, W_lst, W_mth, W_onone, W_osome, W_slc, W_lam, W_joined, W_join0, W_join1, W_tof, W_tnt, W_tan, W_tor, W_tcmp, W_tys, W_chain, W_tchn, W_snil, W_seq, W_asg, W_drop, W_ret, W_retN, W_sif, W_brk, W_cnt, W_par, W_par3, W_gnm, W_gix, W_gtp, W_gs0, W_gs1, W_mkF, w_addI, w_addS, w_addT, w_subI, w_mulI, w_mulS, w_divI, w_modI, w_powI, w_eqS, w_neS, w_eqI, w_neI, w_eqB, w_neB, w_ltI, w_gtI, w_leI, w_geI, w_isN, w_isNN, w_inS, w_ninS, w_lenS, w_lenT, w_lenL, w_intI, w_absI, w_minI, w_maxI, w_divm, w_neg, w_not, w_truB, w_truS, w_truI, w_idxT, w_idxS, w_isi, List.length_cons, List.length_nil, List.map_cons, List.map_nil, List.replicate, List.cons_append, List.nil_append, List.getElem?_cons_zero, List.getElem?_cons_succ, List.set_cons_zero, List.set_cons_succ, Nat.zero_add, Nat.reduceAdd, if_true, if_false, W_srcS]
  refine ⟨strL x, (x.map fun c => decide (c ∈ y)).map .bl, by simp [strL], by simp [strL], by simpa [strL] using hx, fun i h _ _ => by rw [strL_at], fun i a h ha k => ?_, fun d h k _ hd => ?_⟩
  · rw [strL_at] at ha
    cases e : x[i]? with
    | none => rw [e] at ha; cases ha
    | some c =>
      rw [e] at ha
      cases ha
      simp only [W_ok, W_bind, W_rbind, W_pure, W_stk, W_stk', W_alloc, W_var, W_cst, W_bin, W_un, W_if, W_aBl, W_and, W_or, W_fn, W_nil, W_cons, W_tup, W_lst, W_mth, W_onone, W_osome, W_slc, W_lam, W_joined, W_join0, W_join1, W_tof, W_tnt, W_tan, W_tor, W_tcmp, W_tys, W_chain, W_tchn, W_snil, W_seq, W_asg, W_drop, W_ret, W_retN, W_sif, W_brk, W_cnt, W_par, W_par3, W_gnm, W_gix, W_gtp, W_gs0, W_gs1, W_mkF, w_addI, w_addS, w_addT, w_subI, w_mulI, w_mulS, w_divI, w_modI, w_powI, w_eqS, w_neS, w_eqI, w_neI, w_eqB, w_neB, w_ltI, w_gtI, w_leI, w_geI, w_isN, w_isNN, w_inS, w_ninS, w_lenS, w_lenT, w_lenL, w_intI, w_absI, w_minI, w_maxI, w_divm, w_neg, w_not, w_truB, w_truS, w_truI, w_idxT, w_idxS, w_isi, List.length_cons, List.length_nil, List.map_cons, List.map_nil, List.replicate, List.cons_append, List.nil_append, List.getElem?_cons_zero, List.getElem?_cons_succ, List.set_cons_zero, List.set_cons_succ, Nat.zero_add, Nat.reduceAdd, if_true, if_false, wipeA]
      exact ⟨by simp [e], Kp.refl⟩
  · rw [w_allB hd]
    have : (List.map (fun c => decide (c ∈ y)) x).all id = x.all fun c => decide (c ∈ y) := by simp [List.all_map, Function.comp_def]
    rw [this]
    exact q _ k
theorem is_rowed_S {x : List Nat} (hx : x.length ≤ 1000000) (q : ∀ h', Kp [] h h' → Q (.bl (vB x)) h') : W (f_is_rowed [.str x] h) Q := by
  unfold f_is_rowed b_is_rowed
  refine W_call rfl ?_
  simp only [W_ok, W_bind, W_rbind, W_pure, W_stk, W_stk', W_alloc, W_var, W_cst, W_bin, W_un, W_if, W_aBl, W_and, W_or, W_fn, W_nil, W_cons, W_tup, W_lst, W_mth, W_onone, W_osome, W_slc, W_lam, W_joined, W_join0, W_join1, W_tof, W_tnt, W_tan, W_tor, W_tcmp, W_tys, W_chain, W_tchn, W_snil, W_seq, W_asg, W_drop, W_ret, W_retN, W_sif, W_brk, W_cnt, W_par, W_par3, W_gnm, W_gix, W_gtp, W_gs0, W_gs1, W_mkF, w_addI, w_addS, w_addT, w_subI, w_mulI, w_mulS, w_divI, w_modI, w_powI, w_eqS, w_neS, w_eqI, w_neI, w_eqB, w_neB, w_ltI, w_gtI, w_leI, w_geI, w_isN, w_isNN, w_inS, w_ninS, w_lenS, w_lenT, w_lenL, w_intI, w_absI, w_minI, w_maxI, w_divm, w_neg, w_not, w_truB, w_truS, w_truI, w_idxT, w_idxS, w_isi, List.length_cons, List.length_nil, List.map_cons, List.map_nil, List.replicate, List.cons_append, List.nil_append, List.getElem?_cons_zero, List.getElem?_cons_succ, List.set_cons_zero, List.set_cons_succ, Nat.zero_add, Nat.reduceAdd, if_true, if_false]
  refine is_text_of_S hx fun h' k => ?_
  simp only [W_ok, W_bind, W_rbind, W_pure, W_stk, W_stk', W_alloc, W_var, W_cst, W_bin, W_un, W_if, W_aBl, W_and, W_or, W_fn, W_nil, W_cons, W_tup, W_lst, W_mth, W_onone, W_osome, W_slc, W_lam, W_joined, W_join0, W_join1, W_tof, W_tnt, W_tan, W_tor, W_tcmp, W_tys, W_chain, W_tchn, W_snil, W_seq, W_asg, W_drop, W_ret, W_retN, W_sif, W_brk, W_cnt, W_par, W_par3, W_gnm, W_gix, W_gtp, W_gs0, W_gs1, W_mkF, w_addI, w_addS, w_addT, w_subI, w_mulI, w_mulS, w_divI, w_modI, w_powI, w_eqS, w_neS, w_eqI, w_neI, w_eqB, w_neB, w_ltI, w_gtI, w_leI, w_geI, w_isN, w_isNN, w_inS, w_ninS, w_lenS, w_lenT, w_lenL, w_intI, w_absI, w_minI, w_maxI, w_divm, w_neg, w_not, w_truB, w_truS, w_truI, w_idxT, w_idxS, w_isi, List.length_cons, List.length_nil, List.map_cons, List.map_nil, List.replicate, List.cons_append, List.nil_append, List.getElem?_cons_zero, List.getElem?_cons_succ, List.set_cons_zero, List.set_cons_succ, Nat.zero_add, Nat.reduceAdd, if_true, if_false]
  cases e : (x.all fun c => decide (c ∈ ([97, 98, 99, 100, 101, 102] : List Nat))) with
  | false =>
    simp only [Bool.false_eq_true, if_false]
    have : vB x = false := by unfold vB; rw [e]; rfl
    rw [← this]
    exact q _ k
  | true =>
    simp only [if_true, W_ok, W_bind, W_rbind, W_pure, W_stk, W_stk', W_alloc, W_var, W_cst, W_bin, W_un, W_if, W_aBl, W_and, W_or, W_fn, W_nil, W_cons, W_tup, W_lst, W_mth, W_onone, W_osome, W_slc, W_lam, W_joined, W_join0, W_join1, W_tof, W_tnt, W_tan, W_tor, W_tcmp, W_tys, W_chain, W_tchn, W_snil, W_seq, W_asg, W_drop, W_ret, W_retN, W_sif, W_brk, W_cnt, W_par, W_par3, W_gnm, W_gix, W_gtp, W_gs0, W_gs1, W_mkF, w_addI, w_addS, w_addT, w_subI, w_mulI, w_mulS, w_divI, w_modI, w_powI, w_eqS, w_neS, w_eqI, w_neI, w_eqB, w_neB, w_ltI, w_gtI, w_leI, w_geI, w_isN, w_isNN, w_inS, w_ninS, w_lenS, w_lenT, w_lenL, w_intI, w_absI, w_minI, w_maxI, w_divm, w_neg, w_not, w_truB, w_truS, w_truI, w_idxT, w_idxS, w_isi, List.length_cons, List.length_nil, List.map_cons, List.map_nil, List.replicate, List.cons_append, List.nil_append, List.getElem?_cons_zero, List.getElem?_cons_succ, List.set_cons_zero, List.set_cons_succ, Nat.zero_add, Nat.reduceAdd, if_true, if_false, if_pos (show x.length ≤ 16777216 by omega)]
    have : vB x = decide ((x.length : Int) ≤ 12) := by
      unfold vB
      rw [e, Bool.true_and]
      congr 1
      simp
      omega
    rw [← this]
    exact q _ k
theorem is_text_of_N {a : AV} {y : List Nat} {t : Ty} (ht : tyOf a h = some t) (hn : isT t .str = false) (q : Q (.bl false) h) : W (f_is_text_of [a, .str y] h) Q := by
  unfold f_is_text_of b_is_text_of
  refine W_call rfl ?_
  simp only [W_ok, W_bind, W_rbind, W_pure, W_stk, W_stk', W_alloc, W_var, W_cst, W_bin, W_un, W_if, W_aBl, W_and, W_or, W_fn, W_nil, W_cons, W_tup, W_lst, W_mth, W_onone, W_osome, W_slc, W_lam, W_joined, W_join0, W_join1, W_tof, W_tnt, W_tan, W_tor, W_tcmp, W_tys, W_chain, W_tchn, W_snil, W_seq, W_asg, W_drop, W_ret, W_retN, W_sif, W_brk, W_cnt, W_par, W_par3, W_gnm, W_gix, W_gtp, W_gs0, W_gs1, W_mkF, w_addI, w_addS, w_addT, w_subI, w_mulI, w_mulS, w_divI, w_modI, w_powI, w_eqS, w_neS, w_eqI, w_neI, w_eqB, w_neB, w_ltI, w_gtI, w_leI, w_geI, w_isN, w_isNN, w_inS, w_ninS, w_lenS, w_lenT, w_lenL, w_intI, w_absI, w_minI, w_maxI, w_divm, w_neg, w_not, w_truB, w_truS, w_truI, w_idxT, w_idxS, w_isi, List.length_cons, List.length_nil, List.map_cons, List.map_nil, List.replicate, List.cons_append, List.nil_append, List.getElem?_cons_zero, List.getElem?_cons_succ, List.set_cons_zero, List.set_cons_succ, Nat.zero_add, Nat.reduceAdd, if_true, if_false, ht, hn, Bool.false_eq_true]
  exact q
theorem is_rowed_N {a : AV} {t : Ty} (ht : tyOf a h = some t) (hn : isT t .str = false) (q : Q (.bl false) h) : W (f_is_rowed [a] h) Q := by
  unfold f_is_rowed b_is_rowed
  refine W_call rfl ?_
  simp only [W_ok, W_bind, W_rbind, W_pure, W_stk, W_stk', W_alloc, W_var, W_cst, W_bin, W_un, W_if, W_aBl, W_and, W_or, W_fn, W_nil, W_cons, W_tup, W_lst, W_mth, W_onone, W_osome, W_slc, W_lam, W_joined, W_join0, W_join1, W_tof, W_tnt, W_tan, W_tor, W_tcmp, W_tys, W_chain, W_tchn, W_snil, W_seq, W_asg, W_drop, W_ret, W_retN, W_sif, W_brk, W_cnt, W_par, W_par3, W_gnm, W_gix, W_gtp, W_gs0, W_gs1, W_mkF, w_addI, w_addS, w_addT, w_subI, w_mulI, w_mulS, w_divI, w_modI, w_powI, w_eqS, w_neS, w_eqI, w_neI, w_eqB, w_neB, w_ltI, w_gtI, w_leI, w_geI, w_isN, w_isNN, w_inS, w_ninS, w_lenS, w_lenT, w_lenL, w_intI, w_absI, w_minI, w_maxI, w_divm, w_neg, w_not, w_truB, w_truS, w_truI, w_idxT, w_idxS, w_isi, List.length_cons, List.length_nil, List.map_cons, List.map_nil, List.replicate, List.cons_append, List.nil_append, List.getElem?_cons_zero, List.getElem?_cons_succ, List.set_cons_zero, List.set_cons_succ, Nat.zero_add, Nat.reduceAdd, if_true, if_false]
  refine is_text_of_N ht hn ?_
  simp only [W_ok, W_bind, W_rbind, W_pure, W_stk, W_stk', W_alloc, W_var, W_cst, W_bin, W_un, W_if, W_aBl, W_and, W_or, W_fn, W_nil, W_cons, W_tup, W_lst, W_mth, W_onone, W_osome, W_slc, W_lam, W_joined, W_join0, W_join1, W_tof, W_tnt, W_tan, W_tor, W_tcmp, W_tys, W_chain, W_tchn, W_snil, W_seq, W_asg, W_drop, W_ret, W_retN, W_sif, W_brk, W_cnt, W_par, W_par3, W_gnm, W_gix, W_gtp, W_gs0, W_gs1, W_mkF, w_addI, w_addS, w_addT, w_subI, w_mulI, w_mulS, w_divI, w_modI, w_powI, w_eqS, w_neS, w_eqI, w_neI, w_eqB, w_neB, w_ltI, w_gtI, w_leI, w_geI, w_isN, w_isNN, w_inS, w_ninS, w_lenS, w_lenT, w_lenL, w_intI, w_absI, w_minI, w_maxI, w_divm, w_neg, w_not, w_truB, w_truS, w_truI, w_idxT, w_idxS, w_isi, List.length_cons, List.length_nil, List.map_cons, List.map_nil, List.replicate, List.cons_append, List.nil_append, List.getElem?_cons_zero, List.getElem?_cons_succ, List.set_cons_zero, List.set_cons_succ, Nat.zero_add, Nat.reduceAdd, if_true, if_false, Bool.false_eq_true]
  exact q
theorem check_row_S {x : List Nat} (hv : Valid x) (q : ∀ h', Kp [] h h' → Q .non h') : W (f_check_row [.str x] h) Q := by
  unfold f_check_row b_check_row
  refine W_call rfl ?_
  simp only [W_ok, W_bind, W_rbind, W_pure, W_stk, W_stk', W_alloc, W_var, W_cst, W_bin, W_un, W_if, W_aBl, W_and, W_or, W_fn, W_nil, W_cons, W_tup, W_lst, W_mth, W_onone, W_osome, W_slc, W_lam, W_joined, W_join0, W_join1, W_tof, W_tnt, W_tan, W_tor, W_tcmp, W_tys, W_chain, W_tchn, W_snil, W_seq, W_asg, W_drop, W_ret, W_retN, W_sif, W_brk, W_cnt, W_par, W_par3, W_gnm, W_gix, W_gtp, W_gs0, W_gs1, W_mkF, w_addI, w_addS, w_addT, w_subI, w_mulI, w_mulS, w_divI, w_modI, w_powI, w_eqS, w_neS, w_eqI, w_neI, w_eqB, w_neB, w_ltI, w_gtI, w_leI, w_geI, w_isN, w_isNN, w_inS, w_ninS, w_lenS, w_lenT, w_lenL, w_intI, w_absI, w_minI, w_maxI, w_divm, w_neg, w_not, w_truB, w_truS, w_truI, w_idxT, w_idxS, w_isi, List.length_cons, List.length_nil, List.map_cons, List.map_nil, List.replicate, List.cons_append, List.nil_append, List.getElem?_cons_zero, List.getElem?_cons_succ, List.set_cons_zero, List.set_cons_succ, Nat.zero_add, Nat.reduceAdd, if_true, if_false]
  have := hv.2
  refine is_rowed_S (by omega) fun h' k => ?_
  rw [vB_iff.mpr hv]
  simp only [W_ok, W_bind, W_rbind, W_pure, W_stk, W_stk', W_alloc, W_var, W_cst, W_bin, W_un, W_if, W_aBl, W_and, W_or, W_fn, W_nil, W_cons, W_tup, W_lst, W_mth, W_onone, W_osome, W_slc, W_lam, W_joined, W_join0, W_join1, W_tof, W_tnt, W_tan, W_tor, W_tcmp, W_tys, W_chain, W_tchn, W_snil, W_seq, W_asg, W_drop, W_ret, W_retN, W_sif, W_brk, W_cnt, W_par, W_par3, W_gnm, W_gix, W_gtp, W_gs0, W_gs1, W_mkF, w_addI, w_addS, w_addT, w_subI, w_mulI, w_mulS, w_divI, w_modI, w_powI, w_eqS, w_neS, w_eqI, w_neI, w_eqB, w_neB, w_ltI, w_gtI, w_leI, w_geI, w_isN, w_isNN, w_inS, w_ninS, w_lenS, w_lenT, w_lenL, w_intI, w_absI, w_minI, w_maxI, w_divm, w_neg, w_not, w_truB, w_truS, w_truI, w_idxT, w_idxS, w_isi, List.length_cons, List.length_nil, List.map_cons, List.map_nil, List.replicate, List.cons_append, List.nil_append, List.getElem?_cons_zero, List.getElem?_cons_succ, List.set_cons_zero, List.set_cons_succ, Nat.zero_add, Nat.reduceAdd, if_true, if_false, Bool.not_true, Bool.false_eq_true]
  exact q _ k
/-! lumps -/
def lmpAV (l : List (Nat × Nat)) : List AV := l.map fun p => .tup [.str [p.1], .int p.2]
def lmpPT (l : List (Nat × Nat)) : List PT := l.map fun p => .tup [.str [p.1], .int p.2]
theorem lmp_den (S : List Nat) (h : AH) : ∀ l, Dens S h (lmpPT l) (lmpAV l)
  | [] => by simp [lmpPT, lmpAV, Dens]
  | p :: l => by
    simp only [lmpPT, lmpAV, List.map_cons, Dens]
    exact ⟨_, _, rfl, by simp [Den, Dens], lmp_den S h l⟩
theorem lmp_ok (l : List (Nat × Nat)) (hl : l.length ≤ 1000) (k : Nat) : PT.ok (k + 2) (.lst (lmpPT l)) := by
  refine ⟨by simpa [lmpPT] using hl, fun t ht => ?_⟩
  obtain ⟨p, _, rfl⟩ := List.mem_map.mp ht
  refine ⟨by simp, fun t ht => ?_⟩
  simp at ht
  rcases ht with rfl | rfl <;> cases k <;> trivial
theorem eqv_nil (l : List (Nat × Nat)) : PySem.PyData.eqv (PT.lst (lmpPT l)).py (PT.lst []).py = decide (l = []) := by
  cases l <;> simp [lmpPT, PT.py, PT.pys, PySem.PyData.eqv, PySem.PyData.eqvAll]
theorem ne_nil {l : List (Nat × Nat)} {d e : Nat} (hl : l.length ≤ 1000) (hd : h[d]? = some (.lst (lmpAV l))) (he : h[e]? = some (.lst [])) : W (aNe (.ref d) (.ref e) h) Q = Q (.bl (!decide (l = []))) h := by
  have h1 : Den [] h (.lst (lmpPT l)) (.ref d) := by
    simp only [Den]
    exact ⟨d, lmpAV l, rfl, by simp, hd, lmp_den _ _ _⟩
  have h2 : Den [] h (.lst []) (.ref e) := by
    simp only [Den]
    exact ⟨e, [], rfl, by simp, he, by simp [Dens]⟩
  have h3 : PT.ok 20 (.lst []) := ⟨by simp, fun _ z => (by cases z)⟩
  have := w_eqD (S := []) (neg := true) (Q := Q) (lmp_ok l hl 18) h3 h1 h2
  rw [eqv_nil] at this
  exact this
theorem last_at {α : Type} {xs : List α} (hn : xs ≠ []) : L2.ixN xs.length (-1) = some (xs.length - 1) := by
  have : 0 < xs.length := List.length_pos_iff.mpr hn
  unfold L2.ixN
  rw [if_neg (by decide), if_pos (by omega)]
  congr 1
  omega
theorem last_atI {α : Type} {xs : List α} {a : α} (hn : xs.getLast? = some a) : L2.atI xs (-1) = some a := by
  have hne : xs ≠ [] := fun z => by subst z; cases hn
  unfold L2.atI
  rw [last_at hne]
  rw [List.getLast?_eq_getElem?] at hn
  exact hn
theorem set_last {α : Type} {xs : List α} {a b : α} (h : xs.getLast? = some a) : xs.set (xs.length - 1) b = xs.dropLast ++ [b] := by
  have := last_split h
  generalize xs.dropLast = d at this
  subst this
  simp
theorem lumps_of_S {r : List Nat} (hr : r.length ≤ 1000) (q : ∀ d h', Kp [] h h' → h.length ≤ d → h'[d]? = some (.lst (lmpAV (lum r))) → Q (.ref d) h') : W (f_lumps_of [.str r] h) Q := by
  unfold f_lumps_of b_lumps_of
  refine W_call rfl ?_
  rw [W_seq]
  simp only [W_asg, W_lst, W_nil, W_gnm, List.map_cons, List.map_nil, List.replicate, List.cons_append, List.nil_append, List.set_cons_succ, List.set_cons_zero]
  rw [W_seq]
  refine W_for ?_
  simp only [W_ival, W_ok, W_bind, W_rbind, W_pure, W_stk, W_stk', W_alloc, W_var, W_cst, W_bin, W_un, W_if, W_aBl, W_and, W_or, W_fn, W_nil, W_cons, W_tup, W_lst, W_mth, W_onone, W_osome, W_slc, W_lam, W_joined, W_join0, W_join1, W_tof, W_tnt, W_tan, W_tor, W_tcmp, W_tys, W_chain, W_tchn, W_snil, W_seq, W_asg, W_drop, W_ret, W_retN, W_sif, W_brk, W_cnt, W_par, W_par3, W_gnm, W_gix, W_gtp, W_gs0, W_gs1, W_mkF, w_addI, w_addS, w_addT, w_subI, w_mulI, w_mulS, w_divI, w_modI, w_powI, w_eqS, w_neS, w_eqI, w_neI, w_eqB, w_neB, w_ltI, w_gtI, w_leI, w_geI, w_isN, w_isNN, w_inS, w_ninS, w_lenS, w_lenT, w_lenL, w_intI, w_absI, w_minI, w_maxI, w_divm, w_neg, w_not, w_truB, w_truS, w_truI, w_idxT, w_idxS, w_isi, List.length_cons, List.length_nil, List.map_cons, List.map_nil, List.replicate, List.cons_append, List.nil_append, List.getElem?_cons_zero, List.getElem?_cons_succ, List.set_cons_zero, List.set_cons_succ, Nat.zero_add, Nat.reduceAdd, if_true, if_false, W_srcS]
  refine ⟨strL r, fun i σ h1 => (∃ v, σ = [some (.str r), some (.ref h.length), v]) ∧ Kp [] h h1 ∧ h1[h.length]? = some (.lst (lmpAV (lum (r.take i)))), by simp [strL], ⟨⟨_, rfl⟩, Kp.app _, by simp [lum, lmpAV]⟩, fun i σ h1 hi _ => by rw [strL_at], ?_, ?_⟩
  · rintro i a σ h1 ha ⟨⟨v, rfl⟩, k, hd⟩
    rw [strL_at] at ha
    cases e : r[i]? with
    | none => rw [e] at ha; cases ha
    | some c =>
      rw [e] at ha
      cases ha
      have hi : i < r.length := (List.getElem?_eq_some_iff.mp e).1
      have et : r.take (i + 1) = r.take i ++ [c] := by
        rw [List.take_succ, e]
        rfl
      have el : lum (r.take (i + 1)) = snoc (lum (r.take i)) c := by
        unfold lum
        rw [et, List.foldl_append]
        rfl
      simp only [W_ok, W_bind, W_rbind, W_pure, W_stk, W_stk', W_alloc, W_var, W_cst, W_bin, W_un, W_if, W_aBl, W_and, W_or, W_fn, W_nil, W_cons, W_tup, W_lst, W_mth, W_onone, W_osome, W_slc, W_lam, W_joined, W_join0, W_join1, W_tof, W_tnt, W_tan, W_tor, W_tcmp, W_tys, W_chain, W_tchn, W_snil, W_seq, W_asg, W_drop, W_ret, W_retN, W_sif, W_brk, W_cnt, W_par, W_par3, W_gnm, W_gix, W_gtp, W_gs0, W_gs1, W_mkF, w_addI, w_addS, w_addT, w_subI, w_mulI, w_mulS, w_divI, w_modI, w_powI, w_eqS, w_neS, w_eqI, w_neI, w_eqB, w_neB, w_ltI, w_gtI, w_leI, w_geI, w_isN, w_isNN, w_inS, w_ninS, w_lenS, w_lenT, w_lenL, w_intI, w_absI, w_minI, w_maxI, w_divm, w_neg, w_not, w_truB, w_truS, w_truI, w_idxT, w_idxS, w_isi, List.length_cons, List.length_nil, List.map_cons, List.map_nil, List.replicate, List.cons_append, List.nil_append, List.getElem?_cons_zero, List.getElem?_cons_succ, List.set_cons_zero, List.set_cons_succ, Nat.zero_add, Nat.reduceAdd, if_true, if_false, el]
      generalize hacc : lum (r.take i) = acc at hd ⊢
      have hlen : acc.length ≤ 1000 := by
        have h1 := len_le_sum (ok_lum (r.take i)).1
        rw [← len_expand, expand_lum, hacc] at h1
        have : (r.take i).length ≤ i := List.length_take_le _ _
        omega
      have hdl : h.length < h1.length := (List.getElem?_eq_some_iff.mp hd).1
      have hd2 : (h1 ++ [AO.lst []])[h.length]? = some (.lst (lmpAV acc)) := (Kp.app (S := []) _).at hd (by simp)
      rw [ne_nil hlen hd2 (by simp)]
      have appd : ∀ acc2 : List (Nat × Nat), snoc acc c = acc2 → acc2 = acc ++ [(c, 1)] → W (aAppend (.ref h.length) [.tup [.str [c], .int 1]] (h1 ++ [AO.lst []])) fun x h_1 => (∃ v, [some (AV.str r), some (AV.ref h.length), some (AV.str [c])] = [some (AV.str r), some (AV.ref h.length), v]) ∧ Kp [] h h_1 ∧ h_1[h.length]? = some (.lst (lmpAV acc2)) := by
        intro acc2 _ e2
        rw [w_append hd2 (by simp [lmpAV]; omega)]
        refine ⟨⟨_, rfl⟩, (k.trans (Kp.app _)).setNew (Nat.le_refl _), ?_⟩
        rw [List.getElem?_set_self (by simp; omega), e2]
        simp [lmpAV]
      cases hl : acc.getLast? with
      | none =>
        have : acc = [] := by simpa using hl
        subst this
        simp only [decide_true, Bool.not_true, Bool.false_eq_true, if_false, W_ok, W_bind, W_rbind, W_pure, W_stk, W_stk', W_alloc, W_var, W_cst, W_bin, W_un, W_if, W_aBl, W_and, W_or, W_fn, W_nil, W_cons, W_tup, W_lst, W_mth, W_onone, W_osome, W_slc, W_lam, W_joined, W_join0, W_join1, W_tof, W_tnt, W_tan, W_tor, W_tcmp, W_tys, W_chain, W_tchn, W_snil, W_seq, W_asg, W_drop, W_ret, W_retN, W_sif, W_brk, W_cnt, W_par, W_par3, W_gnm, W_gix, W_gtp, W_gs0, W_gs1, W_mkF, w_addI, w_addS, w_addT, w_subI, w_mulI, w_mulS, w_divI, w_modI, w_powI, w_eqS, w_neS, w_eqI, w_neI, w_eqB, w_neB, w_ltI, w_gtI, w_leI, w_geI, w_isN, w_isNN, w_inS, w_ninS, w_lenS, w_lenT, w_lenL, w_intI, w_absI, w_minI, w_maxI, w_divm, w_neg, w_not, w_truB, w_truS, w_truI, w_idxT, w_idxS, w_isi, List.length_cons, List.length_nil, List.map_cons, List.map_nil, List.replicate, List.cons_append, List.nil_append, List.getElem?_cons_zero, List.getElem?_cons_succ, List.set_cons_zero, List.set_cons_succ, Nat.zero_add, Nat.reduceAdd, if_true, if_false, tyB, hd2]
        exact appd _ rfl (by rfl)
      | some p =>
        obtain ⟨d, n⟩ := p
        have hne2 : acc ≠ [] := fun z => by subst z; cases hl
        have la : (lmpAV acc).getLast? = some (.tup [.str [d], .int n]) := by
          unfold lmpAV
          rw [List.getLast?_map, hl]
          rfl
        have i0 : ∀ x y : AV, L2.atI [x, y] 0 = some x := fun _ _ => rfl
        have i1 : ∀ x y : AV, L2.atI [x, y] 1 = some y := fun _ _ => rfl
        simp only [hne2, decide_false, Bool.not_false, if_true, W_ok, W_bind, W_rbind, W_pure, W_stk, W_stk', W_alloc, W_var, W_cst, W_bin, W_un, W_if, W_aBl, W_and, W_or, W_fn, W_nil, W_cons, W_tup, W_lst, W_mth, W_onone, W_osome, W_slc, W_lam, W_joined, W_join0, W_join1, W_tof, W_tnt, W_tan, W_tor, W_tcmp, W_tys, W_chain, W_tchn, W_snil, W_seq, W_asg, W_drop, W_ret, W_retN, W_sif, W_brk, W_cnt, W_par, W_par3, W_gnm, W_gix, W_gtp, W_gs0, W_gs1, W_mkF, w_addI, w_addS, w_addT, w_subI, w_mulI, w_mulS, w_divI, w_modI, w_powI, w_eqS, w_neS, w_eqI, w_neI, w_eqB, w_neB, w_ltI, w_gtI, w_leI, w_geI, w_isN, w_isNN, w_inS, w_ninS, w_lenS, w_lenT, w_lenL, w_intI, w_absI, w_minI, w_maxI, w_divm, w_neg, w_not, w_truB, w_truS, w_truI, w_idxT, w_idxS, w_isi, List.length_cons, List.length_nil, List.map_cons, List.map_nil, List.replicate, List.cons_append, List.nil_append, List.getElem?_cons_zero, List.getElem?_cons_succ, List.set_cons_zero, List.set_cons_succ, Nat.zero_add, Nat.reduceAdd, if_true, if_false, w_idxL hd2 (last_atI la), i0]
        by_cases hc : d = c
        · subst hc
          have hs : snoc acc d = acc.dropLast ++ [(d, n + 1)] := by unfold snoc; rw [hl]; simp
          simp only [decide_true, if_true, W_ok, W_bind, W_rbind, W_pure, W_stk, W_stk', W_alloc, W_var, W_cst, W_bin, W_un, W_if, W_aBl, W_and, W_or, W_fn, W_nil, W_cons, W_tup, W_lst, W_mth, W_onone, W_osome, W_slc, W_lam, W_joined, W_join0, W_join1, W_tof, W_tnt, W_tan, W_tor, W_tcmp, W_tys, W_chain, W_tchn, W_snil, W_seq, W_asg, W_drop, W_ret, W_retN, W_sif, W_brk, W_cnt, W_par, W_par3, W_gnm, W_gix, W_gtp, W_gs0, W_gs1, W_mkF, w_addI, w_addS, w_addT, w_subI, w_mulI, w_mulS, w_divI, w_modI, w_powI, w_eqS, w_neS, w_eqI, w_neI, w_eqB, w_neB, w_ltI, w_gtI, w_leI, w_geI, w_isN, w_isNN, w_inS, w_ninS, w_lenS, w_lenT, w_lenL, w_intI, w_absI, w_minI, w_maxI, w_divm, w_neg, w_not, w_truB, w_truS, w_truI, w_idxT, w_idxS, w_isi, List.length_cons, List.length_nil, List.map_cons, List.map_nil, List.replicate, List.cons_append, List.nil_append, List.getElem?_cons_zero, List.getElem?_cons_succ, List.set_cons_zero, List.set_cons_succ, Nat.zero_add, Nat.reduceAdd, if_true, if_false, w_idxL hd2 (last_atI la), i1]
          rw [w_set hd2 (last_at (by intro z; rw [z] at la; cases la))]
          refine ⟨⟨_, rfl⟩, (k.trans (Kp.app _)).setNew (Nat.le_refl _), ?_⟩
          rw [List.getElem?_set_self (by simp; omega), hs, set_last la]
          simp [lmpAV, List.map_dropLast]
        · have hc2 : ¬ ([d] : List Nat) = [c] := by simpa using hc
          have hs : snoc acc c = acc ++ [(c, 1)] := by unfold snoc; rw [hl]; simp [hc]
          simp only [hc2, decide_false, Bool.false_eq_true, if_false, W_ok, W_bind, W_rbind, W_pure, W_stk, W_stk', W_alloc, W_var, W_cst, W_bin, W_un, W_if, W_aBl, W_and, W_or, W_fn, W_nil, W_cons, W_tup, W_lst, W_mth, W_onone, W_osome, W_slc, W_lam, W_joined, W_join0, W_join1, W_tof, W_tnt, W_tan, W_tor, W_tcmp, W_tys, W_chain, W_tchn, W_snil, W_seq, W_asg, W_drop, W_ret, W_retN, W_sif, W_brk, W_cnt, W_par, W_par3, W_gnm, W_gix, W_gtp, W_gs0, W_gs1, W_mkF, w_addI, w_addS, w_addT, w_subI, w_mulI, w_mulS, w_divI, w_modI, w_powI, w_eqS, w_neS, w_eqI, w_neI, w_eqB, w_neB, w_ltI, w_gtI, w_leI, w_geI, w_isN, w_isNN, w_inS, w_ninS, w_lenS, w_lenT, w_lenL, w_intI, w_absI, w_minI, w_maxI, w_divm, w_neg, w_not, w_truB, w_truS, w_truI, w_idxT, w_idxS, w_isi, List.length_cons, List.length_nil, List.map_cons, List.map_nil, List.replicate, List.cons_append, List.nil_append, List.getElem?_cons_zero, List.getElem?_cons_succ, List.set_cons_zero, List.set_cons_succ, Nat.zero_add, Nat.reduceAdd, if_true, if_false, tyB, hd2]
          exact appd _ rfl hs
  · rintro σ h1 ⟨⟨v, rfl⟩, k, hd⟩
    simp only [W_ok, W_bind, W_rbind, W_pure, W_stk, W_stk', W_alloc, W_var, W_cst, W_bin, W_un, W_if, W_aBl, W_and, W_or, W_fn, W_nil, W_cons, W_tup, W_lst, W_mth, W_onone, W_osome, W_slc, W_lam, W_joined, W_join0, W_join1, W_tof, W_tnt, W_tan, W_tor, W_tcmp, W_tys, W_chain, W_tchn, W_snil, W_seq, W_asg, W_drop, W_ret, W_retN, W_sif, W_brk, W_cnt, W_par, W_par3, W_gnm, W_gix, W_gtp, W_gs0, W_gs1, W_mkF, w_addI, w_addS, w_addT, w_subI, w_mulI, w_mulS, w_divI, w_modI, w_powI, w_eqS, w_neS, w_eqI, w_neI, w_eqB, w_neB, w_ltI, w_gtI, w_leI, w_geI, w_isN, w_isNN, w_inS, w_ninS, w_lenS, w_lenT, w_lenL, w_intI, w_absI, w_minI, w_maxI, w_divm, w_neg, w_not, w_truB, w_truS, w_truI, w_idxT, w_idxS, w_isi, List.length_cons, List.length_nil, List.map_cons, List.map_nil, List.replicate, List.cons_append, List.nil_append, List.getElem?_cons_zero, List.getElem?_cons_succ, List.set_cons_zero, List.set_cons_succ, Nat.zero_add, Nat.reduceAdd, if_true, if_false]
    refine q _ _ k (Nat.le_refl _) ?_
    rw [hd]
    simp [strL]
end P

set_option maxHeartbeats 4000000
namespace P
open Z Z.LL
variable {h : AH} {Q : AV → AH → Prop}
theorem sum_le {l : List (List Nat)} {b : Nat} (hb : ∀ w ∈ l, w.length ≤ b) : (l.map List.length).sum ≤ l.length * b := by
  induction l with
  | nil => simp
  | cons w l ih =>
    have h1 := hb w List.mem_cons_self
    have h2 := ih fun w hw => hb w (List.mem_cons_of_mem _ hw)
    simp only [List.map_cons, List.sum_cons, List.length_cons, Nat.add_mul, Nat.one_mul]
    omega
theorem num_len {n : Nat} (h : n ≤ 1000) : (numT n).length ≤ 4 := TL.numL_len (by decide) (by omega)
theorem word_len {p : Nat × Nat} (h : p.2 ≤ 1000) : (word p).length ≤ 5 := by
  have := num_len h
  simp [word]
  omega
theorem cnt_le {r : List Nat} {p : Nat × Nat} (hp : p ∈ lum r) : p.2 ≤ r.length := by
  have := le_sum hp
  rwa [← len_expand, expand_lum] at this
theorem lum_len (r : List Nat) : (lum r).length ≤ r.length := by
  have := len_le_sum (ok_lum r).1
  rwa [← len_expand, expand_lum] at this
theorem text_of_lumps_S {r : List Nat} (hr : r.length ≤ 1000) (q : ∀ h', Kp [] h h' → Q (.str (enc r)) h') : W (f_text_of_lumps [.str r] h) Q := by
  unfold f_text_of_lumps b_text_of_lumps
  refine W_call rfl ?_
  simp only [W_ok, W_bind, W_rbind, W_pure, W_stk, W_stk', W_alloc, W_var, W_cst, W_bin, W_un, W_if, W_aBl, W_and, W_or, W_fn, W_nil, W_cons, W_tup, W_lst, W_mth, W_onone, W_osome, W_slc, W_lam, W_joined, W_join0, W_join1, W_tof, W_tnt, W_tan, W_tor, W_tcmp, W_tys, W_chain, W_tchn, W_snil, W_seq, W_asg, W_drop, W_ret, W_retN, W_sif, W_brk, W_cnt, W_par, W_par3, W_gnm, W_gix, W_gtp, W_gs0, W_gs1, W_mkF, w_addI, w_addS, w_addT, w_subI, w_mulI, w_mulS, w_divI, w_modI, w_powI, w_eqS, w_neS, w_eqI, w_neI, w_eqB, w_neB, w_ltI, w_gtI, w_leI, w_geI, w_isN, w_isNN, w_inS, w_ninS, w_lenS, w_lenT, w_lenL, w_intI, w_absI, w_minI, w_maxI, w_divm, w_neg, w_not, w_truB, w_truS, w_truI, w_idxT, w_idxS, w_isi, List.length_cons, List.length_nil, List.map_cons, List.map_nil, List.replicate, List.cons_append, List.nil_append, List.getElem?_cons_zero, List.getElem?_cons_succ, List.set_cons_zero, List.set_cons_succ, Nat.zero_add, Nat.reduceAdd, if_true, if_false]
  by_cases e : r = []
  · subst e
    simp only [decide_true, Bool.not_true, Bool.false_eq_true, if_false]
    exact q _ Kp.refl
  · simp only [e, decide_false, Bool.not_false, if_true, tyB, beq_self_eq_true]
    refine W_compZ ?_
    simp only [W_ival, W_ok, W_bind, W_rbind, W_pure, W_stk, W_stk', W_alloc, W_var, W_cst, W_bin, W_un, W_if, W_aBl, W_and, W_or, W_fn, W_nil, W_cons, W_tup, W_lst, W_mth, W_onone, W_osome, W_slc, W_lam, W_joined, W_join0, W_join1, W_tof, W_tnt, W_tan, W_tor, W_tcmp, W_tys, W_chain, W_tchn, W_snil, W_seq, W_asg, W_drop, W_ret, W_retN, W_sif, W_brk, W_cnt, W_par, W_par3, W_gnm, W_gix, W_gtp, W_gs0, W_gs1, W_mkF, w_addI, w_addS, w_addT, w_subI, w_mulI, w_mulS, w_divI, w_modI, w_powI, w_eqS, w_neS, w_eqI, w_neI, w_eqB, w_neB, w_ltI, w_gtI, w_leI, w_geI, w_isN, w_isNN, w_inS, w_ninS, w_lenS, w_lenT, w_lenL, w_intI, w_absI, w_minI, w_maxI, w_divm, w_neg, w_not, w_truB, w_truS, w_truI, w_idxT, w_idxS, w_isi, List.length_cons, List.length_nil, List.map_cons, List.map_nil, List.replicate, List.cons_append, List.nil_append, List.getElem?_cons_zero, List.getElem?_cons_succ, List.set_cons_zero, List.set_cons_succ, Nat.zero_add, Nat.reduceAdd, if_true, if_false]
    refine lumps_of_S hr fun d h1 k1 _ hd => ?_
    rw [W_srcL hd]
    have hl := lum_len r
    refine ⟨lmpAV (lum r), ((lum r).map word).map .str, by simp [lmpAV], by simp [lmpAV], by simp [lmpAV]; omega, fun i h2 _ k => ?_, fun i a h2 ha k => ?_, fun d2 h2 k _ hd2 => ?_⟩
    · simp only [k.at hd (by simp)]
      simp
    · unfold lmpAV at ha
      rw [List.getElem?_map] at ha
      cases q1 : (lum r)[i]? with
      | none => rw [q1] at ha; cases ha
      | some p =>
        rw [q1] at ha
        cases ha
        have hp := cnt_le (List.mem_of_getElem? q1)
        have hw := num_len (show p.2 ≤ 1000 by omega)
        have hf : W (aFmt (.int (p.2 : Int)) h2) = fun Q => Q (.str (numT p.2)) h2 := funext fun Q => w_fmtI (by omega)
        have one : ([p.1] : List Nat).length ≤ 16777216 := by show 1 ≤ 16777216; omega
        simp only [wipeA, W_ok, W_bind, W_rbind, W_pure, W_stk, W_stk', W_alloc, W_var, W_cst, W_bin, W_un, W_if, W_aBl, W_and, W_or, W_fn, W_nil, W_cons, W_tup, W_lst, W_mth, W_onone, W_osome, W_slc, W_lam, W_joined, W_join0, W_join1, W_tof, W_tnt, W_tan, W_tor, W_tcmp, W_tys, W_chain, W_tchn, W_snil, W_seq, W_asg, W_drop, W_ret, W_retN, W_sif, W_brk, W_cnt, W_par, W_par3, W_gnm, W_gix, W_gtp, W_gs0, W_gs1, W_mkF, w_addI, w_addS, w_addT, w_subI, w_mulI, w_mulS, w_divI, w_modI, w_powI, w_eqS, w_neS, w_eqI, w_neI, w_eqB, w_neB, w_ltI, w_gtI, w_leI, w_geI, w_isN, w_isNN, w_inS, w_ninS, w_lenS, w_lenT, w_lenL, w_intI, w_absI, w_minI, w_maxI, w_divm, w_neg, w_not, w_truB, w_truS, w_truI, w_idxT, w_idxS, w_isi, List.length_cons, List.length_nil, List.map_cons, List.map_nil, List.replicate, List.cons_append, List.nil_append, List.getElem?_cons_zero, List.getElem?_cons_succ, List.set_cons_zero, List.set_cons_succ, Nat.zero_add, Nat.reduceAdd, if_true, if_false, hf, w_fmtS (x := [p.1]) one]
        refine ⟨by omega, by omega, ?_, Kp.refl⟩
        rw [List.getElem?_map, List.getElem?_map, q1]
        rfl
    · rw [w_join hd2]
      · have : enc r = TL.joinL [32] ((lum r).map word) := by unfold enc; rw [if_neg e]
        rw [← this]
        exact q _ (k1.trans k)
      · have := sum_le (l := (lum r).map word) (b := 5) fun w hw => by
          obtain ⟨p, hp, rfl⟩ := List.mem_map.mp hw
          have := cnt_le hp
          exact word_len (by omega)
        simp only [List.length_map, List.length_cons, List.length_nil] at this ⊢
        omega
theorem lumps_text_S {r : List Nat} (hv : Valid r) (q : ∀ h', Kp [] h h' → Q (.str (enc r)) h') : W (f_lumps_text [.str r] h) Q := by
  unfold f_lumps_text b_lumps_text
  refine W_call rfl ?_
  have := hv.2
  simp only [W_ok, W_bind, W_rbind, W_pure, W_stk, W_stk', W_alloc, W_var, W_cst, W_bin, W_un, W_if, W_aBl, W_and, W_or, W_fn, W_nil, W_cons, W_tup, W_lst, W_mth, W_onone, W_osome, W_slc, W_lam, W_joined, W_join0, W_join1, W_tof, W_tnt, W_tan, W_tor, W_tcmp, W_tys, W_chain, W_tchn, W_snil, W_seq, W_asg, W_drop, W_ret, W_retN, W_sif, W_brk, W_cnt, W_par, W_par3, W_gnm, W_gix, W_gtp, W_gs0, W_gs1, W_mkF, w_addI, w_addS, w_addT, w_subI, w_mulI, w_mulS, w_divI, w_modI, w_powI, w_eqS, w_neS, w_eqI, w_neI, w_eqB, w_neB, w_ltI, w_gtI, w_leI, w_geI, w_isN, w_isNN, w_inS, w_ninS, w_lenS, w_lenT, w_lenL, w_intI, w_absI, w_minI, w_maxI, w_divm, w_neg, w_not, w_truB, w_truS, w_truI, w_idxT, w_idxS, w_isi, List.length_cons, List.length_nil, List.map_cons, List.map_nil, List.replicate, List.cons_append, List.nil_append, List.getElem?_cons_zero, List.getElem?_cons_succ, List.set_cons_zero, List.set_cons_succ, Nat.zero_add, Nat.reduceAdd, if_true, if_false]
  refine check_row_S hv fun h1 k1 => ?_
  exact text_of_lumps_S (by omega) fun h2 k2 => q _ (k1.trans k2)
theorem lumps_S {r : List Nat} (hv : Valid r) (q : ∀ h', Kp [] h h' → Q (.tup (lmpAV (lum r))) h') : W (f_lumps [.str r] h) Q := by
  unfold f_lumps b_lumps
  refine W_call rfl ?_
  have := hv.2
  simp only [W_ok, W_bind, W_rbind, W_pure, W_stk, W_stk', W_alloc, W_var, W_cst, W_bin, W_un, W_if, W_aBl, W_and, W_or, W_fn, W_nil, W_cons, W_tup, W_lst, W_mth, W_onone, W_osome, W_slc, W_lam, W_joined, W_join0, W_join1, W_tof, W_tnt, W_tan, W_tor, W_tcmp, W_tys, W_chain, W_tchn, W_snil, W_seq, W_asg, W_drop, W_ret, W_retN, W_sif, W_brk, W_cnt, W_par, W_par3, W_gnm, W_gix, W_gtp, W_gs0, W_gs1, W_mkF, w_addI, w_addS, w_addT, w_subI, w_mulI, w_mulS, w_divI, w_modI, w_powI, w_eqS, w_neS, w_eqI, w_neI, w_eqB, w_neB, w_ltI, w_gtI, w_leI, w_geI, w_isN, w_isNN, w_inS, w_ninS, w_lenS, w_lenT, w_lenL, w_intI, w_absI, w_minI, w_maxI, w_divm, w_neg, w_not, w_truB, w_truS, w_truI, w_idxT, w_idxS, w_isi, List.length_cons, List.length_nil, List.map_cons, List.map_nil, List.replicate, List.cons_append, List.nil_append, List.getElem?_cons_zero, List.getElem?_cons_succ, List.set_cons_zero, List.set_cons_succ, Nat.zero_add, Nat.reduceAdd, if_true, if_false]
  refine check_row_S hv fun h1 k1 => ?_
  refine lumps_of_S (by omega) fun d h2 k2 _ hd => ?_
  rw [w_tupL hd]
  exact q _ (k1.trans k2)
def optI : Option Nat → AV
  | some n => .int n
  | none => .non
def optS : Option (List Nat) → AV
  | some n => .str n
  | none => .non
theorem count_told_S {x : List Nat} (hx : x.length ≤ 640) (q : ∀ h', Kp [] h h' → Q (optI (cntT x)) h') : W (f_count_told [.str x] h) Q := by
  unfold f_count_told b_count_told
  refine W_call rfl ?_
  rw [W_seq]
  simp only [W_ok, W_bind, W_rbind, W_pure, W_stk, W_stk', W_alloc, W_var, W_cst, W_bin, W_un, W_if, W_aBl, W_and, W_or, W_fn, W_nil, W_cons, W_tup, W_lst, W_mth, W_onone, W_osome, W_slc, W_lam, W_joined, W_join0, W_join1, W_tof, W_tnt, W_tan, W_tor, W_tcmp, W_tys, W_chain, W_tchn, W_snil, W_seq, W_asg, W_drop, W_ret, W_retN, W_sif, W_brk, W_cnt, W_par, W_par3, W_gnm, W_gix, W_gtp, W_gs0, W_gs1, W_mkF, w_addI, w_addS, w_addT, w_subI, w_mulI, w_mulS, w_divI, w_modI, w_powI, w_eqS, w_neS, w_eqI, w_neI, w_eqB, w_neB, w_ltI, w_gtI, w_leI, w_geI, w_isN, w_isNN, w_inS, w_ninS, w_lenS, w_lenT, w_lenL, w_intI, w_absI, w_minI, w_maxI, w_divm, w_neg, w_not, w_truB, w_truS, w_truI, w_idxT, w_idxS, w_isi, List.length_cons, List.length_nil, List.map_cons, List.map_nil, List.replicate, List.cons_append, List.nil_append, List.getElem?_cons_zero, List.getElem?_cons_succ, List.set_cons_zero, List.set_cons_succ, Nat.zero_add, Nat.reduceAdd, if_true, if_false]
  by_cases e : x = []
  · subst e
    simp only [decide_true, if_true]
    exact q _ Kp.refl
  · simp only [e, decide_false, Bool.false_eq_true, if_false]
    refine is_text_of_S (by omega) fun h1 k1 => ?_
    simp only [W_ok, W_bind, W_rbind, W_pure, W_stk, W_stk', W_alloc, W_var, W_cst, W_bin, W_un, W_if, W_aBl, W_and, W_or, W_fn, W_nil, W_cons, W_tup, W_lst, W_mth, W_onone, W_osome, W_slc, W_lam, W_joined, W_join0, W_join1, W_tof, W_tnt, W_tan, W_tor, W_tcmp, W_tys, W_chain, W_tchn, W_snil, W_seq, W_asg, W_drop, W_ret, W_retN, W_sif, W_brk, W_cnt, W_par, W_par3, W_gnm, W_gix, W_gtp, W_gs0, W_gs1, W_mkF, w_addI, w_addS, w_addT, w_subI, w_mulI, w_mulS, w_divI, w_modI, w_powI, w_eqS, w_neS, w_eqI, w_neI, w_eqB, w_neB, w_ltI, w_gtI, w_leI, w_geI, w_isN, w_isNN, w_inS, w_ninS, w_lenS, w_lenT, w_lenL, w_intI, w_absI, w_minI, w_maxI, w_divm, w_neg, w_not, w_truB, w_truS, w_truI, w_idxT, w_idxS, w_isi, List.length_cons, List.length_nil, List.map_cons, List.map_nil, List.replicate, List.cons_append, List.nil_append, List.getElem?_cons_zero, List.getElem?_cons_succ, List.set_cons_zero, List.set_cons_succ, Nat.zero_add, Nat.reduceAdd, if_true, if_false]
    cases e2 : (x.all fun c => decide (c ∈ ([48, 49, 50, 51, 52, 53, 54, 55, 56, 57] : List Nat))) with
    | false =>
      simp only [Bool.not_false, if_true]
      have : cntT x = none := by unfold cntT digs; rw [if_pos (.inr e2)]
      have := q _ k1
      rw [‹cntT x = none›] at this
      exact this
    | true =>
      simp only [Bool.not_true, Bool.false_eq_true, if_false]
      cases x with
      | nil => exact absurd rfl e
      | cons c r =>
        have i0 : L2.atI (c :: r) 0 = some c := by
          unfold L2.atI L2.ixN
          rw [if_pos (by decide), if_pos (by simp)]
          rfl
        have hd : digitB (c :: r) = true := by
          unfold digitB
          rw [List.all_eq_true] at e2 ⊢
          intro d hd
          have := of_decide_eq_true (e2 d hd)
          simp at this
          simp
          omega
        have hc : cntT (c :: r) = if c = 48 ∧ 1 < (c :: r).length then none else some (digVal (c :: r)) := by
          unfold cntT digs
          rw [if_neg (fun z => by
            rcases z with z | z
            · cases z
            · rw [e2] at z; cases z)]
          simp
        rw [if_pos (show (c :: r).length ≤ 16777216 by omega)]
        simp only [i0]
        by_cases c1 : c = 48
        · subst c1
          have hx' : r.length + 1 ≤ 640 := hx
          simp only [decide_true, if_true, W_ok, W_bind, W_rbind, W_pure, W_stk, W_stk', W_alloc, W_var, W_cst, W_bin, W_un, W_if, W_aBl, W_and, W_or, W_fn, W_nil, W_cons, W_tup, W_lst, W_mth, W_onone, W_osome, W_slc, W_lam, W_joined, W_join0, W_join1, W_tof, W_tnt, W_tan, W_tor, W_tcmp, W_tys, W_chain, W_tchn, W_snil, W_seq, W_asg, W_drop, W_ret, W_retN, W_sif, W_brk, W_cnt, W_par, W_par3, W_gnm, W_gix, W_gtp, W_gs0, W_gs1, W_mkF, w_addI, w_addS, w_addT, w_subI, w_mulI, w_mulS, w_divI, w_modI, w_powI, w_eqS, w_neS, w_eqI, w_neI, w_eqB, w_neB, w_ltI, w_gtI, w_leI, w_geI, w_isN, w_isNN, w_inS, w_ninS, w_lenS, w_lenT, w_lenL, w_intI, w_absI, w_minI, w_maxI, w_divm, w_neg, w_not, w_truB, w_truS, w_truI, w_idxT, w_idxS, w_isi, List.length_cons, List.length_nil, List.map_cons, List.map_nil, List.replicate, List.cons_append, List.nil_append, List.getElem?_cons_zero, List.getElem?_cons_succ, List.set_cons_zero, List.set_cons_succ, Nat.zero_add, Nat.reduceAdd, if_true, if_false, if_pos (show r.length + 1 ≤ 16777216 by omega)]
          by_cases c2 : 1 < (48 :: r).length
          · have c3 : ((1 : Int) < ((r.length + 1 : Nat) : Int)) := by have : 1 < r.length + 1 := c2; omega
            rw [if_pos ⟨rfl, c2⟩] at hc
            simp only [c3, decide_true, if_true]
            have := q _ k1
            rw [hc] at this
            exact this
          · have c3 : ¬ ((1 : Int) < ((r.length + 1 : Nat) : Int)) := by have : ¬ 1 < r.length + 1 := c2; omega
            rw [if_neg (fun z => c2 z.2)] at hc
            simp only [c3, decide_false, Bool.false_eq_true, if_false]
            rw [w_intS (by simp) (by omega) hd]
            have := q _ k1
            rw [hc] at this
            exact this
        · have c1' : ¬ ([c] : List Nat) = [48] := by simpa using c1
          simp only [c1', decide_false, Bool.false_eq_true, if_false]
          rw [w_intS (by simp) (by omega) hd]
          rw [if_neg (fun z => c1 z.1)] at hc
          have := q _ k1
          rw [hc] at this
          exact this
theorem cut_last (x : List Nat) : cutA x none (some (-1)) = x.dropLast := by
  unfold cutA HT.sIx
  rw [List.dropLast_eq_take]
  first
    | (simp; done)
    | (simp; omega)
    | (congr 1; simp; omega)
theorem lump_told_S {w : List Nat} (hx : w.length ≤ 640) (q : ∀ h', Kp [] h h' → Q (optS (lmpT w)) h') : W (f_lump_told [.str w] h) Q := by
  unfold f_lump_told b_lump_told
  refine W_call rfl ?_
  rw [W_seq]
  simp only [W_ok, W_bind, W_rbind, W_pure, W_stk, W_stk', W_alloc, W_var, W_cst, W_bin, W_un, W_if, W_aBl, W_and, W_or, W_fn, W_nil, W_cons, W_tup, W_lst, W_mth, W_onone, W_osome, W_slc, W_lam, W_joined, W_join0, W_join1, W_tof, W_tnt, W_tan, W_tor, W_tcmp, W_tys, W_chain, W_tchn, W_snil, W_seq, W_asg, W_drop, W_ret, W_retN, W_sif, W_brk, W_cnt, W_par, W_par3, W_gnm, W_gix, W_gtp, W_gs0, W_gs1, W_mkF, w_addI, w_addS, w_addT, w_subI, w_mulI, w_mulS, w_divI, w_modI, w_powI, w_eqS, w_neS, w_eqI, w_neI, w_eqB, w_neB, w_ltI, w_gtI, w_leI, w_geI, w_isN, w_isNN, w_inS, w_ninS, w_lenS, w_lenT, w_lenL, w_intI, w_absI, w_minI, w_maxI, w_divm, w_neg, w_not, w_truB, w_truS, w_truI, w_idxT, w_idxS, w_isi, List.length_cons, List.length_nil, List.map_cons, List.map_nil, List.replicate, List.cons_append, List.nil_append, List.getElem?_cons_zero, List.getElem?_cons_succ, List.set_cons_zero, List.set_cons_succ, Nat.zero_add, Nat.reduceAdd, if_true, if_false]
  rw [w_slcS (by omega), cut_last]
  refine count_told_S (by rw [List.length_dropLast]; omega) fun h1 k1 => ?_
  cases e : cntT w.dropLast with
  | none =>
    simp only [optI, isNon, Bool.not_true, Bool.false_eq_true, if_false]
    have := q _ k1
    unfold lmpT at this
    rw [e] at this
    exact this
  | some n =>
    have hne : w ≠ [] := fun z => by subst z; simp [cntT] at e
    simp only [optI, isNon, Bool.not_false, if_true, W_ok, W_bind, W_rbind, W_pure, W_stk, W_stk', W_alloc, W_var, W_cst, W_bin, W_un, W_if, W_aBl, W_and, W_or, W_fn, W_nil, W_cons, W_tup, W_lst, W_mth, W_onone, W_osome, W_slc, W_lam, W_joined, W_join0, W_join1, W_tof, W_tnt, W_tan, W_tor, W_tcmp, W_tys, W_chain, W_tchn, W_snil, W_seq, W_asg, W_drop, W_ret, W_retN, W_sif, W_brk, W_cnt, W_par, W_par3, W_gnm, W_gix, W_gtp, W_gs0, W_gs1, W_mkF, w_addI, w_addS, w_addT, w_subI, w_mulI, w_mulS, w_divI, w_modI, w_powI, w_eqS, w_neS, w_eqI, w_neI, w_eqB, w_neB, w_ltI, w_gtI, w_leI, w_geI, w_isN, w_isNN, w_inS, w_ninS, w_lenS, w_lenT, w_lenL, w_intI, w_absI, w_minI, w_maxI, w_divm, w_neg, w_not, w_truB, w_truS, w_truI, w_idxT, w_idxS, w_isi, List.length_cons, List.length_nil, List.map_cons, List.map_nil, List.replicate, List.cons_append, List.nil_append, List.getElem?_cons_zero, List.getElem?_cons_succ, List.set_cons_zero, List.set_cons_succ, Nat.zero_add, Nat.reduceAdd, if_true, if_false]
    have hl : ∃ c, w.getLast? = some c := ⟨_, List.getLast?_eq_some_getLast hne⟩
    obtain ⟨c, hc⟩ := hl
    have := q _ k1
    unfold lmpT at this
    rw [e, hc] at this
    dsimp only at this
    by_cases c1 : n ≤ 12
    · have c2 : ((n : Int) ≤ 12) := by omega
      simp only [c2, decide_true, if_true, if_pos (show w.length ≤ 16777216 by omega), last_atI hc, W_ok, W_bind, W_rbind, W_pure, W_stk, W_stk', W_alloc, W_var, W_cst, W_bin, W_un, W_if, W_aBl, W_and, W_or, W_fn, W_nil, W_cons, W_tup, W_lst, W_mth, W_onone, W_osome, W_slc, W_lam, W_joined, W_join0, W_join1, W_tof, W_tnt, W_tan, W_tor, W_tcmp, W_tys, W_chain, W_tchn, W_snil, W_seq, W_asg, W_drop, W_ret, W_retN, W_sif, W_brk, W_cnt, W_par, W_par3, W_gnm, W_gix, W_gtp, W_gs0, W_gs1, W_mkF, w_addI, w_addS, w_addT, w_subI, w_mulI, w_mulS, w_divI, w_modI, w_powI, w_eqS, w_neS, w_eqI, w_neI, w_eqB, w_neB, w_ltI, w_gtI, w_leI, w_geI, w_isN, w_isNN, w_inS, w_ninS, w_lenS, w_lenT, w_lenL, w_intI, w_absI, w_minI, w_maxI, w_divm, w_neg, w_not, w_truB, w_truS, w_truI, w_idxT, w_idxS, w_isi, List.length_cons, List.length_nil, List.map_cons, List.map_nil, List.replicate, List.cons_append, List.nil_append, List.getElem?_cons_zero, List.getElem?_cons_succ, List.set_cons_zero, List.set_cons_succ, Nat.zero_add, Nat.reduceAdd, if_true, if_false]
      rw [if_pos ⟨by simp, by omega, by omega⟩]
      rw [if_pos c1] at this
      have e3 : (List.replicate (n : Int).toNat [c]).flatten = List.replicate n c := by simp
      rw [e3]
      exact this
    · have c2 : ¬ ((n : Int) ≤ 12) := by omega
      simp only [c2, decide_false, Bool.false_eq_true, if_false]
      rw [if_neg c1] at this
      exact this
end P

set_option maxHeartbeats 4000000
namespace P
open Z Z.LL
variable {h : AH} {Q : AV → AH → Prop}
theorem spl_len (c : Nat) : ∀ (x acc : List Nat), (TL.spl [c] 0 acc x).length ≤ x.length + 1 ∧ ∀ w ∈ TL.spl [c] 0 acc x, w.length ≤ acc.length + x.length
  | [], acc => by simp [TL.spl]
  | d :: r, acc => by
    unfold TL.spl
    split
    · obtain ⟨h1, h2⟩ := spl_len c r []
      have e0 : ([c] : List Nat).length - 1 = 0 := rfl
      rw [e0]
      simp only [List.length_cons, List.length_nil] at h1 h2 ⊢
      refine ⟨by omega, fun w hw => ?_⟩
      rcases List.mem_cons.mp hw with rfl | hw
      · omega
      · have := h2 w hw
        omega
    · obtain ⟨h1, h2⟩ := spl_len c r (acc ++ [d])
      simp only [List.length_append, List.length_cons, List.length_nil] at h1 h2 ⊢
      exact ⟨by omega, fun w hw => by have := h2 w hw; omega⟩
theorem joinL_nil : ∀ xs : List (List Nat), TL.joinL [] xs = xs.flatten
  | [] => rfl
  | [x] => by simp [TL.joinL]
  | x :: y :: r => by
    show x ++ ([] ++ TL.joinL [] (y :: r)) = _
    rw [joinL_nil (y :: r)]
    simp
theorem lmpT_len {w x : List Nat} (h : lmpT w = some x) : x.length ≤ 12 := by
  unfold lmpT at h
  split at h
  · rename_i n c _ _
    by_cases c1 : n ≤ 12
    · rw [if_pos c1] at h
      cases h
      simpa using c1
    · rw [if_neg c1] at h; cases h
  · cases h
theorem seqO_some : ∀ {os : List (Option (List Nat))} {xs : List (List Nat)}, seqO os = some xs → os.map optS = xs.map .str ∧ os = xs.map some
  | [], xs, h => by cases h; exact ⟨rfl, rfl⟩
  | some x :: r, xs, h => by
    unfold seqO at h
    cases e : seqO r with
    | none => rw [e] at h; cases h
    | some ys =>
      rw [e] at h
      cases h
      obtain ⟨h1, h2⟩ := seqO_some e
      exact ⟨by simp only [List.map_cons, h1]; rfl, by simp only [List.map_cons, h2]⟩
  | none :: r, xs, h => by cases h
theorem seqO_none : ∀ {os : List (Option (List Nat))}, seqO os = none → inA .non (os.map optS) = true
  | [], h => by cases h
  | some x :: r, h => by
    unfold seqO at h
    cases e : seqO r with
    | none =>
      have := seqO_none e
      unfold inA at this ⊢
      simp only [List.map_cons, List.any_cons, this, Bool.or_true]
    | some ys => rw [e] at h; cases h
  | none :: r, _ => by simp [inA, optS, eqA]
theorem optS_flat (os : List (Option (List Nat))) : (os.map optS).all flatA = true := by
  rw [List.all_eq_true]
  intro a ha
  obtain ⟨o, _, rfl⟩ := List.mem_map.mp ha
  cases o <;> rfl
theorem in_strs (xs : List (List Nat)) : inA .non (xs.map .str) = false := by
  unfold inA
  rw [List.any_eq_false]
  intro a ha
  obtain ⟨o, _, rfl⟩ := List.mem_map.mp ha
  simp [eqA]
theorem w_ninL {d : Nat} {xs : List AV} {a : AV} (hd : h[d]? = some (.lst xs)) (h1 : flatA a = true) (h2 : xs.all flatA = true) : W (aNin a (.ref d) h) Q = Q (.bl (!inA a xs)) h := by
  show W (aInR true a (.ref d) h) Q = _
  unfold aInR
  simp only [hd, h1, h2, Bool.and_self, if_true, W_ok]
theorem w_inL {d : Nat} {xs : List AV} {a : AV} (hd : h[d]? = some (.lst xs)) (h1 : flatA a = true) (h2 : xs.all flatA = true) : W (aIn a (.ref d) h) Q = Q (.bl (inA a xs)) h := by
  show W (aInR false a (.ref d) h) Q = _
  unfold aInR
  simp only [hd, h1, h2, Bool.and_self, if_true, W_ok, Bool.false_eq_true, if_false]
def ws (t : List Nat) : List (List Nat) := if t ≠ NONE then TL.spl [32] 0 [] t else []
theorem ws_len {t : List Nat} : (ws t).length ≤ t.length + 1 ∧ ∀ w ∈ ws t, w.length ≤ t.length := by
  unfold ws
  split
  · have := spl_len 32 t []
    simpa using this
  · simp
def eFound : SEm := (eIf (tCmp aNe (eVar 0) (eCst (.str [110, 111, 110, 101]))) (eComp [3] (iVal (eMthT "str" aSplit (eVar 0) (aCons (eCst (.str [32])) aNil))) (gNm 3) tYs (eFn f_lump_told (aCons (eVar 3) aNil))) (eLst aNil))
def bFoundR : SSm := (sSeq (sAsg (eIf (tCmp aNin (eCst .non) (eVar 1)) (eMthT "str" aJoin (eCst (.str [])) (aCons (eVar 1) aNil)) (eCst .non)) (gNm 2))
  (sRet (eIf (tAn (tOf (eFn f_is_rowed (aCons (eVar 2) aNil))) (tCmp aEq (eFn f_text_of_lumps (aCons (eVar 2) aNil)) (eVar 0))) (eVar 2) (eCst .non))))
theorem b_row_eq : b_row_of_lumps = sSeq (sIf (tNt (tOf (eUn (aIsi .str) (eVar 0)))) (sRet (eCst .non)) sNil) (sSeq (sAsg eFound (gNm 1)) bFoundR) := rfl
theorem isT_str : isT .str .str = true := rfl
theorem row_of_lumps_S {t : List Nat} (ht : t.length ≤ 640) (q : ∀ h', Kp [] h h' → Q (optS (rdL t)) h') : W (f_row_of_lumps [.str t] h) Q := by
  unfold f_row_of_lumps
  rw [b_row_eq]
  refine W_call rfl ?_
  obtain ⟨wl1, wl2⟩ := ws_len (t := t)
  -- the words read
  have first : ∀ (P : AV → AH → Prop), (∀ d h1, Kp [] h h1 → h.length ≤ d → h1[d]? = some (.lst (((ws t).map lmpT).map optS)) → P (.ref d) h1) →
      W (eFound [some (.str t), none, none, none] h) P := by
    unfold eFound
    intro P hP
    simp only [W_if, W_tcmp, W_var, W_cst, List.getElem?_cons_zero, w_neS, W_aBl]
    by_cases e : t = NONE
    · have e2 : ws t = [] := by unfold ws; rw [if_neg (by simpa using e)]
      subst e
      simp only [decide_true, Bool.not_true, Bool.false_eq_true, if_false, W_lst, W_nil]
      refine hP _ _ (Kp.app _) (Nat.le_refl _) ?_
      rw [e2]
      simp
    · have e1 : ¬ t = [110, 111, 110, 101] := e
      have e2 : ws t = TL.spl [32] 0 [] t := by unfold ws; rw [if_pos (by simpa using e)]
      simp only [e1, decide_false, Bool.not_false, if_true]
      refine W_compZ ?_
      simp only [W_ival, W_ok, W_bind, W_rbind, W_pure, W_stk, W_stk', W_alloc, W_var, W_cst, W_bin, W_un, W_if, W_aBl, W_and, W_or, W_fn, W_nil, W_cons, W_tup, W_lst, W_mth, W_onone, W_osome, W_slc, W_lam, W_joined, W_join0, W_join1, W_tof, W_tnt, W_tan, W_tor, W_tcmp, W_tys, W_chain, W_tchn, W_snil, W_seq, W_asg, W_drop, W_ret, W_retN, W_sif, W_brk, W_cnt, W_par, W_par3, W_gnm, W_gix, W_gtp, W_gs0, W_gs1, W_mkF, w_addI, w_addS, w_addT, w_subI, w_mulI, w_mulS, w_divI, w_modI, w_powI, w_eqS, w_neS, w_eqI, w_neI, w_eqB, w_neB, w_ltI, w_gtI, w_leI, w_geI, w_isN, w_isNN, w_inS, w_ninS, w_lenS, w_lenT, w_lenL, w_intI, w_absI, w_minI, w_maxI, w_divm, w_neg, w_not, w_truB, w_truS, w_truI, w_idxT, w_idxS, w_isi, List.length_cons, List.length_nil, List.map_cons, List.map_nil, List.replicate, List.cons_append, List.nil_append, List.getElem?_cons_zero, List.getElem?_cons_succ, List.set_cons_zero, List.set_cons_succ, Nat.zero_add, Nat.reduceAdd, if_true, if_false, tyB, beq_self_eq_true]
      rw [w_split (by simp) (by omega) (by decide), W_srcL (xs := (ws t).map .str) (by rw [e2]; simp)]
      have hd : (h ++ [AO.lst ((TL.spl [32] 0 [] t).map .str)])[h.length]? = some (.lst ((ws t).map .str)) := by rw [e2]; simp
      refine ⟨(ws t).map .str, ((ws t).map lmpT).map optS, by simp, by simp, by simp; omega, fun i h2 _ k => ?_, fun i a h2 ha k => ?_, fun d h2 k hd1 hd2 => ?_⟩
      · simp only [k.at hd (by simp)]
        simp
      · rw [List.getElem?_map] at ha
        cases q1 : (ws t)[i]? with
        | none => rw [q1] at ha; cases ha
        | some w =>
          rw [q1] at ha
          cases ha
          have hw := wl2 w (List.mem_of_getElem? q1)
          simp only [wipeA, W_ok, W_bind, W_rbind, W_pure, W_stk, W_stk', W_alloc, W_var, W_cst, W_bin, W_un, W_if, W_aBl, W_and, W_or, W_fn, W_nil, W_cons, W_tup, W_lst, W_mth, W_onone, W_osome, W_slc, W_lam, W_joined, W_join0, W_join1, W_tof, W_tnt, W_tan, W_tor, W_tcmp, W_tys, W_chain, W_tchn, W_snil, W_seq, W_asg, W_drop, W_ret, W_retN, W_sif, W_brk, W_cnt, W_par, W_par3, W_gnm, W_gix, W_gtp, W_gs0, W_gs1, W_mkF, w_addI, w_addS, w_addT, w_subI, w_mulI, w_mulS, w_divI, w_modI, w_powI, w_eqS, w_neS, w_eqI, w_neI, w_eqB, w_neB, w_ltI, w_gtI, w_leI, w_geI, w_isN, w_isNN, w_inS, w_ninS, w_lenS, w_lenT, w_lenL, w_intI, w_absI, w_minI, w_maxI, w_divm, w_neg, w_not, w_truB, w_truS, w_truI, w_idxT, w_idxS, w_isi, List.length_cons, List.length_nil, List.map_cons, List.map_nil, List.replicate, List.cons_append, List.nil_append, List.getElem?_cons_zero, List.getElem?_cons_succ, List.set_cons_zero, List.set_cons_succ, Nat.zero_add, Nat.reduceAdd, if_true, if_false]
          refine lump_told_S (by omega) fun h3 k3 => ⟨?_, k3⟩
          rw [List.getElem?_map, List.getElem?_map, q1]
          rfl
      · exact hP d h2 ((Kp.app _).trans k) (by simp at hd1; omega) hd2
  simp only [W_seq, W_sif, W_tnt, W_tof, W_un, W_var, List.map_cons, List.map_nil, List.replicate, List.cons_append, List.nil_append, List.getElem?_cons_zero, w_isi, tyOf, isT_str, w_truB, Bool.not_true, Bool.false_eq_true, if_false, W_snil, W_asg]
  refine first _ fun d h1 k1 _ hd => ?_
  unfold bFoundR
  simp only [W_ok, W_bind, W_rbind, W_pure, W_stk, W_stk', W_alloc, W_var, W_cst, W_bin, W_un, W_if, W_aBl, W_and, W_or, W_fn, W_nil, W_cons, W_tup, W_lst, W_mth, W_onone, W_osome, W_slc, W_lam, W_joined, W_join0, W_join1, W_tof, W_tnt, W_tan, W_tor, W_tcmp, W_tys, W_chain, W_tchn, W_snil, W_seq, W_asg, W_drop, W_ret, W_retN, W_sif, W_brk, W_cnt, W_par, W_par3, W_gnm, W_gix, W_gtp, W_gs0, W_gs1, W_mkF, w_addI, w_addS, w_addT, w_subI, w_mulI, w_mulS, w_divI, w_modI, w_powI, w_eqS, w_neS, w_eqI, w_neI, w_eqB, w_neB, w_ltI, w_gtI, w_leI, w_geI, w_isN, w_isNN, w_inS, w_ninS, w_lenS, w_lenT, w_lenL, w_intI, w_absI, w_minI, w_maxI, w_divm, w_neg, w_not, w_truB, w_truS, w_truI, w_idxT, w_idxS, w_isi, List.length_cons, List.length_nil, List.map_cons, List.map_nil, List.replicate, List.cons_append, List.nil_append, List.getElem?_cons_zero, List.getElem?_cons_succ, List.set_cons_zero, List.set_cons_succ, Nat.zero_add, Nat.reduceAdd, if_true, if_false]
  have fl := optS_flat ((ws t).map lmpT)
  rw [w_ninL hd rfl fl]
  cases e : seqO ((ws t).map lmpT) with
  | none =>
    rw [seqO_none e]
    simp only [Bool.not_true, Bool.false_eq_true, if_false]
    have hn : rdL t = none := by
      rw [← rdP_eq]
      unfold rdP
      have : (if t ≠ NONE then TL.spl [32] 0 [] t else []) = ws t := rfl
      rw [this, e]
    refine is_rowed_N (t := .non) rfl rfl ?_
    simp only [W_ok, W_bind, W_rbind, W_pure, W_stk, W_stk', W_alloc, W_var, W_cst, W_bin, W_un, W_if, W_aBl, W_and, W_or, W_fn, W_nil, W_cons, W_tup, W_lst, W_mth, W_onone, W_osome, W_slc, W_lam, W_joined, W_join0, W_join1, W_tof, W_tnt, W_tan, W_tor, W_tcmp, W_tys, W_chain, W_tchn, W_snil, W_seq, W_asg, W_drop, W_ret, W_retN, W_sif, W_brk, W_cnt, W_par, W_par3, W_gnm, W_gix, W_gtp, W_gs0, W_gs1, W_mkF, w_addI, w_addS, w_addT, w_subI, w_mulI, w_mulS, w_divI, w_modI, w_powI, w_eqS, w_neS, w_eqI, w_neI, w_eqB, w_neB, w_ltI, w_gtI, w_leI, w_geI, w_isN, w_isNN, w_inS, w_ninS, w_lenS, w_lenT, w_lenL, w_intI, w_absI, w_minI, w_maxI, w_divm, w_neg, w_not, w_truB, w_truS, w_truI, w_idxT, w_idxS, w_isi, List.length_cons, List.length_nil, List.map_cons, List.map_nil, List.replicate, List.cons_append, List.nil_append, List.getElem?_cons_zero, List.getElem?_cons_succ, List.set_cons_zero, List.set_cons_succ, Nat.zero_add, Nat.reduceAdd, if_true, if_false, Bool.false_eq_true]
    have := q _ k1
    rw [hn] at this
    exact this
  | some xs =>
    obtain ⟨e1, e2⟩ := seqO_some e
    rw [e1] at hd ⊢
    have hx : ∀ x ∈ xs, x.length ≤ 12 := fun x hx => by
      have : some x ∈ (ws t).map lmpT := by rw [e2]; exact List.mem_map.mpr ⟨x, hx, rfl⟩
      obtain ⟨w, _, hw⟩ := List.mem_map.mp this
      exact lmpT_len hw
    have hxl : xs.length ≤ t.length + 1 := by
      have := congrArg List.length e2
      simp at this
      omega
    have hs := sum_le hx
    have hfl : xs.flatten.length ≤ xs.length * 12 := by rw [List.length_flatten]; exact hs
    rw [in_strs]
    simp only [Bool.not_false, if_true]
    rw [w_join hd (by simp; omega), joinL_nil]
    refine is_rowed_S (by omega) fun h2 k2 => ?_
    have hr : rdL t = if vB xs.flatten = true ∧ enc xs.flatten = t then some xs.flatten else none := by
      rw [← rdP_eq]
      unfold rdP
      have : (if t ≠ NONE then TL.spl [32] 0 [] t else []) = ws t := rfl
      rw [this, e]
    simp only [W_ok, W_bind, W_rbind, W_pure, W_stk, W_stk', W_alloc, W_var, W_cst, W_bin, W_un, W_if, W_aBl, W_and, W_or, W_fn, W_nil, W_cons, W_tup, W_lst, W_mth, W_onone, W_osome, W_slc, W_lam, W_joined, W_join0, W_join1, W_tof, W_tnt, W_tan, W_tor, W_tcmp, W_tys, W_chain, W_tchn, W_snil, W_seq, W_asg, W_drop, W_ret, W_retN, W_sif, W_brk, W_cnt, W_par, W_par3, W_gnm, W_gix, W_gtp, W_gs0, W_gs1, W_mkF, w_addI, w_addS, w_addT, w_subI, w_mulI, w_mulS, w_divI, w_modI, w_powI, w_eqS, w_neS, w_eqI, w_neI, w_eqB, w_neB, w_ltI, w_gtI, w_leI, w_geI, w_isN, w_isNN, w_inS, w_ninS, w_lenS, w_lenT, w_lenL, w_intI, w_absI, w_minI, w_maxI, w_divm, w_neg, w_not, w_truB, w_truS, w_truI, w_idxT, w_idxS, w_isi, List.length_cons, List.length_nil, List.map_cons, List.map_nil, List.replicate, List.cons_append, List.nil_append, List.getElem?_cons_zero, List.getElem?_cons_succ, List.set_cons_zero, List.set_cons_succ, Nat.zero_add, Nat.reduceAdd, if_true, if_false]
    cases c : vB xs.flatten with
    | false =>
      simp only [Bool.false_eq_true, if_false]
      rw [c, if_neg (by simp)] at hr
      have := q _ (k1.trans k2)
      rw [hr] at this
      exact this
    | true =>
      simp only [if_true]
      have hv := vB_iff.mp c
      have := hv.2
      refine text_of_lumps_S (by omega) fun h3 k3 => ?_
      simp only [W_ok, W_bind, W_rbind, W_pure, W_stk, W_stk', W_alloc, W_var, W_cst, W_bin, W_un, W_if, W_aBl, W_and, W_or, W_fn, W_nil, W_cons, W_tup, W_lst, W_mth, W_onone, W_osome, W_slc, W_lam, W_joined, W_join0, W_join1, W_tof, W_tnt, W_tan, W_tor, W_tcmp, W_tys, W_chain, W_tchn, W_snil, W_seq, W_asg, W_drop, W_ret, W_retN, W_sif, W_brk, W_cnt, W_par, W_par3, W_gnm, W_gix, W_gtp, W_gs0, W_gs1, W_mkF, w_addI, w_addS, w_addT, w_subI, w_mulI, w_mulS, w_divI, w_modI, w_powI, w_eqS, w_neS, w_eqI, w_neI, w_eqB, w_neB, w_ltI, w_gtI, w_leI, w_geI, w_isN, w_isNN, w_inS, w_ninS, w_lenS, w_lenT, w_lenL, w_intI, w_absI, w_minI, w_maxI, w_divm, w_neg, w_not, w_truB, w_truS, w_truI, w_idxT, w_idxS, w_isi, List.length_cons, List.length_nil, List.map_cons, List.map_nil, List.replicate, List.cons_append, List.nil_append, List.getElem?_cons_zero, List.getElem?_cons_succ, List.set_cons_zero, List.set_cons_succ, Nat.zero_add, Nat.reduceAdd, if_true, if_false]
      have qq := q _ ((k1.trans k2).trans k3)
      rw [hr, c] at qq
      by_cases e4 : enc xs.flatten = t
      · rw [if_pos ⟨rfl, e4⟩] at qq
        simp only [e4, decide_true, if_true]
        exact qq
      · rw [if_neg (fun z => e4 z.2)] at qq
        simp only [e4, decide_false, Bool.false_eq_true, if_false]
        exact qq
theorem row_of_lumps_N {a : AV} {t : Ty} (ht : tyOf a h = some t) (hn : isT t .str = false) (q : Q .non h) : W (f_row_of_lumps [a] h) Q := by
  unfold f_row_of_lumps b_row_of_lumps
  refine W_call rfl ?_
  rw [W_seq]
  simp only [W_sif, W_tnt, W_tof, W_un, W_var, List.map_cons, List.cons_append, List.getElem?_cons_zero, w_isi, ht, hn, w_truB, Bool.not_false, if_true, W_ret, W_cst]
  exact q
theorem read_ok {t r : List Nat} (ht : t.length ≤ 640) (hr : rdL t = some r) (q : ∀ h', Kp [] h h' → Q (.str r) h') : W (f_read_lumps [.str t] h) Q := by
  unfold f_read_lumps b_read_lumps
  refine W_call rfl ?_
  simp only [W_ok, W_bind, W_rbind, W_pure, W_stk, W_stk', W_alloc, W_var, W_cst, W_bin, W_un, W_if, W_aBl, W_and, W_or, W_fn, W_nil, W_cons, W_tup, W_lst, W_mth, W_onone, W_osome, W_slc, W_lam, W_joined, W_join0, W_join1, W_tof, W_tnt, W_tan, W_tor, W_tcmp, W_tys, W_chain, W_tchn, W_snil, W_seq, W_asg, W_drop, W_ret, W_retN, W_sif, W_brk, W_cnt, W_par, W_par3, W_gnm, W_gix, W_gtp, W_gs0, W_gs1, W_mkF, w_addI, w_addS, w_addT, w_subI, w_mulI, w_mulS, w_divI, w_modI, w_powI, w_eqS, w_neS, w_eqI, w_neI, w_eqB, w_neB, w_ltI, w_gtI, w_leI, w_geI, w_isN, w_isNN, w_inS, w_ninS, w_lenS, w_lenT, w_lenL, w_intI, w_absI, w_minI, w_maxI, w_divm, w_neg, w_not, w_truB, w_truS, w_truI, w_idxT, w_idxS, w_isi, List.length_cons, List.length_nil, List.map_cons, List.map_nil, List.replicate, List.cons_append, List.nil_append, List.getElem?_cons_zero, List.getElem?_cons_succ, List.set_cons_zero, List.set_cons_succ, Nat.zero_add, Nat.reduceAdd, if_true, if_false]
  refine row_of_lumps_S ht fun h1 k1 => ?_
  rw [hr]
  unfold optS f_check_told b_check_told
  refine W_call rfl ?_
  simp only [W_ok, W_bind, W_rbind, W_pure, W_stk, W_stk', W_alloc, W_var, W_cst, W_bin, W_un, W_if, W_aBl, W_and, W_or, W_fn, W_nil, W_cons, W_tup, W_lst, W_mth, W_onone, W_osome, W_slc, W_lam, W_joined, W_join0, W_join1, W_tof, W_tnt, W_tan, W_tor, W_tcmp, W_tys, W_chain, W_tchn, W_snil, W_seq, W_asg, W_drop, W_ret, W_retN, W_sif, W_brk, W_cnt, W_par, W_par3, W_gnm, W_gix, W_gtp, W_gs0, W_gs1, W_mkF, w_addI, w_addS, w_addT, w_subI, w_mulI, w_mulS, w_divI, w_modI, w_powI, w_eqS, w_neS, w_eqI, w_neI, w_eqB, w_neB, w_ltI, w_gtI, w_leI, w_geI, w_isN, w_isNN, w_inS, w_ninS, w_lenS, w_lenT, w_lenL, w_intI, w_absI, w_minI, w_maxI, w_divm, w_neg, w_not, w_truB, w_truS, w_truI, w_idxT, w_idxS, w_isi, List.length_cons, List.length_nil, List.map_cons, List.map_nil, List.replicate, List.cons_append, List.nil_append, List.getElem?_cons_zero, List.getElem?_cons_succ, List.set_cons_zero, List.set_cons_succ, Nat.zero_add, Nat.reduceAdd, if_true, if_false, isNon, Bool.false_eq_true]
  exact q _ k1
theorem read_exc {a : AV} (hr : W (f_row_of_lumps [a] h) fun v h' => v = .non ∧ Kp [] h h') : ∃ h', f_read_lumps [a] h = .exc "InvalidText" a h' ∧ Kp [] h h' := by
  obtain ⟨v, h', e, rfl, k⟩ := hr.ex
  refine ⟨h', ?_, k⟩
  simp [f_read_lumps, b_read_lumps, mkF, sSeq, sAsg, eFn, aCons, aNil, eVar, M.bind, R.bind, M.pure, gNm, sDrop, e, f_check_told, b_check_told, sIf, tCmp, aIsN, aIs, isNon, aBl, sRaise, eCst]
theorem heard_ok {t r : List Nat} {told tag : List Nat} (ht : t.length ≤ 640) (hr : rdL t = some r) (q : ∀ d h', Kp [] h h' → h'[d]? = some (.lst [.str told, .str r]) → Q (.ref d) h') : W (heardF "InvalidText" told tag (f_read_lumps [.str t]) h) Q := by
  have := read_ok (h := h) (Q := fun a h' => a = .str r ∧ Kp [] h h') ht hr fun h' k => ⟨rfl, k⟩
  obtain ⟨a, h', e, rfl, k⟩ := this.ex
  unfold heardF
  rw [e]
  simp only [W_alloc]
  exact q _ _ (k.trans (Kp.app _)) (by simp)
theorem heard_no {a : AV} {told tag : List Nat} (hr : W (f_row_of_lumps [a] h) fun v h' => v = .non ∧ Kp [] h h') (q : ∀ d h', Kp [] h h' → h'[d]? = some (.lst [.str tag, a]) → Q (.ref d) h') : W (heardF "InvalidText" told tag (f_read_lumps [a]) h) Q := by
  obtain ⟨h', e, k⟩ := read_exc hr
  unfold heardF
  rw [e]
  simp only [if_true, W_alloc]
  exact q _ _ (k.trans (Kp.app _)) (by simp)
end P

set_option maxHeartbeats 4000000
namespace P
open Z Z.LL
variable {h : AH} {Q : AV → AH → Prop}
def eNums : SEm := (eComp [4] (iRange2 (aCons (eCst (.int 1)) (aCons (eCst (.int 13)) aNil))) (gNm 4) tYs (eFn aStr (aCons (eVar 4) aNil)))
def bWord : SSm := (sSeq (sAsg (eSlc (eVar 2) oNone (oSome (eUn aNeg (eCst (.int 1))))) (gNm 3))
  (sSeq (sIf (tOrr (tCmp aEq (eVar 2) (eCst (.str []))) (tOrr (tCmp aNin (eBin aIdx (eVar 2) (eUn aNeg (eCst (.int 1)))) (eCst (.str [97, 98, 99, 100, 101, 102]))) (tCmp aNin (eVar 3) eNums))) (sRet (eLst aNil))
  sNil)
  (sSeq (sIf (tAn (tCmp aNe (eVar 1) (eCst (.str []))) (tCmp aEq (eBin aIdx (eVar 1) (eUn aNeg (eCst (.int 1)))) (eBin aIdx (eVar 2) (eUn aNeg (eCst (.int 1)))))) (sRet (eLst aNil))
  sNil)
  (sAsg (eBin aAdd (eVar 1) (eBin aMul (eBin aIdx (eVar 2) (eUn aNeg (eCst (.int 1)))) (eFn aInt (aCons (eVar 3) aNil)))) (gNm 1)))))
def iWords : SSrc := (iVal (eIf (tCmp aNe (eVar 0) (eCst (.str [110, 111, 110, 101]))) (eMthT "str" aSplit (eVar 0) (aCons (eCst (.str [32])) aNil)) (eLst aNil)))
def bReadR : SSm := (sRet (eIf (tCmp aLe (eFn aLen (aCons (eVar 1) aNil)) (eCst (.int 12))) (eLst (aCons (eVar 1) aNil)) (eLst aNil)))
theorem b_lread_eq : b_lread = sSeq (sAsg (eCst (.str [])) (gNm 1)) (sSeq (sFor iWords (gNm 2) bWord) bReadR) := rfl
def numsAV : List AV := (List.range 12).map fun i => .str (numT (i + 1))
theorem in_nums (x : List Nat) : inA (.str x) numsAV = true ↔ ∃ n, 1 ≤ n ∧ n ≤ 12 ∧ x = numT n := by
  unfold inA numsAV
  rw [List.any_eq_true]
  constructor
  · rintro ⟨a, ha, e⟩
    obtain ⟨i, hi, rfl⟩ := List.mem_map.mp ha
    have hi := List.mem_range.mp hi
    have : numT (i + 1) = x := of_decide_eq_true e
    exact ⟨i + 1, by omega, by omega, this.symm⟩
  · rintro ⟨n, n1, n2, rfl⟩
    refine ⟨.str (numT n), List.mem_map.mpr ⟨n - 1, List.mem_range.mpr (by omega), by congr 2; omega⟩, ?_⟩
    exact decide_eq_true rfl
theorem nums_flat : numsAV.all flatA = true := by
  rw [List.all_eq_true]
  intro a ha
  obtain ⟨i, _, rfl⟩ := List.mem_map.mp ha
  rfl
theorem eNums_W {σ : AS} {P : AV → AH → Prop} (hs : 4 < σ.length) (q : ∀ d h', Kp [] h h' → h'[d]? = some (.lst numsAV) → P (.ref d) h') : W (eNums σ h) P := by
  unfold eNums
  refine W_compZ ?_
  simp only [W_range2, W_ok, W_bind, W_rbind, W_pure, W_stk, W_stk', W_alloc, W_var, W_cst, W_bin, W_un, W_if, W_aBl, W_and, W_or, W_fn, W_nil, W_cons, W_tup, W_lst, W_mth, W_onone, W_osome, W_slc, W_lam, W_joined, W_join0, W_join1, W_tof, W_tnt, W_tan, W_tor, W_tcmp, W_tys, W_chain, W_tchn, W_snil, W_seq, W_asg, W_drop, W_ret, W_retN, W_sif, W_brk, W_cnt, W_par, W_par3, W_gnm, W_gix, W_gtp, W_gs0, W_gs1, W_mkF, w_addI, w_addS, w_addT, w_subI, w_mulI, w_mulS, w_divI, w_modI, w_powI, w_eqS, w_neS, w_eqI, w_neI, w_eqB, w_neB, w_ltI, w_gtI, w_leI, w_geI, w_isN, w_isNN, w_inS, w_ninS, w_lenS, w_lenT, w_lenL, w_intI, w_absI, w_minI, w_maxI, w_divm, w_neg, w_not, w_truB, w_truS, w_truI, w_idxT, w_idxS, w_isi, List.length_cons, List.length_nil, List.map_cons, List.map_nil, List.replicate, List.cons_append, List.nil_append, List.getElem?_cons_zero, List.getElem?_cons_succ, List.set_cons_zero, List.set_cons_succ, Nat.zero_add, Nat.reduceAdd, if_true, if_false]
  rw [if_pos (by decide)]
  have e12 : ((13 : Int) - 1).toNat = 12 := rfl
  rw [e12]
  refine ⟨(List.range 12).map fun (i : Nat) => .int (1 + (i : Int)), numsAV, by simp, by simp [numsAV], by simp, fun i h2 hi _ => ?_, fun i a h2 ha k => ?_, fun d h2 k _ hd => q d h2 k hd⟩
  · show some (if i < 12 then some (AV.int (1 + (i : Int))) else none) = some _
    rw [List.getElem?_map]
    by_cases c : i < 12
    · rw [List.getElem?_range c, if_pos c]; rfl
    · rw [List.getElem?_eq_none (by simpa using c), if_neg c]; rfl
  · rw [List.getElem?_map] at ha
    by_cases c : i < 12
    · rw [List.getElem?_range c] at ha
      cases ha
      have e1 : (1 + (i : Int)) = ((i + 1 : Nat) : Int) := by omega
      have e2 : ((σ.set 4 none).set 4 (some (AV.int (1 + (i : Int)))))[4]? = some (some (.int ((i + 1 : Nat) : Int))) := by
        rw [List.getElem?_set_self (by simpa using hs), e1]
      simp only [W_gnm, W_fn, W_cons, W_nil, W_var, wipeA, e2]
      rw [w_strI (by omega)]
      refine ⟨?_, Kp.refl⟩
      unfold numsAV
      rw [List.getElem?_map, List.getElem?_range c]
      rfl
    · rw [List.getElem?_eq_none (by simpa using c)] at ha
      cases ha
theorem num_dig {n : Nat} : digitB (numT n) = true := by
  unfold digitB
  rw [List.all_eq_true]
  intro c hc
  have := TL.numL_digits n c hc
  simp
  omega
theorem step_W {a v3 v4 : Option AV} {row w : List Nat} {F : Fl → AH → Prop} (hw : w.length ≤ 640) (hr : row.length ≤ 100000) (q1 : step row w = none → ∀ d h', Kp [] h h' → h.length ≤ d → h'[d]? = some (.lst []) → F (.rt (.ref d)) h')
    (q2 : ∀ row', step row w = some row' → ∀ u h', Kp [] h h' → F (.nx [a, some (.str row'), some (.str w), u, v4]) h') : W (bWord [a, some (.str row), some (.str w), v3, v4] h) F := by
  have ret : step row w = none → ∀ h1, Kp [] h h1 → F (.rt (.ref h1.length)) (h1 ++ [.lst []]) := fun e h1 k1 => q1 e _ _ (k1.trans (Kp.app _)) k1.1 (by simp)
  unfold bWord
  rw [W_seq]
  simp only [W_asg, W_slc, W_var, W_onone, W_osome, W_un, W_cst, w_neg, List.getElem?_cons_zero, List.getElem?_cons_succ, w_slcS (show w.length ≤ 16777216 by omega), cut_last, W_gnm, List.set_cons_succ, List.set_cons_zero]
  rw [W_seq]
  by_cases c1 : w = []
  · subst c1
    simp only [W_ok, W_bind, W_rbind, W_pure, W_stk, W_stk', W_alloc, W_var, W_cst, W_bin, W_un, W_if, W_aBl, W_and, W_or, W_fn, W_nil, W_cons, W_tup, W_lst, W_mth, W_onone, W_osome, W_slc, W_lam, W_joined, W_join0, W_join1, W_tof, W_tnt, W_tan, W_tor, W_tcmp, W_tys, W_chain, W_tchn, W_snil, W_seq, W_asg, W_drop, W_ret, W_retN, W_sif, W_brk, W_cnt, W_par, W_par3, W_gnm, W_gix, W_gtp, W_gs0, W_gs1, W_mkF, w_addI, w_addS, w_addT, w_subI, w_mulI, w_mulS, w_divI, w_modI, w_powI, w_eqS, w_neS, w_eqI, w_neI, w_eqB, w_neB, w_ltI, w_gtI, w_leI, w_geI, w_isN, w_isNN, w_inS, w_ninS, w_lenS, w_lenT, w_lenL, w_intI, w_absI, w_minI, w_maxI, w_divm, w_neg, w_not, w_truB, w_truS, w_truI, w_idxT, w_idxS, w_isi, List.length_cons, List.length_nil, List.map_cons, List.map_nil, List.replicate, List.cons_append, List.nil_append, List.getElem?_cons_zero, List.getElem?_cons_succ, List.set_cons_zero, List.set_cons_succ, Nat.zero_add, Nat.reduceAdd, if_true, if_false, decide_true]
    refine ret ?_ h Kp.refl
    unfold step
    rw [if_pos (.inl rfl)]
  · obtain ⟨c, hc⟩ : ∃ c, w.getLast? = some c := ⟨_, List.getLast?_eq_some_getLast c1⟩
    by_cases c2 : c ∈ abc
    · have c2' : c ∈ ([97, 98, 99, 100, 101, 102] : List Nat) := c2
      have enter : W (sIf (tOrr (tCmp aEq (eVar 2) (eCst (.str []))) (tOrr (tCmp aNin (eBin aIdx (eVar 2) (eUn aNeg (eCst (.int 1)))) (eCst (.str [97, 98, 99, 100, 101, 102]))) (tCmp aNin (eVar 3) eNums))) (sRet (eLst aNil)) sNil [a, some (.str row), some (.str w), some (.str w.dropLast), v4] h) = fun P : Fl → AH → Prop =>
          W (eNums [a, some (.str row), some (.str w), some (.str w.dropLast), v4] h) fun y h => W (aNin (.str w.dropLast) y h) fun z h => W (aBl z h) fun b h => if b = true then P (.rt (.ref h.length)) (h ++ [.lst []]) else P (.nx [a, some (.str row), some (.str w), some (.str w.dropLast), v4]) h := by
        funext P
        simp only [W_ok, W_bind, W_rbind, W_pure, W_stk, W_stk', W_alloc, W_var, W_cst, W_bin, W_un, W_if, W_aBl, W_and, W_or, W_fn, W_nil, W_cons, W_tup, W_lst, W_mth, W_onone, W_osome, W_slc, W_lam, W_joined, W_join0, W_join1, W_tof, W_tnt, W_tan, W_tor, W_tcmp, W_tys, W_chain, W_tchn, W_snil, W_seq, W_asg, W_drop, W_ret, W_retN, W_sif, W_brk, W_cnt, W_par, W_par3, W_gnm, W_gix, W_gtp, W_gs0, W_gs1, W_mkF, w_addI, w_addS, w_addT, w_subI, w_mulI, w_mulS, w_divI, w_modI, w_powI, w_eqS, w_neS, w_eqI, w_neI, w_eqB, w_neB, w_ltI, w_gtI, w_leI, w_geI, w_isN, w_isNN, w_inS, w_ninS, w_lenS, w_lenT, w_lenL, w_intI, w_absI, w_minI, w_maxI, w_divm, w_neg, w_not, w_truB, w_truS, w_truI, w_idxT, w_idxS, w_isi, List.length_cons, List.length_nil, List.map_cons, List.map_nil, List.replicate, List.cons_append, List.nil_append, List.getElem?_cons_zero, List.getElem?_cons_succ, List.set_cons_zero, List.set_cons_succ, Nat.zero_add, Nat.reduceAdd, if_true, if_false, c1, decide_false, Bool.false_eq_true, if_pos (show w.length ≤ 16777216 by omega), last_atI hc, c2', decide_true, Bool.not_true]
      rw [enter]
      refine eNums_W (by simp) fun d h1 k1 hd => ?_
      rw [w_ninL hd rfl nums_flat, W_aBl]
      cases c3 : inA (.str w.dropLast) numsAV with
      | false =>
        simp only [Bool.not_false, if_true]
        refine ret ?_ h1 k1
        unfold step
        rw [if_pos (.inr (.inr (.inl fun n n1 n2 e => by
          have := (in_nums w.dropLast).mpr ⟨n, n1, n2, e⟩
          rw [c3] at this
          cases this)))]
      | true =>
        obtain ⟨n, n1, n2, e⟩ := (in_nums w.dropLast).mp c3
        simp only [Bool.not_true, Bool.false_eq_true, if_false]
        have d1 : numT n ≠ [] := TL.numL_ne n
        have d2 : (numT n).length ≤ 640 := by have := num_len (n := n) (by omega); omega
        have fin : ¬ (row ≠ [] ∧ row.getLast? = w.getLast?) → W (sAsg (eBin aAdd (eVar 1) (eBin aMul (eBin aIdx (eVar 2) (eUn aNeg (eCst (.int 1)))) (eFn aInt (aCons (eVar 3) aNil)))) (gNm 1) [a, some (.str row), some (.str w), some (.str w.dropLast), v4] h1) F := by
          intro hn
          have hs : step row w = some (row ++ List.replicate n c) := by
            unfold step
            rw [if_neg]
            · rw [hc, e, digVal_num]
            · rintro (z | z | z | z)
              · exact c1 z
              · exact z c hc c2
              · exact z n n1 n2 e
              · exact hn z
          have e3 : (List.replicate ((n : Nat) : Int).toNat [c]).flatten = List.replicate n c := by simp
          have l1 : ([c] : List Nat).length ≤ 1000 ∧ -1000 ≤ ((n : Nat) : Int) ∧ ((n : Nat) : Int) ≤ 1000 := ⟨by show 1 ≤ 1000; omega, by omega, by omega⟩
          have l2 : row.length + (List.replicate n c).length ≤ 16777216 := by rw [List.length_replicate]; omega
          simp only [W_asg, W_bin, W_var, W_un, W_cst, w_neg, W_fn, W_cons, W_nil, List.getElem?_cons_zero, List.getElem?_cons_succ, w_idxS, if_pos (show w.length ≤ 16777216 by omega), last_atI hc, e, w_intS d1 d2 num_dig, digVal_num, w_mulS, if_pos l1, e3, w_addS, if_pos l2, W_gnm, List.set_cons_succ, List.set_cons_zero]
          exact q2 _ hs _ _ k1
        rw [W_seq]
        by_cases c4 : row = []
        · subst c4
          have := fin (fun z => z.1 rfl)
          simp only [W_sif, W_tan, W_tcmp, W_var, W_cst, List.getElem?_cons_zero, List.getElem?_cons_succ, w_neS, W_aBl, decide_true, Bool.not_true, Bool.false_eq_true, if_false, W_snil]
          exact this
        · obtain ⟨d', hd'⟩ : ∃ c, row.getLast? = some c := ⟨_, List.getLast?_eq_some_getLast c4⟩
          simp only [W_sif, W_tan, W_tcmp, W_var, W_cst, W_bin, W_un, w_neg, List.getElem?_cons_zero, List.getElem?_cons_succ, w_neS, W_aBl, c4, decide_false, Bool.not_false, if_true, w_idxS, if_pos (show row.length ≤ 16777216 by omega), if_pos (show w.length ≤ 16777216 by omega), last_atI hc, last_atI hd', w_eqS]
          by_cases c5 : d' = c
          · subst c5
            simp only [decide_true, if_true, W_ret, W_lst, W_nil]
            refine ret ?_ h1 k1
            unfold step
            rw [if_pos (.inr (.inr (.inr ⟨c4, by rw [hd', hc]⟩)))]
          · have c5' : ¬ ([d'] : List Nat) = [c] := by simpa using c5
            have := fin (fun z => c5 (by have := z.2; rw [hd', hc] at this; exact Option.some.inj this))
            simp only [c5', decide_false, Bool.false_eq_true, if_false, W_snil]
            exact this
    · have c2' : ¬ c ∈ ([97, 98, 99, 100, 101, 102] : List Nat) := c2
      simp only [W_ok, W_bind, W_rbind, W_pure, W_stk, W_stk', W_alloc, W_var, W_cst, W_bin, W_un, W_if, W_aBl, W_and, W_or, W_fn, W_nil, W_cons, W_tup, W_lst, W_mth, W_onone, W_osome, W_slc, W_lam, W_joined, W_join0, W_join1, W_tof, W_tnt, W_tan, W_tor, W_tcmp, W_tys, W_chain, W_tchn, W_snil, W_seq, W_asg, W_drop, W_ret, W_retN, W_sif, W_brk, W_cnt, W_par, W_par3, W_gnm, W_gix, W_gtp, W_gs0, W_gs1, W_mkF, w_addI, w_addS, w_addT, w_subI, w_mulI, w_mulS, w_divI, w_modI, w_powI, w_eqS, w_neS, w_eqI, w_neI, w_eqB, w_neB, w_ltI, w_gtI, w_leI, w_geI, w_isN, w_isNN, w_inS, w_ninS, w_lenS, w_lenT, w_lenL, w_intI, w_absI, w_minI, w_maxI, w_divm, w_neg, w_not, w_truB, w_truS, w_truI, w_idxT, w_idxS, w_isi, List.length_cons, List.length_nil, List.map_cons, List.map_nil, List.replicate, List.cons_append, List.nil_append, List.getElem?_cons_zero, List.getElem?_cons_succ, List.set_cons_zero, List.set_cons_succ, Nat.zero_add, Nat.reduceAdd, if_true, if_false, c1, decide_false, Bool.false_eq_true, if_pos (show w.length ≤ 16777216 by omega), last_atI hc, c2', Bool.not_false]
      refine ret ?_ h Kp.refl
      unfold step
      rw [if_pos (.inr (.inl fun d hd => by rw [hc] at hd; cases hd; exact c2))]
def optL : Option (List Nat) → List AV
  | some r => [.str r]
  | none => []
theorem step_len {row w row' : List Nat} (h : step row w = some row') : row'.length ≤ row.length + 12 := by
  obtain ⟨p, _, _, _, p3, _, rfl⟩ := step_some h
  simp
  omega
theorem lread_S {t : List Nat} (ht : t.length ≤ 640) (q : ∀ d h', Kp [] h h' → h.length ≤ d → h'[d]? = some (.lst (optL (rdL t))) → Q (.ref d) h') : W (f_lread [.str t] h) Q := by
  unfold f_lread
  rw [b_lread_eq]
  refine W_call rfl ?_
  obtain ⟨wl1, wl2⟩ := ws_len (t := t)
  rw [W_seq]
  simp only [W_asg, W_cst, W_gnm, List.map_cons, List.map_nil, List.replicate, List.cons_append, List.nil_append, List.set_cons_succ, List.set_cons_zero]
  rw [W_seq]
  refine W_for ?_
  have src : ∀ P : Src → AH → Prop, (∀ d h1, Kp [] h h1 → h1[d]? = some (.lst ((ws t).map .str)) → W (srcOf (.ref d) h1) P) → W (iWords [some (.str t), some (.str []), none, none, none] h) P := by
    intro P hP
    unfold iWords
    simp only [W_ival, W_if, W_tcmp, W_var, W_cst, List.getElem?_cons_zero, w_neS, W_aBl]
    by_cases e : t = NONE
    · have e2 : ws t = [] := by unfold ws; rw [if_neg (by simpa using e)]
      subst e
      simp only [decide_true, Bool.not_true, Bool.false_eq_true, if_false, W_lst, W_nil]
      refine hP _ _ (Kp.app _) ?_
      rw [e2]
      simp
    · have e1 : ¬ t = [110, 111, 110, 101] := e
      have e2 : ws t = TL.spl [32] 0 [] t := by unfold ws; rw [if_pos (by simpa using e)]
      simp only [e1, decide_false, Bool.not_false, if_true, W_mth, W_var, W_cons, W_nil, W_cst, List.getElem?_cons_zero, tyB, beq_self_eq_true]
      rw [w_split (by simp) (by omega) (by decide)]
      refine hP _ _ (Kp.app _) ?_
      rw [e2]
      simp
  refine src _ fun d h1 k1 hd => ?_
  rw [W_srcL hd]
  refine ⟨(ws t).map .str, fun i σ h2 => ∃ row v2 v3 v4, σ = [some (.str t), some (.str row), v2, v3, v4] ∧ rdF (ws t) [] = rdF ((ws t).drop i) row ∧ row.length ≤ 12 * i ∧ Kp [] h h2 ∧ Kp [] h1 h2, by simp, ⟨[], _, _, _, rfl, by simp, by simp, k1, Kp.refl⟩, ?_, ?_, ?_⟩
  · rintro i σ h2 hi ⟨row, v2, v3, v4, _, _, _, _, k2⟩
    simp only [k2.at hd (by simp)]
    simp
  · rintro i x σ h2 hx ⟨row, v2, v3, v4, rfl, e1, l1, k0, k2⟩
    rw [List.getElem?_map] at hx
    cases q1 : (ws t)[i]? with
    | none => rw [q1] at hx; cases hx
    | some w =>
      rw [q1] at hx
      cases hx
      have hi : i < (ws t).length := (List.getElem?_eq_some_iff.mp q1).1
      have ed : (ws t).drop i = w :: (ws t).drop (i + 1) := by
        rw [List.drop_eq_getElem_cons hi]
        congr 1
        rw [List.getElem?_eq_getElem hi] at q1
        exact Option.some.inj q1
      have hw := wl2 w (List.mem_of_getElem? q1)
      rw [ed] at e1
      have e1 : rdF (ws t) [] = (step row w).bind (rdF ((ws t).drop (i + 1))) := e1
      simp only [W_gnm, List.set_cons_succ, List.set_cons_zero]
      refine step_W (by omega) (by omega) (fun e d2 h3 k3 hl3 hd3 => ?_) fun row' e u h3 k3 => ?_
      · rw [e] at e1
        have hn : rdL t = none := by
          unfold rdL
          have : (if t ≠ NONE then TL.spl [32] 0 [] t else []) = ws t := rfl
          rw [this, e1]
          rfl
        refine q _ _ (k0.trans k3) (Nat.le_trans k0.1 hl3) ?_
        rw [hn, hd3]
        rfl
      · rw [e] at e1
        have := step_len e
        exact ⟨row', _, _, _, rfl, e1, by omega, k0.trans k3, k2.trans k3⟩
  · rintro σ h2 ⟨row, v2, v3, v4, rfl, e1, l1, k0, k2⟩
    rw [List.length_map, List.drop_length] at e1
    have e1 : rdF (ws t) [] = some row := e1
    have hr : rdL t = if row.length ≤ 12 then some row else none := by
      unfold rdL
      have : (if t ≠ NONE then TL.spl [32] 0 [] t else []) = ws t := rfl
      rw [this, e1]
      rfl
    rw [List.length_map] at l1
    unfold bReadR
    simp only [W_ret, W_if, W_tcmp, W_fn, W_cons, W_nil, W_var, W_cst, List.getElem?_cons_zero, List.getElem?_cons_succ, w_lenS, if_pos (show row.length ≤ 16777216 by omega), w_leI, W_aBl]
    by_cases c : row.length ≤ 12
    · have c' : ((row.length : Int) ≤ 12) := by omega
      simp only [c', decide_true, if_true, W_lst, W_cons, W_nil, W_var, List.getElem?_cons_zero, List.getElem?_cons_succ]
      refine q _ _ (k0.trans (Kp.app _)) k0.1 ?_
      rw [hr, if_pos c]
      simp [optL]
    · have c' : ¬ ((row.length : Int) ≤ 12) := by omega
      simp only [c', decide_false, Bool.false_eq_true, if_false, W_lst, W_nil]
      refine q _ _ (k0.trans (Kp.app _)) k0.1 ?_
      rw [hr, if_neg c]
      simp [optL]
end P

set_option maxHeartbeats 4000000
namespace P
open Z Z.LL
variable {h : AH} {Q : AV → AH → Prop}
theorem e_draw : f_ldraw = fDraw := id rfl
theorem e_pick : f_lpick = fPick := id rfl
theorem e_same : f_lsame 8 = fSame 8 := id rfl
theorem cut_len {α : Type} {xs : List α} {lo hi : Option Int} : (cutA xs lo hi).length ≤ xs.length := by
  unfold cutA
  rw [List.length_take, List.length_drop]
  omega
def tot (ys : List (List Nat)) : Nat := (ys.map List.length).sum + ys.length
theorem tot_app (a b : List (List Nat)) : tot (a ++ b) = tot a + tot b := by simp [tot]; omega
theorem tot_cut : ∀ (ys : List (List Nat)) (lo hi : Option Int), tot (cutA ys lo hi) ≤ tot ys := by
  have drop : ∀ (ys : List (List Nat)) n, tot (ys.drop n) ≤ tot ys := by
    intro ys
    induction ys with
    | nil => intro n; simp [tot]
    | cons y ys ih =>
      intro n
      cases n with
      | zero => simp
      | succ n =>
        have := ih n
        simp [tot] at this ⊢
        omega
  have take : ∀ (ys : List (List Nat)) n, tot (ys.take n) ≤ tot ys := by
    intro ys
    induction ys with
    | nil => intro n; simp [tot]
    | cons y ys ih =>
      intro n
      cases n with
      | zero => simp [tot]
      | succ n =>
        have := ih n
        simp [tot] at this ⊢
        omega
  intro ys lo hi
  unfold cutA
  exact Nat.le_trans (take _ _) (drop _ _)
theorem tot_set : ∀ (ys : List (List Nat)) (n : Nat) (y : List Nat), tot (ys.set n y) ≤ tot ys + y.length
  | [], n, y => by simp [tot]
  | z :: ys, 0, y => by simp [tot]; omega
  | z :: ys, n + 1, y => by
    have := tot_set ys n y
    simp [tot] at this ⊢
    omega
theorem tot_mem {ys : List (List Nat)} {y : List Nat} (hy : y ∈ ys) : y.length ≤ tot ys := by
  induction ys with
  | nil => cases hy
  | cons z ys ih =>
    rcases List.mem_cons.mp hy with rfl | hy
    · simp [tot]; omega
    · have := ih hy
      simp [tot] at this ⊢
      omega
theorem tot_join : ∀ ys : List (List Nat), (TL.joinL [32] ys).length ≤ tot ys
  | [] => by simp [TL.joinL]
  | [y] => by simp [TL.joinL, tot]
  | y :: z :: r => by
    have := tot_join (z :: r)
    show (y ++ ([32] ++ TL.joinL [32] (z :: r))).length ≤ _
    simp [tot] at this ⊢
    omega
theorem tot_spl (c : Nat) : ∀ (x acc : List Nat), tot (TL.spl [c] 0 acc x) ≤ acc.length + x.length + 1
  | [], acc => by simp [TL.spl, tot]
  | d :: r, acc => by
    unfold TL.spl
    have e0 : ([c] : List Nat).length - 1 = 0 := rfl
    rw [e0]
    split
    · have := tot_spl c r []
      simp [tot] at this ⊢
      omega
    · have := tot_spl c r (acc ++ [d])
      simp at this ⊢
      omega
theorem tot_len (ys : List (List Nat)) : ys.length ≤ tot ys := by unfold tot; omega
theorem join_ok {ys : List (List Nat)} (h : tot ys ≤ 1000) : ((ys.map List.length).sum + ys.length * ([32] : List Nat).length ≤ 16777216) := by
  unfold tot at h
  simp
  omega
def Bent (x : List Nat) (a : AV) : Prop := (∃ y, a = .str y ∧ y.length ≤ 640) ∨ a = .non ∨ a = .int 5 ∨ a = .tup [.str x]
def bB3 : SSm := (sIf (tCmp aLt (eVar 4) (eCst (.int 3))) (sRet (eIf (tCmp aEq (eVar 4) (eCst (.int 0))) (eBin aAdd (eSlc (eVar 1) oNone (oSome (eVar 5))) (eSlc (eVar 1) (oSome (eBin aAdd (eVar 5) (eCst (.int 1)))) oNone)) (eBin aAdd (eBin aAdd (eSlc (eVar 1) oNone (oSome (eVar 5))) (eVar 2)) (eSlc (eVar 1) (oSome (eBin aSub (eBin aAdd (eVar 5) (eVar 4)) (eCst (.int 1)))) oNone))))
  sNil)
def bB6 : SSm := (sIf (tCmp aEq (eVar 4) (eCst (.int 3))) (sAsg (eTup (aCons (eBin aIdx (eVar 3) (eVar 7)) (aCons (eBin aIdx (eVar 3) (eVar 6)) aNil))) (gTp [(gIx (eVar 3) (eVar 6)), (gIx (eVar 3) (eVar 7))]))
  (sIf (tCmp aEq (eVar 4) (eCst (.int 4))) (sAsg (eBin aAdd (eSlc (eVar 3) oNone (oSome (eBin aAdd (eVar 6) (eCst (.int 1))))) (eSlc (eVar 3) (oSome (eVar 6)) oNone)) (gNm 3))
  (sIf (tCmp aEq (eVar 4) (eCst (.int 5))) (sAsg (eBin aAdd (eSlc (eVar 3) oNone (oSome (eVar 6))) (eSlc (eVar 3) (oSome (eBin aAdd (eVar 6) (eCst (.int 1)))) oNone)) (gNm 3))
  (sIf (tCmp aEq (eVar 4) (eCst (.int 6))) (sAsg (eUn aRev (eBin aIdx (eVar 3) (eVar 6))) (gIx (eVar 3) (eVar 6)))
  sNil))))
def bB7 : SSm := (sRet (eIf (tCmp aLt (eVar 4) (eCst (.int 8))) (eMthT "str" aJoin (eCst (.str [32])) (aCons (eVar 3) aNil)) (eFn fPick (aCons (eVar 0) (aCons (eTup (aCons (eCst (.str [])) (aCons (eCst (.str [32])) (aCons (eCst .non) (aCons (eCst (.int 5)) (aCons (eTup (aCons (eVar 1) aNil)) (aCons (eBin aAdd (eVar 1) (eCst (.str [32]))) (aCons (eCst (.str [110, 111, 110, 101])) (aCons (eCst (.str [48, 97])) (aCons (eCst (.str [49, 51, 97])) (aCons (eCst (.str [49, 50, 102])) (aCons (eCst (.str [48, 49, 97])) (aCons (eCst (.str [97])) (aCons (eCst (.str [55, 97, 32, 54, 98])) (aCons (eCst (.str [49, 97, 32, 32, 49, 98])) (aCons (eCst (.str [97, 97, 98])) aNil)))))))))))))))) aNil)))))
theorem b_lbent_eq : b_lbent = sSeq (sPar 4 5 (aCons (eFn fDraw (aCons (eVar 0) (aCons (eCst (.int 9)) aNil))) (aCons (eFn fDraw (aCons (eVar 0) (aCons (eBin aAdd (eFn aLen (aCons (eVar 1) aNil)) (eCst (.int 1))) aNil))) aNil)))
  (sSeq (sAsg (eFn fPick (aCons (eVar 0) (aCons (eCst (.str [48, 49, 50, 51, 52, 53, 57, 32, 97, 98, 99, 102, 103, 45, 10])) aNil))) (gNm 2))
  (sSeq bB3 (sSeq (sAsg (eMthT "str" aSplit (eVar 1) (aCons (eCst (.str [32])) aNil)) (gNm 3))
  (sSeq (sPar 6 7 (aCons (eFn fDraw (aCons (eVar 0) (aCons (eFn aLen (aCons (eVar 3) aNil)) aNil))) (aCons (eFn fDraw (aCons (eVar 0) (aCons (eFn aLen (aCons (eVar 3) aNil)) aNil))) aNil)))
  (sSeq bB6 bB7))))) := id rfl
theorem cutA_map {α β : Type} (f : α → β) (xs : List α) (lo hi : Option Int) : cutA (xs.map f) lo hi = (cutA xs lo hi).map f := by
  unfold cutA
  rw [List.length_map, List.map_take, List.map_drop]
theorem w_revS {x : List Nat} (hx : x.length ≤ 16777216) : W (aRev (.str x) h) Q = Q (.str x.reverse) h := by
  unfold aRev
  simp only [if_pos hx, W_pure]
/-- the words bent: still a list of texts -/
theorem bB6_W {n d : Nat} {x y : List Nat} {v2 : Option AV} {way at_ k j : Int} {ys : List (List Nat)} {F : Fl → AH → Prop} (hd : h[d]? = some (.lst (ys.map .str))) (hdn : d ≠ n) (hp : Pot n h) (ht : tot ys ≤ 150) (hk : 0 ≤ k ∧ k < ys.length) (hj : 0 ≤ j ∧ j < ys.length)
    (q : ∀ d' ys' h', d' ≠ n → Pot n h' → (∀ i, i < h.length → i ≠ d → h'[i]? = h[i]?) → h.length ≤ h'.length → h'[d']? = some (.lst (ys'.map .str)) → tot ys' ≤ 600 → F (.nx [some (.ref n), some (.str x), v2, some (.ref d'), some (.int way), some (.int at_), some (.int k), some (.int j)]) h') :
    W (bB6 [some (.ref n), some (.str x), v2, some (.ref d), some (.int way), some (.int at_), some (.int k), some (.int j)] h) F := by
  obtain ⟨yk, ek, mk, _⟩ := atI_in (xs := ys) hk.1 hk.2
  obtain ⟨yj, ej, mj, _⟩ := atI_in (xs := ys) hj.1 hj.2
  have ek' : L2.atI (ys.map AV.str) k = some (.str yk) := atI_map _ ek
  have ej' : L2.atI (ys.map AV.str) j = some (.str yj) := atI_map _ ej
  have ik : L2.ixN (ys.map AV.str).length k = some k.toNat := by rw [List.length_map]; exact ixN_nat hk.1 hk.2
  have ij : L2.ixN (ys.map AV.str).length j = some j.toNat := by rw [List.length_map]; exact ixN_nat hj.1 hj.2
  have hdl : d < h.length := (List.getElem?_eq_some_iff.mp hd).1
  have tk := tot_mem mk
  have tj := tot_mem mj
  have pset : ∀ o : AO, Pot n (h.set d o) := fun o => by
    obtain ⟨a, b, c, e⟩ := hp
    exact ⟨a, b, c, by rw [List.getElem?_set_ne hdn]; exact e⟩
  have papp : ∀ e : AH, Pot n (h ++ e) := fun e' => by
    obtain ⟨a, b, c, e⟩ := hp
    exact ⟨a, b, c, (Kp.app (S := []) _).at e (by simp)⟩
  have hnl : n < h.length := by obtain ⟨a, b, c, e⟩ := hp; exact (List.getElem?_eq_some_iff.mp e).1
  have same : F (.nx [some (.ref n), some (.str x), v2, some (.ref d), some (.int way), some (.int at_), some (.int k), some (.int j)]) h :=
    q d ys h hdn hp (fun _ _ _ => rfl) (Nat.le_refl _) hd (by omega)
  have cat : ∀ a b : List (List Nat), tot a ≤ 150 → tot b ≤ 150 → ∀ h2 : AH, (∃ e, h2 = h ++ e) → ∀ m1 m2 : Nat, h2[m1]? = some (.lst (a.map .str)) → h2[m2]? = some (.lst (b.map .str)) → W (aAdd (.ref m1) (.ref m2) h2) fun v h' => F (.nx [some (.ref n), some (.str x), v2, some v, some (.int way), some (.int at_), some (.int k), some (.int j)]) h' := by
    rintro a b ha hb h2 ⟨e, rfl⟩ m1 m2 e1 e2
    have la := tot_len a
    have lb := tot_len b
    rw [w_addL e1 e2 (by simp; omega)]
    refine q _ (a ++ b) _ (by rw [List.length_append]; omega) ?_ (fun i hi _ => ?_) (by first | (simp; done) | (simp; omega)) (by simp) (by rw [tot_app]; omega)
    · rw [List.append_assoc]; exact papp _
    · rw [List.append_assoc]; exact List.getElem?_append_left hi
  unfold bB6
  by_cases c3 : way = 3
  · simp only [W_sif, W_tcmp, W_var, W_cst, List.getElem?_cons_zero, List.getElem?_cons_succ, w_eqI, W_aBl, c3, decide_true, if_true, W_asg, W_tup, W_cons, W_nil, W_bin, w_idxL hd ej', w_idxL hd ek', W_gtp, W_gs1, W_gs0, W_gix, List.length_cons, List.length_nil, w_set hd ik]
    have hd2 : (h.set d (AO.lst ((ys.map AV.str).set k.toNat (.str yj))))[d]? = some (.lst ((ys.map AV.str).set k.toNat (.str yj))) := List.getElem?_set_self hdl
    have ij2 : L2.ixN ((ys.map AV.str).set k.toNat (.str yj)).length j = some j.toNat := by rw [List.length_set]; exact ij
    rw [w_set hd2 ij2, List.set_set]
    refine c3 ▸ q d ((ys.set k.toNat yj).set j.toNat yk) _ hdn (pset _) (fun i _ hi => List.getElem?_set_ne (fun z => hi z.symm)) (by simp) ?_ ?_
    · rw [List.getElem?_set_self hdl, List.map_set, List.map_set]
    · have h1 := tot_set ys k.toNat yj
      have h2 := tot_set (ys.set k.toNat yj) j.toNat yk
      omega
  · by_cases c4 : way = 4
    · simp only [W_sif, W_tcmp, W_var, W_cst, List.getElem?_cons_zero, List.getElem?_cons_succ, w_eqI, W_aBl, c3, c4, decide_true, decide_false, Bool.false_eq_true, if_true, if_false, show ¬ (4 : Int) = 3 by decide, W_asg, W_bin, W_slc, W_onone, W_osome, w_addI, w_slcL hd, W_gnm, List.set_cons_succ, List.set_cons_zero]
      rw [w_slcL (xs := ys.map .str) ((Kp.app (S := []) _).at hd (by simp)), cutA_map, cutA_map]
      subst c4
      exact cat (cutA ys none (some (k + 1))) (cutA ys (some k) none) (Nat.le_trans (tot_cut _ _ _) ht) (Nat.le_trans (tot_cut _ _ _) ht) _ ⟨[_, _], by rw [List.append_assoc]; rfl⟩ _ _ (by simp) (by simp)
    · by_cases c5 : way = 5
      · simp only [W_sif, W_tcmp, W_var, W_cst, List.getElem?_cons_zero, List.getElem?_cons_succ, w_eqI, W_aBl, c3, c4, c5, decide_true, decide_false, Bool.false_eq_true, if_true, if_false, show ¬ (5 : Int) = 3 by decide, show ¬ (5 : Int) = 4 by decide, W_asg, W_bin, W_slc, W_onone, W_osome, w_addI, w_slcL hd, W_gnm, List.set_cons_succ, List.set_cons_zero]
        rw [w_slcL (xs := ys.map .str) ((Kp.app (S := []) _).at hd (by simp)), cutA_map, cutA_map]
        subst c5
        exact cat (cutA ys none (some k)) (cutA ys (some (k + 1)) none) (Nat.le_trans (tot_cut _ _ _) ht) (Nat.le_trans (tot_cut _ _ _) ht) _ ⟨[_, _], by rw [List.append_assoc]; rfl⟩ _ _ (by simp) (by simp)
      · by_cases c6 : way = 6
        · simp only [W_sif, W_tcmp, W_var, W_cst, List.getElem?_cons_zero, List.getElem?_cons_succ, w_eqI, W_aBl, c3, c4, c5, c6, decide_true, decide_false, Bool.false_eq_true, if_true, if_false, show ¬ (6 : Int) = 3 by decide, show ¬ (6 : Int) = 4 by decide, show ¬ (6 : Int) = 5 by decide, W_asg, W_bin, W_un, w_idxL hd ek', w_revS (show yk.length ≤ 16777216 by omega), W_gix, w_set hd ik]
          refine c6 ▸ q d (ys.set k.toNat yk.reverse) _ hdn (pset _) (fun i _ hi => List.getElem?_set_ne (fun z => hi z.symm)) (by simp) ?_ ?_
          · rw [List.getElem?_set_self hdl, List.map_set]
          · have h1 := tot_set ys k.toNat yk.reverse
            rw [List.length_reverse] at h1
            omega
        · simp only [W_sif, W_tcmp, W_var, W_cst, List.getElem?_cons_zero, List.getElem?_cons_succ, w_eqI, W_aBl, c3, c4, c5, c6, decide_false, Bool.false_eq_true, if_false, W_snil]
          exact same
theorem bent_W {n : Nat} {x : List Nat} (hp : Pot n h) (hx : x.length ≤ 100) (q : ∀ a h', Bent x a → Pot n h' → Kp [n] h h' → Q a h') : W (f_lbent [.ref n, .str x] h) Q := by
  unfold f_lbent
  rw [b_lbent_eq]
  refine W_call rfl ?_
  rw [W_seq]
  simp only [W_par, W_fn, W_cons, W_nil, W_var, W_cst, W_bin, List.map_cons, List.map_nil, List.replicate, List.cons_append, List.nil_append, List.getElem?_cons_zero, List.getElem?_cons_succ]
  refine draw_W hp (by decide) (by decide) fun way h1 w0 w1 p1 k1 => ?_
  simp only [w_lenS, if_pos (show x.length ≤ 16777216 by omega), w_addI]
  refine draw_W p1 (by omega) (by omega) fun at_ h2 a0 a1 p2 k2 => ?_
  rw [W_seq]
  simp only [W_asg, W_fn, W_cons, W_nil, W_var, W_cst, W_gnm, List.set_cons_succ, List.set_cons_zero, List.getElem?_cons_zero, List.getElem?_cons_succ]
  refine pick_S p2 (by simp) (by simp) fun sg h3 _ p3 k3 => ?_
  have k13 := (k1.trans k2).trans k3
  rw [W_seq]
  unfold bB3
  have l1 : (cutA x none (some at_)).length ≤ x.length := cut_len
  by_cases c1 : way < 3
  · have l2 := fun (lo : Option Int) => cut_len (xs := x) (lo := lo) (hi := none)
    simp only [W_sif, W_tcmp, W_var, W_cst, List.getElem?_cons_zero, List.getElem?_cons_succ, w_ltI, W_aBl, c1, decide_true, if_true, W_ret, W_if, w_eqI]
    have m1 := l2 (some (at_ + 1))
    have m2 := l2 (some (at_ + way - 1))
    by_cases c2 : way = 0
    · simp only [c2, decide_true, if_true, W_bin, W_slc, W_var, W_cst, W_onone, W_osome, List.getElem?_cons_zero, List.getElem?_cons_succ, w_slcS (show x.length ≤ 16777216 by omega), w_addI, w_addS]
      rw [if_pos (by omega)]
      exact q _ _ (.inl ⟨_, rfl, by rw [List.length_append]; omega⟩) p3 k13
    · simp only [c2, decide_false, Bool.false_eq_true, if_false, W_bin, W_slc, W_var, W_cst, W_onone, W_osome, List.getElem?_cons_zero, List.getElem?_cons_succ, w_slcS (show x.length ≤ 16777216 by omega), w_addI, w_subI, w_addS]
      rw [if_pos (by simp only [List.length_cons, List.length_nil]; omega), if_pos (by simp only [List.length_append, List.length_cons, List.length_nil]; omega)]
      exact q _ _ (.inl ⟨_, rfl, by simp only [List.length_append, List.length_cons, List.length_nil]; omega⟩) p3 k13
  · simp only [W_sif, W_tcmp, W_var, W_cst, List.getElem?_cons_zero, List.getElem?_cons_succ, w_ltI, W_aBl, c1, decide_false, Bool.false_eq_true, if_false, W_snil]
    rw [W_seq]
    simp only [W_asg, W_mth, W_var, W_cst, W_cons, W_nil, List.getElem?_cons_zero, List.getElem?_cons_succ, tyB, beq_self_eq_true, if_true]
    rw [w_split (by simp) (by omega) (by decide), W_gnm]
    simp only [List.set_cons_succ, List.set_cons_zero]
    generalize hys : TL.spl [32] 0 [] x = ys
    have ty : tot ys ≤ 101 := by
      have := tot_spl 32 x []
      rw [hys] at this
      simp at this
      omega
    have yne : 0 < ys.length := by
      have := (join_spl 32 x []).2
      rw [hys] at this
      exact List.length_pos_iff.mpr this
    have tl := tot_len ys
    have hn3 : n < h3.length := by obtain ⟨a, b, c, e⟩ := p3; exact (List.getElem?_eq_some_iff.mp e).1
    have p4 : Pot n (h3 ++ [AO.lst (ys.map .str)]) := by
      obtain ⟨a, b, c, e⟩ := p3
      exact ⟨a, b, c, (Kp.app (S := []) _).at e (by simp)⟩
    have hd4 : (h3 ++ [AO.lst (ys.map AV.str)])[h3.length]? = some (.lst (ys.map .str)) := by simp
    have hdn : h3.length ≠ n := by omega
    rw [W_seq]
    simp only [W_par, W_fn, W_cons, W_nil, W_var, W_cst, List.getElem?_cons_zero, List.getElem?_cons_succ, w_lenR hd4, List.length_map]
    refine draw_W p4 (by omega) (by omega) fun k h5 k0 k1' p5 k5 => ?_
    have hd5 := k5.at hd4 (by simpa using hdn)
    simp only [w_lenR hd5, List.length_map]
    refine draw_W p5 (by omega) (by omega) fun j h6 j0 j1 p6 k6 => ?_
    have hd6 := k6.at hd5 (by simpa using hdn)
    simp only [List.set_cons_succ, List.set_cons_zero]
    rw [W_seq]
    have k46 : Kp [n] h h6 := ((k13.trans (Kp.app _)).trans k5).trans k6
    refine bB6_W (y := []) hd6 hdn p6 (by omega) ⟨k0, k1'⟩ ⟨j0, j1⟩ fun d' ys' h7 hd' p7 kk hl7 hd7 ht => ?_
    have k7 : Kp [n] h h7 := ⟨Nat.le_trans k46.1 hl7, fun i hi hin => by
      have : i ≠ h3.length := by have := k13.1; omega
      rw [kk i (Nat.lt_of_lt_of_le hi k46.1) this]
      exact k46.2 i hi hin⟩
    unfold bB7
    simp only [W_ret, W_if, W_tcmp, W_var, W_cst, List.getElem?_cons_zero, List.getElem?_cons_succ, w_ltI, W_aBl]
    by_cases c8 : way < 8
    · simp only [c8, decide_true, if_true, W_mth, W_cst, W_cons, W_nil, W_var, List.getElem?_cons_zero, List.getElem?_cons_succ, tyB, beq_self_eq_true]
      rw [w_join hd7 (join_ok (by omega))]
      exact q _ _ (.inl ⟨_, rfl, by have := tot_join ys'; omega⟩) p7 k7
    · simp only [c8, decide_false, Bool.false_eq_true, if_false, W_fn, W_cons, W_nil, W_var, W_cst, W_tup, W_bin, List.getElem?_cons_zero, List.getElem?_cons_succ, w_addS]
      rw [if_pos (by simp only [List.length_cons, List.length_nil]; omega)]
      refine pick_T p7 (by simp) (by simp) fun a h8 ha p8 k8 => ?_
      refine q a h8 ?_ p8 (k7.trans k8)
      simp only [List.mem_cons, List.not_mem_nil, or_false] at ha
      rcases ha with rfl | rfl | rfl | rfl | rfl | rfl | rfl | rfl | rfl | rfl | rfl | rfl | rfl | rfl | rfl
      case _ => exact .inl ⟨_, rfl, by simp⟩
      case _ => exact .inl ⟨_, rfl, by simp⟩
      case _ => exact .inr (.inl rfl)
      case _ => exact .inr (.inr (.inl rfl))
      case _ => exact .inr (.inr (.inr rfl))
      case _ => exact .inl ⟨_, rfl, by rw [List.length_append]; simp only [List.length_cons, List.length_nil]; omega⟩
      all_goals exact .inl ⟨_, rfl, by simp⟩
end P

set_option maxHeartbeats 4000000
namespace P
open Z Z.LL
variable {h : AH} {Q : AV → AH → Prop}
theorem e_llumps : f_llumps = f_lumps_of := id rfl
theorem enc_len {r : List Nat} (hv : Valid r) : (enc r).length ≤ 80 := by
  unfold enc
  split
  · decide
  · have h1 := tot_join ((lum r).map word)
    have h2 := sum_le (l := (lum r).map word) (b := 5) fun w hw => by
      obtain ⟨p, hp, rfl⟩ := List.mem_map.mp hw
      have := cnt_le hp
      have := hv.2
      exact word_len (by omega)
    have h3 := lum_len r
    have h4 := hv.2
    unfold tot at h1
    simp only [List.length_map] at h1 h2
    omega
def eText : SEm := (eIf (tCmp aNe (eVar 1) (eCst (.str []))) (eMthT "str" aJoin (eCst (.str [32])) (aCons (eComp [8, 9] (iVal (eVar 2)) (gTp [(gNm 8), (gNm 9)]) tYs (eBin aAdd (eFn aStr (aCons (eVar 9) aNil)) (eVar 8))) aNil)) (eCst (.str [110, 111, 110, 101])))
def eTold : SEm := (eLst (aCons (eFn f_lumps_text (aCons (eVar 1) aNil)) (aCons (eFn (fun xs => f_lumps_text (reo [0] .non xs)) (aCons (eVar 1) aNil)) (aCons (eFn f_read_lumps (aCons (eVar 3) aNil)) (aCons (eFn (fun xs => f_read_lumps (reo [0] .non xs)) (aCons (eVar 3) aNil)) (aCons (eFn f_lumps (aCons (eVar 1) aNil)) aNil))))))
def bSure : SSm := (sIf (tOrr (tNt (tOf (eFn (fSame 8) (aCons (eVar 4) (aCons (eLst (aCons (eVar 3) (aCons (eVar 3) (aCons (eVar 1) (aCons (eVar 1) (aCons (eFn aTuple (aCons (eVar 2) aNil)) aNil)))))) aNil))))) (tCmp aNe (eFn f_lread (aCons (eVar 3) aNil)) (eLst (aCons (eVar 1) aNil)))) (sRet (eCst (.bl false)))
  sNil)
def eHeard : SEm := (eLam (heardF "InvalidText" [116, 111, 108, 100] [116, 101, 120, 116]) (eFn f_read_lumps (aCons (eVar 6) aNil)))
def eDue : SEm := (eIf (tCmp aNe (eVar 7) (eLst aNil)) (eLst (aCons (eCst (.str [116, 111, 108, 100])) (aCons (eBin aIdx (eVar 7) (eCst (.int 0))) aNil))) (eLst (aCons (eCst (.str [116, 101, 120, 116])) (aCons (eVar 6) aNil))))
def bTurn : SSm := (sSeq (sAsg (eFn f_lbent (aCons (eVar 0) (aCons (eVar 3) aNil))) (gNm 6))
  (sSeq (sAsg (eIf (tOf (eUn (aIsi .str) (eVar 6))) (eFn f_lread (aCons (eVar 6) aNil)) (eLst aNil)) (gNm 7))
  (sIf (tNt (tOf (eFn (fSame 8) (aCons eHeard (aCons eDue aNil))))) (sRet (eCst (.bl false)))
  sNil)))
theorem b_right_eq : b_lis_right = sSeq (sAsg (eFn f_lumps_of (aCons (eVar 1) aNil)) (gNm 2)) (sSeq (sAsg eText (gNm 3)) (sSeq (sAsg eTold (gNm 4)) (sSeq bSure (sSeq (sFor (iRange1 (aCons (eCst (.int 6)) aNil)) (gNm 5) bTurn) (sRet (eCst (.bl true))))))) := id rfl
theorem eqv_strs1 (a : List Nat) : PySem.PyData.eqv (PT.lst [.str a]).py (PT.lst [.str a]).py = true := by
  simp [PT.py, PT.pys, PySem.PyData.eqv, PySem.PyData.eqvAll]
theorem eqv_empty (ts : List PT) : PySem.PyData.eqv (PT.lst ts).py (PT.lst []).py = ts.isEmpty := by
  cases ts <;> simp [PT.py, PT.pys, PySem.PyData.eqv, PySem.PyData.eqvAll]
theorem eFn1 {f : List AV → M AV} {i : Nat} {σ : AS} {a : AV} (e : σ[i]? = some (some a)) : eFn f (aCons (eVar i) aNil) σ = f [a] := by
  funext h
  simp [eFn, aCons, aNil, eVar, M.bind, R.bind, M.pure, e]
theorem text_W {n p : Nat} {r : List Nat} {v3 v4 v5 v6 v7 v8 v9 : Option AV} {P : AV → AH → Prop} (hv : Valid r) (hp : h[p]? = some (.lst (lmpAV (lum r)))) (q : ∀ h', Kp [] h h' → P (.str (enc r)) h') :
    W (eText [some (.ref n), some (.str r), some (.ref p), v3, v4, v5, v6, v7, v8, v9] h) P := by
  unfold eText
  have hr := hv.2
  simp only [W_if, W_tcmp, W_var, W_cst, List.getElem?_cons_zero, List.getElem?_cons_succ, w_neS, W_aBl]
  by_cases e : r = []
  · subst e
    simp only [decide_true, Bool.not_true, Bool.false_eq_true, if_false]
    exact q _ Kp.refl
  · simp only [e, decide_false, Bool.not_false, if_true, W_mth, W_cst, tyB, beq_self_eq_true, W_cons, W_nil]
    refine W_compZ ?_
    simp only [W_ival, W_var, List.getElem?_cons_zero, List.getElem?_cons_succ]
    rw [W_srcL hp]
    have hl := lum_len r
    refine ⟨lmpAV (lum r), ((lum r).map word).map .str, by simp [lmpAV], by simp [lmpAV], by simp [lmpAV]; omega, fun i h2 _ k => ?_, fun i a h2 ha k => ?_, fun d2 h2 k _ hd2 => ?_⟩
    · simp only [k.at hp (by simp)]
      simp
    · unfold lmpAV at ha
      rw [List.getElem?_map] at ha
      cases q1 : (lum r)[i]? with
      | none => rw [q1] at ha; cases ha
      | some w =>
        rw [q1] at ha
        cases ha
        have hp := cnt_le (List.mem_of_getElem? q1)
        have hw := num_len (show w.2 ≤ 1000 by omega)
        have l1 : (numT w.2).length + ([w.1] : List Nat).length ≤ 16777216 := by show (numT w.2).length + 1 ≤ 16777216; omega
        simp only [wipeA, W_gtp, W_gs1, W_gs0, W_gnm, List.length_cons, List.length_nil, List.set_cons_succ, List.set_cons_zero, if_true, W_bin, W_fn, W_cons, W_nil, W_var, List.getElem?_cons_zero, List.getElem?_cons_succ]
        rw [w_strI (by omega), w_addS, if_pos l1]
        refine ⟨?_, Kp.refl⟩
        rw [List.getElem?_map, List.getElem?_map, q1]
        rfl
    · rw [w_join hd2]
      · have : enc r = TL.joinL [32] ((lum r).map word) := by unfold enc; rw [if_neg e]
        rw [← this]
        exact q _ k
      · have := sum_le (l := (lum r).map word) (b := 5) fun w hw => by
          obtain ⟨p, hp, rfl⟩ := List.mem_map.mp hw
          have := cnt_le hp
          exact word_len (by omega)
        simp only [List.length_map, List.length_cons, List.length_nil] at this ⊢
        omega
def toldAV (r : List Nat) : List AV := [.str (enc r), .str (enc r), .str r, .str r, .tup (lmpAV (lum r))]
def toldPT (r : List Nat) : List PT := [.str (enc r), .str (enc r), .str r, .str r, .tup (lmpPT (lum r))]
theorem told_dens (r : List Nat) (S : List Nat) : Dens S h (toldPT r) (toldAV r) := by
  simp only [toldPT, toldAV, Dens, Den]
  exact ⟨_, _, rfl, rfl, _, _, rfl, rfl, _, _, rfl, rfl, _, _, rfl, rfl, _, _, rfl, ⟨_, rfl, lmp_den _ _ _⟩, rfl⟩
theorem told_ok {r : List Nat} (hv : Valid r) : PT.ok 7 (.lst (toldPT r)) := by
  have h1 := lum_len r
  have h2 := hv.2
  refine ⟨by simp [toldPT], fun t ht => ?_⟩
  simp only [toldPT, List.mem_cons, List.not_mem_nil, or_false] at ht
  rcases ht with rfl | rfl | rfl | rfl | rfl
  · trivial
  · trivial
  · trivial
  · trivial
  · exact lmp_ok (lum r) (by omega) 4
theorem told_W {n p : Nat} {r : List Nat} {v4 v5 v6 v7 v8 v9 : Option AV} {P : AV → AH → Prop} (hv : Valid r) (q : ∀ d h', Kp [] h h' → h'[d]? = some (.lst (toldAV r)) → P (.ref d) h') :
    W (eTold [some (.ref n), some (.str r), some (.ref p), some (.str (enc r)), v4, v5, v6, v7, v8, v9] h) P := by
  have hl := enc_len hv
  have hr := rdL_enc hv
  unfold eTold
  simp only [W_lst, W_cons, W_nil, W_fn, W_var, List.getElem?_cons_zero, List.getElem?_cons_succ]
  refine lumps_text_S hv fun h1 k1 => ?_
  refine lumps_text_S hv fun h2 k2 => ?_
  refine read_ok (by omega) hr fun h3 k3 => ?_
  refine read_ok (by omega) hr fun h4 k4 => ?_
  refine lumps_S hv fun h5 k5 => ?_
  exact q _ _ (((((k1.trans k2).trans k3).trans k4).trans k5).trans (Kp.app _)) (by simp [toldAV])
theorem sure_W {n p m : Nat} {r : List Nat} {v5 v6 v7 v8 v9 : Option AV} {F : Fl → AH → Prop} (hv : Valid r) (hp : h[p]? = some (.lst (lmpAV (lum r)))) (hm : h[m]? = some (.lst (toldAV r)))
    (q : ∀ h', Kp [] h h' → F (.nx [some (.ref n), some (.str r), some (.ref p), some (.str (enc r)), some (.ref m), v5, v6, v7, v8, v9]) h') :
    W (bSure [some (.ref n), some (.str r), some (.ref p), some (.str (enc r)), some (.ref m), v5, v6, v7, v8, v9] h) F := by
  have hl := enc_len hv
  unfold bSure
  simp only [W_sif, W_tor, W_tnt, W_tof, W_fn, W_cons, W_nil, W_var, W_lst, List.getElem?_cons_zero, List.getElem?_cons_succ, w_tupL hp]
  have hm2 := (Kp.app (S := []) [AO.lst (toldAV r)]).at hm (by simp)
  have d1 : Den [] (h ++ [AO.lst (toldAV r)]) (.lst (toldPT r)) (.ref m) := by
    simp only [Den]
    exact ⟨m, _, rfl, by simp, hm2, told_dens r _⟩
  have d2 : Den [] (h ++ [AO.lst (toldAV r)]) (.lst (toldPT r)) (.ref h.length) := by
    simp only [Den]
    exact ⟨h.length, _, rfl, by simp, by simp, told_dens r _⟩
  refine same_W 7 _ _ _ _ _ (told_ok hv) d1 d2 fun h1 k1 => ?_
  simp only [w_truB, Bool.not_true, Bool.false_eq_true, if_false, W_tcmp, W_fn, W_cons, W_nil, W_var, W_lst, List.getElem?_cons_zero, List.getElem?_cons_succ]
  refine lread_S (by omega) fun d h2 k2 _ hd => ?_
  rw [rdL_enc hv] at hd
  have hd3 := (Kp.app (S := []) [AO.lst [AV.str r]]).at hd (by simp)
  have d3 : Den [] (h2 ++ [AO.lst [AV.str r]]) (.lst [.str r]) (.ref d) := by
    simp only [Den]
    exact ⟨d, _, rfl, by simp, hd3, by simp [optL, Dens, Den]⟩
  have d4 : Den [] (h2 ++ [AO.lst [AV.str r]]) (.lst [.str r]) (.ref h2.length) := by
    simp only [Den]
    exact ⟨h2.length, [.str r], rfl, by simp, by simp, by simp [Dens, Den]⟩
  have ok1 : PT.ok 20 (.lst [.str r]) := ⟨by simp, fun t ht => by
    simp at ht
    subst ht
    trivial⟩
  have e := fun (Q : AV → AH → Prop) => w_eqD (S := []) (neg := true) (Q := Q) ok1 ok1 d3 d4
  rw [e, eqv_strs1]
  simp only [if_true, Bool.not_true, W_aBl, Bool.false_eq_true, if_false, W_snil]
  exact q _ ((((Kp.app _).trans k1).trans k2).trans (Kp.app _))
def optPT : Option (List Nat) → List PT
  | some r => [.str r]
  | none => []
theorem opt_dens (o : Option (List Nat)) (S : List Nat) : Dens S h (optPT o) (optL o) := by
  cases o <;> simp [optPT, optL, Dens, Den]
/-- what is due, and that it is what is heard -/
theorem turnEnd_W {n d : Nat} {r x : List Nat} {a : AV} {ta : PT} {o : Option (List Nat)} {v2 v4 v5 v8 v9 : Option AV} {F : Fl → AH → Prop} (hd : h[d]? = some (.lst (optL o)))
    (hok : PT.ok 5 ta) (hden : ∀ h, Den [] h ta a)
    (hh : ∀ P : AV → AH → Prop, (∀ m h', Kp [] h h' → h'[m]? = some (.lst (match o with
      | some r' => [.str [116, 111, 108, 100], .str r']
      | none => [.str [116, 101, 120, 116], a])) → P (.ref m) h') → W (heardF "InvalidText" [116, 111, 108, 100] [116, 101, 120, 116] (f_read_lumps [a]) h) P)
    (q : ∀ h', Kp [] h h' → F (.nx [some (.ref n), some (.str r), v2, some (.str x), v4, v5, some a, some (.ref d), v8, v9]) h') :
    W (sIf (tNt (tOf (eFn (fSame 8) (aCons eHeard (aCons eDue aNil))))) (sRet (eCst (.bl false))) sNil [some (.ref n), some (.str r), v2, some (.str x), v4, v5, some a, some (.ref d), v8, v9] h) F := by
  simp only [W_sif, W_tnt, W_tof, W_fn, W_cons, W_nil]
  unfold eHeard
  rw [W_lam, eFn1 (a := a) rfl]
  refine hh _ fun m h1 k1 hm => ?_
  unfold eDue
  simp only [W_if, W_tcmp, W_var, W_lst, W_nil, List.getElem?_cons_zero, List.getElem?_cons_succ]
  have hd1 := (k1.trans (Kp.app [AO.lst []])).at hd (by simp)
  have hm1 := (Kp.app (S := []) [AO.lst []]).at hm (by simp)
  have d1 : Den [] (h1 ++ [AO.lst []]) (.lst (optPT o)) (.ref d) := by
    simp only [Den]
    exact ⟨d, _, rfl, by simp, hd1, opt_dens o _⟩
  have d2 : Den [] (h1 ++ [AO.lst []]) (.lst []) (.ref h1.length) := by
    simp only [Den]
    exact ⟨h1.length, [], rfl, by simp, by simp, by simp [Dens]⟩
  have ok1 : PT.ok 20 (.lst (optPT o)) := by
    cases o with
    | none => exact ⟨by simp [optPT], fun t ht => (by cases ht)⟩
    | some r =>
      refine ⟨by simp [optPT], fun t ht => ?_⟩
      simp [optPT] at ht
      subst ht
      trivial
  have ok2 : PT.ok 20 (.lst []) := ⟨by simp, fun t ht => (by cases ht)⟩
  have e := fun (Q : AV → AH → Prop) => w_eqD (S := []) (neg := true) (Q := Q) ok1 ok2 d1 d2
  rw [e, eqv_empty]
  have fin : ∀ (l : List AV) (ts : List PT) (h2 : AH) (m2 : Nat), h2[m]? = some (.lst l) → h2[m2]? = some (.lst l) → Kp [] h h2 → PT.ok 7 (.lst ts) → Dens [] h2 ts l → W (fSame 8 [.ref m, .ref m2] h2) fun y h => W (truA y h) fun c h => if (!c) = true then W (sRet (eCst (.bl false)) [some (.ref n), some (.str r), v2, some (.str x), v4, v5, some a, some (.ref d), v8, v9] h) F else W (sNil [some (.ref n), some (.str r), v2, some (.str x), v4, v5, some a, some (.ref d), v8, v9] h) F := by
    intro l ts h2 m2 e1 e2 k2 hk hds
    have d3 : Den [] h2 (.lst ts) (.ref m) := by simp only [Den]; exact ⟨m, _, rfl, by simp, e1, hds⟩
    have d4 : Den [] h2 (.lst ts) (.ref m2) := by simp only [Den]; exact ⟨m2, _, rfl, by simp, e2, hds⟩
    refine same_W 7 _ _ _ _ _ hk d3 d4 fun h3 k3 => ?_
    simp only [w_truB, Bool.not_true, Bool.false_eq_true, if_false, W_snil]
    exact q _ (k2.trans k3)
  cases o with
  | none =>
    simp only [optPT, List.isEmpty_nil, if_true, Bool.not_true, W_aBl, Bool.false_eq_true, if_false, W_lst, W_cons, W_nil, W_cst, W_var, List.getElem?_cons_zero, List.getElem?_cons_succ]
    refine fin [.str [116, 101, 120, 116], a] [.str [116, 101, 120, 116], ta] _ _ ((Kp.app (S := []) _).at hm1 (by simp)) (by simp) ((k1.trans (Kp.app _)).trans (Kp.app _)) ⟨by simp, fun t ht => ?_⟩ ?_
    · simp at ht
      rcases ht with rfl | rfl
      · trivial
      · have : ∀ (j k : Nat) (t : PT), j ≤ k → PT.ok j t → PT.ok k t := by
          intro j
          induction j with
          | zero =>
            intro k t _ h
            cases t <;> first | exact (show False from h).elim | (cases k <;> trivial)
          | succ j ih =>
            intro k t hk h
            obtain ⟨k', rfl⟩ : ∃ k', k = k' + 1 := ⟨k - 1, by omega⟩
            cases t with
            | tup ts => exact ⟨h.1, fun t ht => ih k' t (by omega) (h.2 t ht)⟩
            | lst ts => exact ⟨h.1, fun t ht => ih k' t (by omega) (h.2 t ht)⟩
            | _ => trivial
        exact this 5 6 _ (by decide) hok
    · simp only [Dens, Den]
      exact ⟨_, _, rfl, rfl, _, _, rfl, hden _, rfl⟩
  | some r' =>
    have i0 : L2.atI [AV.str r'] 0 = some (.str r') := rfl
    simp only [optPT, List.isEmpty_cons, if_true, Bool.not_false, W_aBl, W_lst, W_cons, W_nil, W_cst, W_bin, W_var, List.getElem?_cons_zero, List.getElem?_cons_succ, w_idxL hd1 i0]
    refine fin [.str [116, 111, 108, 100], .str r'] [.str [116, 111, 108, 100], .str r'] _ _ ((Kp.app (S := []) _).at hm1 (by simp)) (by simp) ((k1.trans (Kp.app _)).trans (Kp.app _)) ⟨by simp, fun t ht => ?_⟩ ?_
    · simp at ht
      rcases ht with rfl | rfl <;> trivial
    · simp only [Dens, Den]
      exact ⟨_, _, rfl, rfl, _, _, rfl, rfl, rfl⟩
theorem turn_W {n p : Nat} {r : List Nat} {v2 v4 v5 v6 v7 v8 v9 : Option AV} {F : Fl → AH → Prop} (hv : Valid r) (hp : Pot n h)
    (q : ∀ a b h', Pot n h' → Kp [n] h h' → F (.nx [some (.ref n), some (.str r), v2, some (.str (enc r)), v4, v5, a, b, v8, v9]) h') :
    W (bTurn [some (.ref n), some (.str r), v2, some (.str (enc r)), v4, v5, v6, v7, v8, v9] h) F := by
  have hl := enc_len hv
  unfold bTurn
  rw [W_seq]
  simp only [W_asg, W_fn, W_cons, W_nil, W_var, W_gnm, List.getElem?_cons_zero, List.getElem?_cons_succ, List.set_cons_succ, List.set_cons_zero]
  refine bent_W hp (by omega) fun a h1 hb p1 k1 => ?_
  rw [W_seq]
  have hn1 : n < h1.length := by obtain ⟨a, b, c, e⟩ := p1; exact (List.getElem?_eq_some_iff.mp e).1
  have potk : ∀ {h2 h3 : AH}, Pot n h2 → Kp [] h2 h3 → Pot n h3 := fun {h2 h3} ⟨a, b, c, e⟩ k => ⟨a, b, c, k.at e (by simp)⟩
  have tail : ∀ (d : Nat) (h2 : AH) (ta : PT) (o : Option (List Nat)), Kp [] h1 h2 → h2[d]? = some (.lst (optL o)) → PT.ok 5 ta → (∀ h, Den [] h ta a) →
      (∀ h2 : AH, W (f_row_of_lumps [a] h2) fun v h' => v = optS o ∧ Kp [] h2 h') → (∀ r', o = some r' → ∃ y, a = .str y ∧ y.length ≤ 640 ∧ rdL y = some r') →
      W (sIf (tNt (tOf (eFn (fSame 8) (aCons eHeard (aCons eDue aNil))))) (sRet (eCst (.bl false))) sNil [some (.ref n), some (.str r), v2, some (.str (enc r)), v4, v5, some a, some (.ref d), v8, v9] h2) F := by
    intro d h2 ta o k2 hd hok hden hrow hsome
    refine turnEnd_W hd hok hden (fun P hP => ?_) fun h3 k3 => q _ _ _ (potk p1 (k2.trans k3)) (k1.trans ((k2.trans k3).weak (fun _ z => by cases z)))
    cases o with
    | none => exact heard_no (hrow h2) fun m h' k hm => hP m h' k hm
    | some r' =>
      obtain ⟨y, rfl, hy, hr⟩ := hsome r' rfl
      exact heard_ok hy hr fun m h' k hm => hP m h' k hm
  rcases hb with ⟨y, rfl, hy⟩ | rfl | rfl | rfl
  · simp only [W_asg, W_if, W_tof, W_un, W_fn, W_cons, W_nil, W_var, W_gnm, w_isi, tyOf, isT_str, w_truB, if_true, List.getElem?_cons_zero, List.getElem?_cons_succ, List.set_cons_succ, List.set_cons_zero]
    refine lread_S hy fun d h2 k2 _ hd => ?_
    exact tail d h2 (.str y) (rdL y) k2 hd trivial (fun h => by simp [Den]) (fun h2 => row_of_lumps_S hy fun h' k => ⟨rfl, k⟩) fun r' e => ⟨y, rfl, hy, e⟩
  · have it : isT .non .str = false := rfl
    simp only [W_asg, W_if, W_tof, W_un, W_lst, W_nil, W_var, W_gnm, w_isi, tyOf, it, w_truB, Bool.false_eq_true, if_false, List.getElem?_cons_zero, List.getElem?_cons_succ, List.set_cons_succ, List.set_cons_zero]
    exact tail _ _ .non none (Kp.app _) (by simp [optL]) trivial (fun h => by simp [Den]) (fun h2 => row_of_lumps_N rfl rfl ⟨rfl, Kp.refl⟩) fun r' e => by cases e
  · have it : isT .int .str = false := rfl
    simp only [W_asg, W_if, W_tof, W_un, W_lst, W_nil, W_var, W_gnm, w_isi, tyOf, it, w_truB, Bool.false_eq_true, if_false, List.getElem?_cons_zero, List.getElem?_cons_succ, List.set_cons_succ, List.set_cons_zero]
    exact tail _ _ (.int 5) none (Kp.app _) (by simp [optL]) trivial (fun h => by simp [Den]) (fun h2 => row_of_lumps_N rfl rfl ⟨rfl, Kp.refl⟩) fun r' e => by cases e
  · have it : isT .tup .str = false := rfl
    simp only [W_asg, W_if, W_tof, W_un, W_lst, W_nil, W_var, W_gnm, w_isi, tyOf, it, w_truB, Bool.false_eq_true, if_false, List.getElem?_cons_zero, List.getElem?_cons_succ, List.set_cons_succ, List.set_cons_zero]
    exact tail _ _ (.tup [.str (enc r)]) none (Kp.app _) (by simp [optL]) ⟨by simp, fun t ht => by simp at ht; subst ht; trivial⟩ (fun h => by simp [Den, Dens]) (fun h2 => row_of_lumps_N rfl rfl ⟨rfl, Kp.refl⟩) fun r' e => by cases e
theorem is_right_W {n : Nat} {r : List Nat} (hp : Pot n h) (hv : Valid r) (q : ∀ h', Pot n h' → Kp [n] h h' → Q (.bl true) h') : W (f_lis_right [.ref n, .str r] h) Q := by
  have hr := hv.2
  have potk : ∀ {h2 h3 : AH}, Pot n h2 → Kp [] h2 h3 → Pot n h3 := fun {h2 h3} ⟨a, b, c, e⟩ k => ⟨a, b, c, k.at e (by simp)⟩
  have wk : ∀ {h2 h3 : AH}, Kp [] h2 h3 → Kp [n] h2 h3 := fun k => k.weak (fun _ z => by cases z)
  unfold f_lis_right
  rw [b_right_eq]
  refine W_call rfl ?_
  rw [W_seq]
  simp only [W_asg, W_fn, W_cons, W_nil, W_var, W_gnm, List.map_cons, List.map_nil, List.replicate, List.cons_append, List.nil_append, List.getElem?_cons_zero, List.getElem?_cons_succ, List.set_cons_succ, List.set_cons_zero]
  refine lumps_of_S (by omega) fun p h1 k1 _ hp1 => ?_
  rw [W_seq, W_asg]
  refine text_W hv hp1 fun h2 k2 => ?_
  simp only [W_gnm, List.set_cons_succ, List.set_cons_zero]
  rw [W_seq, W_asg]
  refine told_W hv fun m h3 k3 hm => ?_
  simp only [W_gnm, List.set_cons_succ, List.set_cons_zero]
  rw [W_seq]
  refine sure_W hv ((k2.trans k3).at hp1 (by simp)) hm fun h4 k4 => ?_
  have k04 := ((k1.trans k2).trans k3).trans k4
  simp only []
  rw [W_seq]
  refine W_for ?_
  simp only [W_range1, W_cons, W_nil, W_cst]
  rw [if_pos (by decide)]
  refine ⟨rangeL 6, fun i σ h' => (∃ v5 v6 v7 v8 v9, σ = [some (.ref n), some (.str r), some (.ref p), some (.str (enc r)), some (.ref m), v5, v6, v7, v8, v9]) ∧ Pot n h' ∧ Kp [n] h h', by rw [rangeL_len]; rfl, ⟨⟨_, _, _, _, _, rfl⟩, potk hp k04, wk k04⟩, fun i σ h hi _ => by rw [rangeL_at]; rfl, ?_, ?_⟩
  · rintro i a σ h5 ha ⟨⟨v5, v6, v7, v8, v9, rfl⟩, p5, k5⟩
    simp only [W_gnm, List.set_cons_succ, List.set_cons_zero]
    refine turn_W (p := p) hv p5 fun a b h6 p6 k6 => ?_
    exact ⟨⟨_, _, _, _, _, rfl⟩, p6, k5.trans k6⟩
  · rintro σ h5 ⟨⟨v5, v6, v7, v8, v9, rfl⟩, p5, k5⟩
    simp only [W_ret, W_cst]
    exact q _ p5 k5
end P

set_option maxHeartbeats 4000000
namespace P
open Z Z.LL
variable {h : AH} {Q : AV → AH → Prop}
theorem sIx_le {n d k : Nat} : HT.sIx n d (some (k : Int)) ≤ k := by
  unfold HT.sIx
  simp only []
  first
    | omega
    | (split <;> omega)
    | (split <;> simp <;> omega)
    | (simp; omega)
theorem cut_le {α : Type} {xs : List α} {k : Nat} : (cutA xs none (some (k : Int))).length ≤ k := by
  unfold cutA
  rw [List.length_take]
  have := sIx_le (n := xs.length) (d := xs.length) (k := k)
  omega
theorem pot_lt {n : Nat} (hp : Pot n h) : n < h.length := by obtain ⟨a, b, c, e⟩ := hp; exact (List.getElem?_eq_some_iff.mp e).1
theorem pot_kp {n : Nat} {h h' : AH} (hp : Pot n h) (k : Kp [] h h') : Pot n h' := by
  obtain ⟨a, b, c, e⟩ := hp
  exact ⟨a, b, c, k.at e (by simp)⟩
theorem kp_wk {n : Nat} {h h' : AH} (k : Kp [] h h') : Kp [n] h h' := k.weak (fun _ z => by cases z)
theorem kp_fresh {n : Nat} {h h1 h2 : AH} (k : Kp [] h h1) (hn : h.length ≤ n) (k2 : Kp [n] h1 h2) : Kp [] h h2 :=
  ⟨Nat.le_trans k.1 k2.1, fun i hi _ => (k2.2 i (Nat.lt_of_lt_of_le hi k.1) (by simp; omega)).trans (k.2 i hi (by simp))⟩
def eSock : SEm := (eIf (tAn (tCmp aEq (eVar 5) (eCst (.int 0))) (tAn (tCmp aNe (eVar 6) (eCst (.str []))) (tCmp aEq (eFn fDraw (aCons (eVar 0) (aCons (eCst (.int 2)) aNil))) (eCst (.int 0))))) (eBin aIdx (eVar 6) (eUn aNeg (eCst (.int 1)))) (eFn fPick (aCons (eVar 0) (aCons (eSlc (eCst (.str [97, 98, 99, 100, 101, 102])) oNone (oSome (eVar 4))) aNil))))
theorem b_lrow_eq : b_lrow = sSeq (sPar3 4 5 6 (aCons (eFn fPick (aCons (eVar 0) (aCons (eTup (aCons (eCst (.int 1)) (aCons (eCst (.int 2)) (aCons (eCst (.int 2)) (aCons (eCst (.int 3)) (aCons (eCst (.int 3)) (aCons (eCst (.int 4)) (aCons (eCst (.int 6)) aNil)))))))) aNil))) (aCons (eFn fDraw (aCons (eVar 0) (aCons (eCst (.int 4)) aNil))) (aCons (eCst (.str [])) aNil))))
  (sSeq (sFor (iRange1 (aCons (eFn fDraw (aCons (eVar 0) (aCons (eBin aAdd (eVar 1) (eCst (.int 1))) aNil))) aNil)) (gNm 2)
  (sAsg (eBin aAdd (eVar 6) eSock) (gNm 6)))
  (sSeq (sAsg (eSlc (eVar 6) oNone (oSome (eBin aAdd (eCst (.int 1)) (eFn fDraw (aCons (eVar 0) (aCons (eCst (.int 4)) aNil)))))) (gNm 3))
  (sRet (eIf (tCmp aEq (eVar 5) (eCst (.int 1))) (eSlc (eBin aMul (eVar 3) (eCst (.int 12))) oNone (oSome (eFn aLen (aCons (eVar 6) aNil)))) (eVar 6))))) := id rfl
def Many (m : Int) : Prop := m = 1 ∨ m = 2 ∨ m = 3 ∨ m = 4 ∨ m = 6
theorem many_cut {m : Int} (hm : Many m) : cutA abc none (some m) ≠ [] ∧ (cutA abc none (some m)).length ≤ 1000 := by
  rcases hm with rfl | rfl | rfl | rfl | rfl <;> decide
theorem sock_W {n : Nat} {m way : Int} {row : List Nat} {v1 v2 v3 : Option AV} {P : AV → AH → Prop} (hp : Pot n h) (hm : Many m) (hr : ∀ c ∈ row, c ∈ abc) (hl : row.length ≤ 1000) (q : ∀ c h', c ∈ abc → Pot n h' → Kp [n] h h' → P (.str [c]) h') :
    W (eSock [some (.ref n), v1, v2, v3, some (.int m), some (.int way), some (.str row)] h) P := by
  have pick : ∀ h1, Pot n h1 → Kp [n] h h1 → W (eFn fPick (aCons (eVar 0) (aCons (eSlc (eCst (.str [97, 98, 99, 100, 101, 102])) oNone (oSome (eVar 4))) aNil)) [some (.ref n), v1, v2, v3, some (.int m), some (.int way), some (.str row)] h1) P := by
    intro h1 p1 k1
    simp only [W_fn, W_cons, W_nil, W_var, W_slc, W_cst, W_onone, W_osome, List.getElem?_cons_zero, List.getElem?_cons_succ, w_slcS (x := [97, 98, 99, 100, 101, 102]) (by decide)]
    obtain ⟨c1, c2⟩ := many_cut hm
    exact pick_S p1 c1 c2 fun c h2 hc p2 k2 => q c h2 (cutA_mem hc) p2 (k1.trans k2)
  unfold eSock
  simp only [W_if, W_tan, W_tcmp, W_var, W_cst, List.getElem?_cons_zero, List.getElem?_cons_succ, w_eqI, W_aBl]
  by_cases c1 : way = 0
  · simp only [c1, decide_true, if_true, w_neS, W_aBl]
    by_cases c2 : row = []
    · simp only [c2, decide_true, Bool.not_true, Bool.false_eq_true, if_false]
      have := pick h hp Kp.refl
      rw [c1, c2] at this
      exact this
    · simp only [c2, decide_false, Bool.not_false, if_true, W_fn, W_cons, W_nil, W_var, W_cst, List.getElem?_cons_zero]
      refine draw_W hp (by decide) (by decide) fun d h1 d0 d1 p1 k1 => ?_
      simp only [w_eqI, W_aBl]
      by_cases c3 : d = 0
      · obtain ⟨c, hc⟩ : ∃ c, row.getLast? = some c := ⟨_, List.getLast?_eq_some_getLast c2⟩
        simp only [c3, decide_true, if_true, W_bin, W_var, W_un, W_cst, w_neg, List.getElem?_cons_zero, List.getElem?_cons_succ, w_idxS, if_pos (show row.length ≤ 16777216 by omega), last_atI hc]
        exact q c h1 (hr c (List.mem_of_getLast? hc)) p1 k1
      · simp only [c3, decide_false, Bool.false_eq_true, if_false]
        have := pick h1 p1 k1
        rw [c1] at this
        simp only [W_fn, W_cons, W_nil] at this
        exact this
  · simp only [c1, decide_false, Bool.false_eq_true, if_false]
    exact pick h hp Kp.refl
theorem row_W {n : Nat} (hp : Pot n h) (q : ∀ r h', Valid r → Pot n h' → Kp [n] h h' → Q (.str r) h') : W (f_lrow [.ref n, .int 12] h) Q := by
  unfold f_lrow
  rw [b_lrow_eq]
  refine W_call rfl ?_
  rw [W_seq]
  simp only [W_par3, W_fn, W_cons, W_nil, W_var, W_cst, W_tup, List.map_cons, List.map_nil, List.replicate, List.cons_append, List.nil_append, List.getElem?_cons_zero, List.getElem?_cons_succ]
  refine pick_T hp (by simp) (by simp) fun a h1 ha p1 k1 => ?_
  obtain ⟨m, rfl, hm⟩ : ∃ m, a = .int m ∧ Many m := by
    simp only [List.mem_cons, List.not_mem_nil, or_false] at ha
    unfold Many
    rcases ha with rfl | rfl | rfl | rfl | rfl | rfl | rfl
    · exact ⟨_, rfl, .inl rfl⟩
    · exact ⟨_, rfl, .inr (.inl rfl)⟩
    · exact ⟨_, rfl, .inr (.inl rfl)⟩
    · exact ⟨_, rfl, .inr (.inr (.inl rfl))⟩
    · exact ⟨_, rfl, .inr (.inr (.inl rfl))⟩
    · exact ⟨_, rfl, .inr (.inr (.inr (.inl rfl)))⟩
    · exact ⟨_, rfl, .inr (.inr (.inr (.inr rfl)))⟩
  refine draw_W p1 (by decide) (by decide) fun way h2 _ _ p2 k2 => ?_
  simp only [List.set_cons_succ, List.set_cons_zero]
  rw [W_seq]
  refine W_for ?_
  simp only [W_range1, W_fn, W_cons, W_nil, W_var, W_cst, W_bin, w_addI, List.getElem?_cons_zero, List.getElem?_cons_succ]
  refine draw_W p2 (by decide) (by decide) fun d h3 d0 d1 p3 k3 => ?_
  simp only []
  rw [if_pos (by omega)]
  have k13 := (k1.trans k2).trans k3
  refine ⟨rangeL d.toNat, fun i σ h' => (∃ row v2, σ = [some (.ref n), some (.int 12), v2, none, some (.int m), some (.int way), some (.str row)] ∧ (∀ c ∈ row, c ∈ abc) ∧ row.length ≤ i) ∧ Pot n h' ∧ Kp [n] h h' ∧ i ≤ d.toNat, by rw [rangeL_len], ⟨⟨[], _, rfl, by simp, by simp⟩, p3, k13, Nat.zero_le _⟩, fun i σ h hi _ => by rw [rangeL_at], ?_, ?_⟩
  · rintro i x σ h4 hx ⟨⟨row, v2, rfl, hr, hl⟩, p4, k4, hi⟩
    have hi2 : i < d.toNat := by
      have := (List.getElem?_eq_some_iff.mp hx).1
      rwa [rangeL_len] at this
    simp only [W_gnm, List.set_cons_succ, List.set_cons_zero, W_asg, W_bin, W_var, List.getElem?_cons_zero, List.getElem?_cons_succ]
    refine sock_W p4 hm hr (by omega) fun c h5 hc p5 k5 => ?_
    have l1 : row.length + ([c] : List Nat).length ≤ 16777216 := by show row.length + 1 ≤ 16777216; omega
    rw [w_addS, if_pos l1]
    refine ⟨⟨row ++ [c], _, rfl, fun e he => ?_, by simp; omega⟩, p5, k4.trans k5, hi2⟩
    rcases List.mem_append.mp he with z | z
    · exact hr e z
    · simp at z; subst z; exact hc
  · rintro σ h4 ⟨⟨row, v2, rfl, hr, hl⟩, p4, k4, _⟩
    rw [rangeL_len] at hl
    have hl12 : row.length ≤ 12 := by omega
    rw [W_seq]
    simp only [W_asg, W_slc, W_var, W_onone, W_osome, W_bin, W_cst, W_fn, W_cons, W_nil, List.getElem?_cons_zero, List.getElem?_cons_succ]
    refine draw_W p4 (by decide) (by decide) fun e h5 _ _ p5 k5 => ?_
    simp only [w_addI, w_slcS (show row.length ≤ 16777216 by omega), W_gnm, List.set_cons_succ, List.set_cons_zero, W_ret, W_if, W_tcmp, W_var, W_cst, List.getElem?_cons_zero, List.getElem?_cons_succ, w_eqI, W_aBl]
    have k05 := k4.trans k5
    by_cases c1 : way = 1
    · have hc := cut_len (xs := row) (lo := none) (hi := some (1 + e))
      have l1 : (cutA row none (some (1 + e))).length ≤ 1000 ∧ -1000 ≤ (12 : Int) ∧ (12 : Int) ≤ 1000 := ⟨by omega, by decide, by decide⟩
      have lf : (List.replicate (12 : Int).toNat (cutA row none (some (1 + e)))).flatten.length ≤ 144 := by
        rw [List.length_flatten]
        simp
        omega
      simp only [c1, decide_true, if_true, W_slc, W_bin, W_var, W_cst, W_onone, W_osome, W_fn, W_cons, W_nil, List.getElem?_cons_zero, List.getElem?_cons_succ, w_mulS, if_pos l1, w_lenS, if_pos (show row.length ≤ 16777216 by omega), w_slcS (Nat.le_trans lf (by omega))]
      refine q _ _ ⟨fun c hc => ?_, Nat.le_trans cut_le hl12⟩ p5 k05
      have := mem_rep (cutA_mem hc)
      exact hr c (cutA_mem this)
    · simp only [c1, decide_false, Bool.false_eq_true, if_false]
      exact q _ _ ⟨hr, hl12⟩ p5 k05
theorem right_W {n : Nat} (hp : Pot n h) (q : ∀ h', Pot n h' → Kp [n] h h' → Q (.bl true) h') : W (f_lright [.ref n] h) Q := by
  unfold f_lright b_lright
  refine W_call rfl ?_
  rw [W_seq]
  refine W_for ?_
  simp only [W_range1, W_cons, W_nil, W_cst]
  rw [if_pos (by decide)]
  refine ⟨rangeL 30, fun i σ h' => (∃ v, σ = [some (.ref n), v]) ∧ Pot n h' ∧ Kp [n] h h', by rw [rangeL_len]; rfl, ⟨⟨_, rfl⟩, hp, Kp.refl⟩, fun i σ h hi _ => by rw [rangeL_at]; rfl, ?_, ?_⟩
  · rintro i a σ h1 ha ⟨⟨v, rfl⟩, p1, k1⟩
    simp only [W_gnm, List.set_cons_succ, List.set_cons_zero, W_sif, W_tnt, W_tof, W_fn, W_cons, W_nil, W_var, W_cst, List.getElem?_cons_zero]
    refine row_W p1 fun r h2 hv p2 k2 => ?_
    refine is_right_W p2 hv fun h3 p3 k3 => ?_
    simp only [w_truB, Bool.not_true, Bool.false_eq_true, if_false, W_snil]
    exact ⟨⟨_, rfl⟩, p3, (k1.trans k2).trans k3⟩
  · rintro σ h1 ⟨⟨v, rfl⟩, p1, k1⟩
    simp only [W_ret, W_cst]
    exact q _ p1 k1
end P

set_option maxHeartbeats 4000000
namespace P
open Z Z.LL
variable {h : AH} {Q : AV → AH → Prop}
def bLonger : SSm := (sAsg (eBin aAdd (eVar 3) (eComp [5] (iVal (eSlc (eCst (.str [97, 98, 99, 100, 101, 102])) oNone (oSome (eBin aAdd (eUn aLenSet (eVar 4)) (eCst (.int 1)))))) (gNm 5) tYs (eBin aAdd (eVar 4) (eVar 5)))) (gNm 3))
theorem b_named_eq : b_lnamed_rows = sSeq (sAsg (eLst (aCons (eCst (.str [])) aNil)) (gNm 1))
  (sSeq (sFor (iRange1 (aCons (eVar 0) aNil)) (gNm 2)
  (sSeq (sAsg (eLst aNil) (gNm 3))
  (sSeq (sFor (iVal (eVar 1)) (gNm 4) bLonger)
  (sAsg (eVar 3) (gNm 1)))))
  (sRet (eVar 1))) := id rfl
def AllAbc (k : Nat) (ys : List (List Nat)) : Prop := ∀ y ∈ ys, (∀ c ∈ y, c ∈ abc) ∧ y.length = k
theorem longer_W {e : Nat} {y : List Nat} {zs : List (List Nat)} {v0 v1 v2 v5 : Option AV} {k : Nat} {F : Fl → AH → Prop} (he : h[e]? = some (.lst (zs.map .str))) (hy : (∀ c ∈ y, c ∈ abc) ∧ y.length = k) (hk : k ≤ 20) (hz : AllAbc (k + 1) zs) (hl : zs.length ≤ 100000)
    (q : ∀ (e' : Nat) (zs' : List (List Nat)) v5 h', Kp [] h h' → h.length ≤ e' → h'[e']? = some (.lst (zs'.map .str)) → AllAbc (k + 1) zs' → zs'.length ≤ zs.length + 6 → F (.nx [v0, v1, v2, some (.ref e'), some (.str y), v5]) h') :
    W (bLonger [v0, v1, v2, some (.ref e), some (.str y), v5] h) F := by
  unfold bLonger
  rw [W_asg, W_bin]
  simp only [W_var, List.getElem?_cons_zero, List.getElem?_cons_succ]
  refine W_compZ ?_
  simp only [W_ival, W_slc, W_cst, W_onone, W_osome, W_bin, W_un, W_var, List.getElem?_cons_zero, List.getElem?_cons_succ]
  have hls : ∀ P : AV → AH → Prop, W (aLenSet (.str y) h) P = P (.int (ZT.dst y).length) h := fun P => by
    unfold aLenSet
    simp only [if_pos (show y.length ≤ 1000 by omega), W_ok]
  rw [hls]
  simp only [w_addI, w_slcS (x := [97, 98, 99, 100, 101, 102]) (by decide), W_srcS]
  generalize hcs : cutA ([97, 98, 99, 100, 101, 102] : List Nat) none (some (((ZT.dst y).length : Int) + 1)) = cs
  have hc1 : ∀ c ∈ cs, c ∈ abc := fun c hc => by rw [← hcs] at hc; exact cutA_mem hc
  have hc2 : cs.length ≤ 6 := by
    have := cut_len (xs := ([97, 98, 99, 100, 101, 102] : List Nat)) (lo := none) (hi := some (((ZT.dst y).length : Int) + 1))
    rw [hcs] at this
    exact this
  refine ⟨strL cs, (cs.map fun c => y ++ [c]).map .str, by simp [strL], by simp [strL], by simp [strL]; omega, fun i h _ _ => by rw [strL_at], fun i a h2 ha k2 => ?_, fun d h2 k2 hd1 hd2 => ?_⟩
  · rw [strL_at] at ha
    cases e1 : cs[i]? with
    | none => rw [e1] at ha; cases ha
    | some c =>
      rw [e1] at ha
      cases ha
      have l1 : y.length + ([c] : List Nat).length ≤ 16777216 := by show y.length + 1 ≤ 16777216; omega
      simp only [wipeA, W_gnm, W_bin, W_var, List.set_cons_succ, List.set_cons_zero, List.getElem?_cons_zero, List.getElem?_cons_succ, w_addS, if_pos l1]
      refine ⟨?_, Kp.refl⟩
      rw [List.getElem?_map, List.getElem?_map, e1]
      rfl
  · rw [w_addL (k2.at he (by simp)) hd2 (by simp; omega)]
    simp only [W_gnm, List.set_cons_succ, List.set_cons_zero]
    refine q _ (zs ++ cs.map fun c => y ++ [c]) _ _ (k2.trans (Kp.app _)) k2.1 (by simp) (fun w hw => ?_) (by simp; omega)
    rcases List.mem_append.mp hw with z | z
    · exact hz w z
    · obtain ⟨c, hc, rfl⟩ := List.mem_map.mp z
      refine ⟨fun e he => ?_, by simp [hy.2]⟩
      rcases List.mem_append.mp he with z | z
      · exact hy.1 e z
      · simp at z; subst z; exact hc1 _ hc
theorem named_W {s : Nat} (hs : s ≤ 5) (q : ∀ (d : Nat) (ys : List (List Nat)) h', Kp [] h h' → h.length ≤ d → h'[d]? = some (.lst (ys.map .str)) → (∀ y ∈ ys, Valid y) → ys.length ≤ 100000 → Q (.ref d) h') : W (f_lnamed_rows [.int s] h) Q := by
  unfold f_lnamed_rows
  rw [b_named_eq]
  refine W_call rfl ?_
  rw [W_seq]
  simp only [W_asg, W_lst, W_cons, W_nil, W_cst, W_gnm, List.map_cons, List.map_nil, List.replicate, List.cons_append, List.nil_append, List.set_cons_succ, List.set_cons_zero]
  rw [W_seq]
  refine W_for ?_
  simp only [W_range1, W_cons, W_nil, W_var, List.getElem?_cons_zero]
  rw [if_pos (by omega)]
  have hpow : ∀ i, i ≤ 5 → 6 ^ i ≤ 7776 := by decide
  refine ⟨rangeL ((s : Int).toNat), fun i σ h' => ∃ (d : Nat) (ys : List (List Nat)) (v2 v3 v4 v5 : Option AV), σ = [some (.int s), some (.ref d), v2, v3, v4, v5] ∧ h'[d]? = some (.lst (ys.map .str)) ∧ AllAbc i ys ∧ ys.length ≤ 6 ^ i ∧ Kp [] h h' ∧ h.length ≤ d ∧ i ≤ s, by rw [rangeL_len],
    ⟨h.length, [[]], _, _, _, _, rfl, by simp, fun y hy => by simp at hy; subst hy; simp, by simp, Kp.app _, Nat.le_refl _, Nat.zero_le _⟩, fun i σ h hi _ => by rw [rangeL_at], ?_, ?_⟩
  · rintro i a σ h1 ha ⟨d, ys, v2, v3, v4, v5, rfl, hd, hy, hl, k1, hdl, hi⟩
    have hi2 : i < s := by
      have := (List.getElem?_eq_some_iff.mp ha).1
      rw [rangeL_len] at this
      omega
    have hp := hpow i (by omega)
    simp only [W_gnm, List.set_cons_succ, List.set_cons_zero]
    rw [W_seq]
    simp only [W_asg, W_lst, W_nil, W_gnm, List.set_cons_succ, List.set_cons_zero]
    rw [W_seq]
    refine W_for ?_
    have hd1 := (Kp.app (S := []) [AO.lst []]).at hd (by simp)
    simp only [W_ival, W_var, List.getElem?_cons_zero, List.getElem?_cons_succ]
    rw [W_srcL hd1]
    refine ⟨ys.map .str, fun j σ h' => ∃ (e : Nat) (zs : List (List Nat)) (v2 v4 v5 : Option AV), σ = [some (.int s), some (.ref d), v2, some (.ref e), v4, v5] ∧ h'[e]? = some (.lst (zs.map .str)) ∧ AllAbc (i + 1) zs ∧ zs.length ≤ 6 * j ∧ j ≤ ys.length ∧ Kp [] (h1 ++ [AO.lst []]) h' ∧ h1.length ≤ e, by simp, ⟨h1.length, [], _, _, _, rfl, by simp, fun y hy => by simp at hy, by simp, Nat.zero_le _, Kp.refl, Nat.le_refl _⟩, ?_, ?_, ?_⟩
    · rintro j σ h2 hj ⟨e, zs, v2, v4, v5, _, _, _, _, _, k2, _⟩
      simp only [k2.at hd1 (by simp)]
      simp
    · rintro j a σ h2 hja ⟨e, zs, v2, v4, v5, rfl, he, hz, hzl, hjl, k2, hel⟩
      rw [List.getElem?_map] at hja
      cases q1 : ys[j]? with
      | none => rw [q1] at hja; cases hja
      | some y =>
        rw [q1] at hja
        cases hja
        have hj2 : j < ys.length := (List.getElem?_eq_some_iff.mp q1).1
        simp only [W_gnm, List.set_cons_succ, List.set_cons_zero]
        refine longer_W he (hy y (List.mem_of_getElem? q1)) (by omega) hz (by omega) fun e' zs' v5 h3 k3 hel3 he3 hz3 hl3 => ?_
        exact ⟨e', zs', _, _, _, rfl, he3, hz3, by omega, hj2, k2.trans k3, Nat.le_trans (by have := k2.1; simp at this; omega) hel3⟩
    · rintro σ h2 ⟨e, zs, v2, v4, v5, rfl, he, hz, hzl, hjl, k2, hel⟩
      rw [List.length_map] at hzl
      simp only [W_asg, W_var, W_gnm, List.getElem?_cons_zero, List.getElem?_cons_succ, List.set_cons_succ, List.set_cons_zero]
      refine ⟨e, zs, _, _, _, _, rfl, he, hz, ?_, k1.trans ((Kp.app _).trans k2), Nat.le_trans k1.1 hel, hi2⟩
      rw [Nat.pow_succ]
      omega
  · rintro σ h1 ⟨d, ys, v2, v3, v4, v5, rfl, hd, hy, hl, k1, hdl, hi⟩
    rw [rangeL_len] at hy hl
    have hp := hpow ((s : Int).toNat) (by omega)
    simp only [W_ret, W_var, List.getElem?_cons_zero, List.getElem?_cons_succ]
    refine q d ys _ k1 hdl hd (fun y h => ⟨(hy y h).1, ?_⟩) (by omega)
    have := (hy y h).2
    omega
theorem e_pot : f_lpot = fPot 1002991 10391 := id rfl
def bSizes : SSm := (sIf (tNt (tOf (eFn aAll (aCons (eComp [4] (iVal (eFn f_lnamed_rows (aCons (eVar 2) aNil))) (gNm 4) tYs (eFn f_lis_right (aCons (eVar 1) (aCons (eVar 4) aNil)))) aNil)))) (sRet (eCst (.bl false)))
  sNil)
def bTurns : SSm := (sRet (eFn aAll (aCons (eComp [3] (iRange1 (aCons (eFn aMax2 (aCons (eCst (.int 2)) (aCons (eFn aMin2 (aCons (eFn aLen (aCons (eVar 0) aNil)) (aCons (eCst (.int 4)) aNil))) aNil))) aNil)) (gNm 3) tYs (eFn f_lright (aCons (eFn (fPot 1002991 10391) (aCons (eVar 0) (aCons (eVar 3) aNil))) aNil))) aNil)))
theorem b_law_eq : b_law = sSeq (sAsg (eFn (fPot 1002991 10391) (aCons (eVar 0) (aCons (eCst (.int 5)) aNil))) (gNm 1)) (sSeq (sFor (iRange1 (aCons (eCst (.int 6)) aNil)) (gNm 2) bSizes) bTurns) := id rfl
theorem sizes_W {n s : Nat} {v0 v3 v4 : Option AV} {F : Fl → AH → Prop} (hs : s ≤ 5) (hp : Pot n h) (q : ∀ h', Pot n h' → Kp [n] h h' → F (.nx [v0, some (.ref n), some (.int s), v3, v4]) h') : W (bSizes [v0, some (.ref n), some (.int s), v3, v4] h) F := by
  unfold bSizes
  simp only [W_sif, W_tnt, W_tof, W_fn, W_cons, W_nil]
  refine W_compK (S := [n]) ?_
  simp only [W_ival, W_fn, W_cons, W_nil, W_var, List.getElem?_cons_zero, List.getElem?_cons_succ]
  refine named_W hs fun d ys h1 k1 hdl hd hv hl => ?_
  rw [W_srcL hd]
  have p1 := pot_kp hp k1
  have hdn : d ∉ [n] := by have := pot_lt hp; simp; omega
  refine ⟨ys.map .str, fun _ h' => Pot n h', fun _ y => y = .bl true, by simp, by simp; omega, fun m hm => by simp at hm; subst hm; exact pot_lt p1, p1, fun i h' d' o hd' hp' => ?_, fun i h' o hp' => pot_kp hp' (Kp.app _), fun i h' hi k => ?_, fun i a h' ha p2 k2 => ?_, fun zs d' h' _ hz p2 k2 _ hd' => ?_⟩
  · obtain ⟨a, b, c, e⟩ := hp'
    have := pot_lt p1
    exact ⟨a, b, c, by rw [List.getElem?_set_ne (by omega)]; exact e⟩
  · simp only [k.at hd hdn]
    simp
  · rw [List.getElem?_map] at ha
    cases q1 : ys[i]? with
    | none => rw [q1] at ha; cases ha
    | some y =>
      rw [q1] at ha
      cases ha
      simp only [wipeA, W_gnm, W_fn, W_cons, W_nil, W_var, List.set_cons_succ, List.set_cons_zero, List.getElem?_cons_zero, List.getElem?_cons_succ]
      exact is_right_W p2 (hv y (List.mem_of_getElem? q1)) fun h3 p3 k3 => ⟨rfl, p3, k3⟩
  · refine W_allT hd' hz ?_
    simp only [w_truB, Bool.not_true, Bool.false_eq_true, if_false, W_snil]
    exact q _ p2 ((kp_wk k1).trans k2)
theorem turns_W {a : AV} {ns : List Int} {v1 v2 v3 v4 : Option AV} {F : Fl → AH → Prop} (s : Scr a h ns) (hl : ns.length ≤ 1000) (q : ∀ h', F (.rt (.bl true)) h') : W (bTurns [some a, v1, v2, v3, v4] h) F := by
  unfold bTurns
  simp only [W_ret, W_fn, W_cons, W_nil]
  refine W_compK (S := []) ?_
  simp only [W_range1, W_fn, W_cons, W_nil, W_cst, W_var, List.getElem?_cons_zero, scr_len s, w_minI, w_maxI]
  have hb : -1000000000 ≤ (if (if (4 : Int) < (ns.length : Int) then (4 : Int) else (ns.length : Int)) > 2 then (if (4 : Int) < (ns.length : Int) then (4 : Int) else (ns.length : Int)) else 2) ∧ (if (if (4 : Int) < (ns.length : Int) then (4 : Int) else (ns.length : Int)) > 2 then (if (4 : Int) < (ns.length : Int) then (4 : Int) else (ns.length : Int)) else 2) ≤ 4 := by
    split <;> split <;> omega
  generalize (if (if (4 : Int) < (ns.length : Int) then (4 : Int) else (ns.length : Int)) > 2 then (if (4 : Int) < (ns.length : Int) then (4 : Int) else (ns.length : Int)) else 2) = m at hb ⊢
  rw [if_pos ⟨hb.1, by omega⟩]
  refine ⟨rangeL m.toNat, fun _ _ => True, fun _ y => y = .bl true, by rw [rangeL_len], by rw [rangeL_len]; omega, fun n hn => (by cases hn), trivial, fun _ _ _ _ _ _ => trivial, fun _ _ _ _ => trivial, fun i h' hi k => by rw [rangeL_at], fun i x h' hx _ k => ?_, fun zs d h' _ hz _ k _ hd => ?_⟩
  · rw [rangeL_at] at hx
    split at hx
    · cases hx
      simp only [wipeA, W_gnm, W_fn, W_cons, W_nil, W_var, List.set_cons_succ, List.set_cons_zero, List.getElem?_cons_zero, List.getElem?_cons_succ]
      refine pot_W (by decide) (s.keep k) hl (by omega) fun n h2 k2 hn p2 => ?_
      exact right_W p2 fun h3 p3 k3 => ⟨rfl, trivial, kp_fresh k2 hn k3⟩
    · cases hx
  · exact W_allT hd hz (q _)
theorem law_W {a : AV} {ns : List Int} (s : Scr a h ns) (hl : ns.length ≤ 1000) (q : ∀ h', Q (.bl true) h') : W (f_law [a] h) Q := by
  unfold f_law
  rw [b_law_eq]
  refine W_call rfl ?_
  rw [W_seq]
  simp only [W_asg, W_fn, W_cons, W_nil, W_cst, W_var, W_gnm, List.map_cons, List.map_nil, List.replicate, List.cons_append, List.nil_append, List.getElem?_cons_zero, List.set_cons_succ, List.set_cons_zero]
  refine pot_W (by decide) s hl (by decide) fun n h1 k1 hn p1 => ?_
  rw [W_seq]
  refine W_for ?_
  simp only [W_range1, W_cons, W_nil, W_cst]
  rw [if_pos (by decide)]
  refine ⟨rangeL 6, fun i σ h' => (∃ v2 v3 v4, σ = [some a, some (.ref n), v2, v3, v4]) ∧ Pot n h' ∧ Kp [] h h', by rw [rangeL_len]; rfl, ⟨⟨_, _, _, rfl⟩, p1, k1⟩, fun i σ h hi _ => by rw [rangeL_at]; rfl, ?_, ?_⟩
  · rintro i x σ h2 hx ⟨⟨v2, v3, v4, rfl⟩, p2, k2⟩
    have hi : i < 6 := by
      have := (List.getElem?_eq_some_iff.mp hx).1
      rwa [rangeL_len] at this
    rw [rangeL_at, if_pos hi] at hx
    cases hx
    simp only [W_gnm, List.set_cons_succ, List.set_cons_zero]
    refine sizes_W (by omega) p2 fun h3 p3 k3 => ?_
    exact ⟨⟨_, _, _, rfl⟩, p3, kp_fresh k2 hn k3⟩
  · rintro σ h2 ⟨⟨v2, v3, v4, rfl⟩, p2, k2⟩
    exact turns_W (s.keep k2) hl q
theorem math (ns : List Int) (hl : ns.length ≤ 63) (_ : ∀ z ∈ ns, PySem.Builtin.Int.intBits z ≤ 1048576) : (∃ h', f_law [.lsc ns] [] = .ok (.bl true) h') ∧ ∃ h', f_law [.ref 0] [.lst (ns.map .int)] = .ok (.bl true) h' := by
  constructor
  · obtain ⟨a, h', e, rfl⟩ := (law_W (h := []) (a := .lsc ns) (ns := ns) (Q := fun a _ => a = .bl true) (.inl rfl) (by omega) fun _ => rfl).ex
    exact ⟨h', e⟩
  · obtain ⟨a, h', e, rfl⟩ := (law_W (h := [.lst (ns.map .int)]) (a := .ref 0) (ns := ns) (Q := fun a _ => a = .bl true) (.inr ⟨0, rfl, rfl⟩) (by omega) fun _ => rfl).ex
    exact ⟨h', e⟩
end P

open PySem PySem.W PySem.Calls PyProof.Rows
set_option maxRecDepth 100000 in
set_option maxHeartbeats 0 in
theorem PySem.Challenge.cw_sockrows_k75_whole_texts_of_lumps_holds : PySem.Challenge.rw_sockrows_k75_whole_texts_of_lumps.Holds := by
  w_on; o_law
  refine HandSHeadRun.head_any (r := OpenLaw.row PySem.Challenge.rw_sockrows_k75_whole_texts_of_lumps) (q := view (OpenLaw.row PySem.Challenge.rw_sockrows_k75_whole_texts_of_lumps).prog [41]) (H := P.hk) (ob := P.ob) (M := 4000) (loose := P.loose) (d := HandSHeadRun.topDef (OpenLaw.row PySem.Challenge.rw_sockrows_k75_whole_texts_of_lumps).prog 41) (kwd := []) P.ob_eq
    (by kernel_rfl) (fun s => by kernel_rfl) P.run (by kernel_rfl) (by kernel_rfl) (by kernel_rfl) (by rfl) (by first | assumption | decide +kernel) (by decide +kernel) ⟨rfl, rfl, rfl, rfl, rfl, by decide +kernel⟩ ?hw ?hc
  case hw => w_witness2
  case hc =>
    refine LamX.walk_ofTsE (l := PySem.Challenge.rw_sockrows_k75_whole_texts_of_lumps) (n := 63) (k := 12) (x := "script") (CX := fun w => L2.CX (PySem.Challenge.rw_sockrows_k75_whole_texts_of_lumps).prog w) rfl (by decide) (by kernel_rfl) ⟨rfl, by decide, by decide⟩ ?F (fun _ _ _ _ _ z => by
      obtain ⟨_, _, _, _, _, _, _, _, _, _, _, _, z⟩ := z
      exact z)
    intro w mg fa h Y G hmg0
    obtain ⟨K, KX, c⟩ := Y
    obtain ⟨T⟩ := P.txt_of KX G c
    have hmg : mg ("law" : PySem.Str) = some (.ref fa) := by
      have e : (HandSHeadRun.topDef (OpenLaw.row PySem.Challenge.rw_sockrows_k75_whole_texts_of_lumps).prog 41).name = ("law" : PySem.Str) := by kernel_rfl
      rw [← e]
      exact hmg0
    have e := hmg.symm.trans T.d_law.g
    cases e
    exact ⟨K, KX, Z.law_at (C := P.cfg K) (g := P.f_law) (fs := P.lamDefs) (q := fun f => f ++ ".<locals>.<lambda>") KX rfl rfl c.hd c.out c.empty
      (fun s v => L2.FunD.bindsA (ps := ["script"]) T.d_law.F (fun _ _ _ _ _ _ us hl => match us, hl with | [_], _ => rfl) s [v] rfl) P.math (fun base _ _ hT => P.ok_law T hT)⟩
