import PyProof.Rows.All
import HandS.ForMost
import HandS.ForExc
import KE.DataEq
import KE.KDictKeyed
import KE.KeyNested
import HandS.Iter
import KE.DataCmp
import HandS.TupAny
import HandS.Star
import HandS.Text
import HandS.ExcCtx
import HandS.HotCalls
import HandS.ExcIs
import PyProof.ReprRoads
import KE.SortData
import HandS.Set
import HandS.SetFor
import HandS.SetKeys
import HandS.DictComp
import KE.KDictDisplayH
import HandS.Conv
import KE.DataFind
import HandS.TupMul
import HandS.Hot
import PyProof.CompFree
import HandS.ExcValue
import HandS.ExcOwn
import PyProof.ReprLen
import PySem.Challenge.RW_namewarden_k87_all_merges_of_two_logs
set_option Elab.async false
set_option maxRecDepth 100000
set_option maxHeartbeats 2000000
/-! The clean layer: data without addresses, the state of a def's run, and how they lie in the abstract heap. -/
namespace Cl
open PySem PySem.Spec PyProof.Rows L2

/-- a clean value: pure data; the n-th object of the clean heap; an opaque value -/
inductive CV where
  | d (x : PyData)
  | r (n : Nat)
  | o (v : V)
/-- a mutable object -/
inductive CO where
  | lst (xs : List CV)
  | dic (kvs : List (PyData × CV))
  | ins (C : Str) (fs : List (Str × CV))
/-- a slot: empty, a value, a list or dict of data that nothing else knows -/
inductive Sl where
  | un
  | v (x : CV)
  | ol (xs : List PyData)
  | od (kvs : List (PyData × PyData))
structure CS where
  sl : List Sl
  hp : List CO
/-- an exception: its class, its fields -/
structure XC where
  cls : Str
  fs : List (Str × PyData)
inductive Res (α : Type) where
  | ok (a : α) (c : CS)
  | ex (e : XC) (c : CS)
  | no
abbrev Mo (α : Type) := CS → Res α
def mRet {α : Type} (a : α) : Mo α := fun c => .ok a c
def mBind {α β : Type} (m : Mo α) (f : α → Mo β) : Mo β := fun c => match m c with
  | .ok a c1 => f a c1
  | .ex e c1 => .ex e c1
  | .no => .no
def mOpt {α : Type} (o : Option α) : Mo α := fun c => match o with
  | some a => .ok a c
  | none => .no

/-! ### data in the abstract heap -/
/-- the written part and the world -/
structure KW where
  K : PySem.W.Frag
  w : World
abbrev kwOf (X : Cx) : KW := ⟨X.K, X.w⟩
/-- a list that never changes: frozen, or of the written part -/
def FzL (K : PySem.W.Frag) (H : Hp) (a : Addr) (vs : List V) : Prop := (∃ o, H a = some (.frz o (.lst vs))) ∨ ∀ H', SqL K H' a vs
theorem FzL.sq {K : PySem.W.Frag} {H : Hp} {a : Addr} {vs : List V} (h : FzL K H a vs) : SqL K H a vs := by
  rcases h with ⟨o, h⟩ | h
  · exact .inl (.inr ⟨o, h⟩)
  · exact h H
/-- what never changes, stays -/
structure Fz (H H' : Hp) : Prop where
  t : ∀ a xs, H a = some (.tup xs) → H' a = some (.tup xs)
  f : ∀ a o u, H a = some (.frz o u) → H' a = some (.frz o u)
theorem Fz.refl (H : Hp) : Fz H H := ⟨fun _ _ h => h, fun _ _ _ h => h⟩
theorem Fz.trans {H H1 H2 : Hp} (x : Fz H H1) (y : Fz H1 H2) : Fz H H2 := ⟨fun a xs h => y.t a xs (x.t a xs h), fun a o u h => y.f a o u (x.f a o u h)⟩
theorem Fz.same {H H' : Hp} (x : Same H H') : Fz H H' := ⟨fun _ _ h => x _ _ h, fun _ _ _ h => x _ _ h⟩
theorem Fz.sqT {K : PySem.W.Frag} {H H' : Hp} (x : Fz H H') {a : Addr} {vs : List V} (h : SqT K H a vs) : SqT K H' a vs := by
  rcases h with (h | ⟨o, h⟩) | h
  · exact .inl (.inl (x.t _ _ h))
  · exact .inl (.inr ⟨o, x.f _ _ _ h⟩)
  · exact .inr h
theorem Fz.fzL {K : PySem.W.Frag} {H H' : Hp} (x : Fz H H') {a : Addr} {vs : List V} (h : FzL K H a vs) : FzL K H' a vs := by
  rcases h with ⟨o, h⟩ | h
  · exact .inl ⟨o, x.f _ _ _ h⟩
  · exact .inr h
def keyD : Key → PyData
  | .inl i => .int i
  | .inr x => .str x
mutual
/-- a datum as a dict's key -/
def nk : PyData → NestedKey
  | .bool b => .num (if b = true then 1 else 0)
  | .int i => .num i
  | .str x => .text x
  | .tuple xs => .tup (nks xs)
  | _ => .none
def nks : List PyData → List NestedKey
  | [] => []
  | x :: xs => nk x :: nks xs
end
mutual
/-- it has a hash -/
def hashb : PyData → Bool
  | .none => true
  | .bool _ => true
  | .int _ => true
  | .str _ => true
  | .tuple xs => hashbs xs
  | .list _ => false
  | .dict _ => false
def hashbs : List PyData → Bool
  | [] => true
  | x :: xs => hashb x && hashbs xs
end
/-- a tuple that may be a key -/
def keyOk : PyData → Bool
  | .tuple xs => hashbs xs && decide ((NestedKey.tup (nks xs)).depth ≤ 8)
  | _ => false
/-- the dict at a with tuples as keys: each key, where its tuple stands, its value -/
def DKy (w : World) (a : Addr) (kws : List (NestedKey × Addr × V)) : HO := .ext fun h => kws.length ≤ sizeLine ∧ (a == sysModules) = false ∧ (kws.map (·.1)).Nodup ∧
  ∃ (xs : List (NestedKey × Addr × Value)) (o : Obj) (es : Array DictEntry) (ep : Nat), Paired (fun p q => p.1 = q.1 ∧ p.2.1 = q.2.1 ∧ RelV p.2.2 q.2.2) kws xs ∧ h.get? a = some o ∧ o.ExactDict ∧ o.data = .dict es ep ∧
    es.toList = xs.map fun x => ⟨x.1.hash w, .ref x.2.1, x.2.2⟩
mutual
def Den (K : KW) (H : Hp) : PyData → V → Prop
  | .none, v => v = .non
  | .bool b, v => v = .bl b
  | .int i, v => v = .int i
  | .str x, v => v = .str x
  | .tuple xs, v => ∃ a vs, v = .ref a ∧ SqT K.K H a vs ∧ DenL K H xs vs
  | .list xs, v => ∃ a vs, v = .ref a ∧ FzL K.K H a vs ∧ DenL K H xs vs
  | .dict kvs, v => ∃ a o, v = .ref a ∧ ((∃ kws : List (Key × V), H a = some (.frz o (.dK kws)) ∧ kvs.map (·.1) = kws.map (fun q => keyD q.1) ∧ DenW K H kvs (kws.map (·.2))) ∨
      ∃ kws : List (NestedKey × Addr × V), H a = some (.frz o (DKy K.w a kws)) ∧ DenE K H kvs kws)
def DenW (K : KW) (H : Hp) : List (PyData × PyData) → List V → Prop
  | [], vs => vs = []
  | (_, x) :: xs, vs => ∃ v r, vs = v :: r ∧ Den K H x v ∧ DenW K H xs r
def DenE (K : KW) (H : Hp) : List (PyData × PyData) → List (NestedKey × Addr × V) → Prop
  | [], ks => ks = []
  | (k, x) :: xs, ks => ∃ b v r, ks = (nk k, b, v) :: r ∧ keyOk k = true ∧ Den K H k (.ref b) ∧ Den K H x v ∧ DenE K H xs r
def DenL (K : KW) (H : Hp) : List PyData → List V → Prop
  | [], vs => vs = []
  | x :: xs, vs => ∃ v r, vs = v :: r ∧ Den K H x v ∧ DenL K H xs r
end
mutual
theorem Den.mono {K : KW} {H H' : Hp} (f : Fz H H') : ∀ (x : PyData) (v : V), Den K H x v → Den K H' x v
  | .none, v, h => by simpa only [Den] using h
  | .bool b, v, h => by simpa only [Den] using h
  | .int b, v, h => by simpa only [Den] using h
  | .str b, v, h => by simpa only [Den] using h
  | .tuple xs, v, h => by
    simp only [Den] at h ⊢
    obtain ⟨a, vs, e, q, r⟩ := h
    exact ⟨a, vs, e, f.sqT q, DenL.mono f xs vs r⟩
  | .list xs, v, h => by
    simp only [Den] at h ⊢
    obtain ⟨a, vs, e, q, r⟩ := h
    exact ⟨a, vs, e, f.fzL q, DenL.mono f xs vs r⟩
  | .dict kvs, v, h => by
    simp only [Den] at h ⊢
    obtain ⟨a, o, e, ⟨kws, h1, h2, h3⟩ | ⟨kws, h1, h3⟩⟩ := h
    · exact ⟨a, o, e, .inl ⟨kws, f.f _ _ _ h1, h2, DenW.mono f kvs _ h3⟩⟩
    · exact ⟨a, o, e, .inr ⟨kws, f.f _ _ _ h1, DenE.mono f kvs _ h3⟩⟩
theorem DenW.mono {K : KW} {H H' : Hp} (f : Fz H H') : ∀ (xs : List (PyData × PyData)) (vs : List V), DenW K H xs vs → DenW K H' xs vs
  | [], vs, h => by simpa only [DenW] using h
  | (k, x) :: xs, vs, h => by
    simp only [DenW] at h ⊢
    obtain ⟨v, r, e, q, t⟩ := h
    exact ⟨v, r, e, Den.mono f x v q, DenW.mono f xs r t⟩
theorem DenE.mono {K : KW} {H H' : Hp} (f : Fz H H') : ∀ (xs : List (PyData × PyData)) (vs : List (NestedKey × Addr × V)), DenE K H xs vs → DenE K H' xs vs
  | [], vs, h => by simpa only [DenE] using h
  | (k, x) :: xs, vs, h => by
    simp only [DenE] at h ⊢
    obtain ⟨b, v, r, e, k1, k2, q, t⟩ := h
    exact ⟨b, v, r, e, k1, Den.mono f k _ k2, Den.mono f x v q, DenE.mono f xs r t⟩
theorem DenL.mono {K : KW} {H H' : Hp} (f : Fz H H') : ∀ (xs : List PyData) (vs : List V), DenL K H xs vs → DenL K H' xs vs
  | [], vs, h => by simpa only [DenL] using h
  | x :: xs, vs, h => by
    simp only [DenL] at h ⊢
    obtain ⟨v, r, e, q, t⟩ := h
    exact ⟨v, r, e, Den.mono f x v q, DenL.mono f xs r t⟩
end
section
variable {X : Cx} {pins : List (Addr × Obj)} {σ : L2.St} {H : Hp} {s : Shared}
mutual
theorem Den.reads (I : Inv X pins σ H s) : ∀ (x : PyData) (v : V) (u : Value), x.plain = true → Den (kwOf X) H x v → RelV v u → ∃ as, Reads s.heap u x as
  | .none, v, u, _, h, r => by
    simp only [Den] at h
    subst h
    obtain rfl : u = Value.none := r
    exact ⟨_, .none⟩
  | .bool b, v, u, _, h, r => by
    simp only [Den] at h
    subst h
    obtain rfl : u = Value.bool b := r
    exact ⟨_, .bool b⟩
  | .int i, v, u, _, h, r => by
    simp only [Den] at h
    subst h
    obtain ⟨t, rfl⟩ := r
    exact ⟨_, .int i t⟩
  | .str i, v, u, _, h, r => by
    simp only [Den] at h
    subst h
    obtain ⟨t, rfl⟩ := r
    exact ⟨_, .str i t⟩
  | .tuple xs, v, u, p, h, r => by
    simp only [Den] at h
    obtain ⟨a, vs, rfl, q, d⟩ := h
    obtain rfl : u = Value.ref a := r
    obtain ⟨its, rv, ⟨o, ho, hc, n, hd⟩, _⟩ := I.tuple q
    obtain ⟨as, ra⟩ := DenL.reads I xs vs its p d rv
    exact ⟨_, .tuple ho hc hd (by simpa using ra)⟩
  | .list xs, v, u, p, h, r => by
    simp only [Den] at h
    obtain ⟨a, vs, rfl, q, d⟩ := h
    obtain rfl : u = Value.ref a := r
    obtain ⟨its, rv, ⟨o, n, ho, hc, _, hd⟩, _⟩ := I.list q.sq
    obtain ⟨as, ra⟩ := DenL.reads I xs vs its p d rv
    exact ⟨_, .list ho hc hd (by simpa using ra)⟩
  | .dict _, v, u, p, h, r => nomatch p
theorem DenL.reads (I : Inv X pins σ H s) : ∀ (xs : List PyData) (vs : List V) (us : List Value), PyData.plainAll xs = true → DenL (kwOf X) H xs vs → Vals vs us → ∃ as, ReadsAll s.heap us xs as
  | [], vs, us, _, h, r => by
    simp only [DenL] at h
    subst h
    cases r
    exact ⟨_, .nil⟩
  | x :: xs, vs, us, p, h, r => by
    simp only [DenL] at h
    obtain ⟨v, w, rfl, d, t⟩ := h
    have p : (x.plain && PyData.plainAll xs) = true := p
    have p1 := Bool.and_eq_true_iff.mp p
    cases r with
    | cons r1 r2 =>
      obtain ⟨as, ra⟩ := Den.reads I x v _ p1.1 d r1
      obtain ⟨bs, rb⟩ := DenL.reads I xs w _ p1.2 t r2
      exact ⟨_, .cons ra rb⟩
end
end
theorem DenL.length {K : KW} {H : Hp} : ∀ {xs : List PyData} {vs : List V}, DenL K H xs vs → vs.length = xs.length
  | [], vs, h => by
    simp only [DenL] at h
    subst h
    rfl
  | x :: xs, vs, h => by
    simp only [DenL] at h
    obtain ⟨v, r, rfl, _, t⟩ := h
    rw [List.length_cons, List.length_cons, DenL.length t]
theorem DenL.nil {K : KW} {H : Hp} : DenL K H [] [] := by simp only [DenL]
theorem DenL.cons {K : KW} {H : Hp} {x : PyData} {xs : List PyData} {v : V} {vs : List V} (h : Den K H x v) (t : DenL K H xs vs) : DenL K H (x :: xs) (v :: vs) := by
  simp only [DenL]
  exact ⟨v, vs, rfl, h, t⟩
theorem DenL.append {K : KW} {H : Hp} : ∀ {xs ys : List PyData} {vs ws : List V}, DenL K H xs vs → DenL K H ys ws → DenL K H (xs ++ ys) (vs ++ ws)
  | [], ys, vs, ws, h, t => by
    simp only [DenL] at h
    subst h
    exact t
  | x :: xs, ys, vs, ws, h, t => by
    simp only [DenL] at h
    obtain ⟨v, r, rfl, d, q⟩ := h
    exact .cons d (DenL.append q t)
theorem DenL.get {K : KW} {H : Hp} : ∀ {xs : List PyData} {vs : List V} {i : Nat} {x : PyData}, DenL K H xs vs → xs[i]? = some x → ∃ v, vs[i]? = some v ∧ Den K H x v
  | [], vs, i, x, h, e => by simp at e
  | y :: xs, vs, 0, x, h, e => by
    simp only [DenL] at h
    obtain ⟨v, r, rfl, d, q⟩ := h
    simp at e
    subst e
    exact ⟨v, rfl, d⟩
  | y :: xs, vs, i + 1, x, h, e => by
    simp only [DenL] at h
    obtain ⟨v, r, rfl, d, q⟩ := h
    exact DenL.get (i := i) q (by simpa using e)
theorem DenL.get' {K : KW} {H : Hp} : ∀ {xs : List PyData} {vs : List V} {i : Nat} {v : V}, DenL K H xs vs → vs[i]? = some v → ∃ x, xs[i]? = some x ∧ Den K H x v
  | [], vs, i, v, h, e => by
    simp only [DenL] at h
    subst h
    simp at e
  | y :: xs, vs, 0, v, h, e => by
    simp only [DenL] at h
    obtain ⟨w, r, rfl, d, q⟩ := h
    simp at e
    subst e
    exact ⟨y, rfl, d⟩
  | y :: xs, vs, i + 1, v, h, e => by
    simp only [DenL] at h
    obtain ⟨w, r, rfl, d, q⟩ := h
    exact DenL.get' (i := i) q (by simpa using e)
theorem DenL.take {K : KW} {H : Hp} : ∀ (n : Nat) {xs : List PyData} {vs : List V}, DenL K H xs vs → DenL K H (xs.take n) (vs.take n)
  | 0, xs, vs, h => by simp only [List.take_zero]; exact .nil
  | n + 1, [], vs, h => by
    simp only [DenL] at h
    subst h
    exact .nil
  | n + 1, x :: xs, vs, h => by
    simp only [DenL] at h
    obtain ⟨w, r, rfl, d, q⟩ := h
    exact .cons d (DenL.take n q)
theorem DenL.drop {K : KW} {H : Hp} : ∀ (n : Nat) {xs : List PyData} {vs : List V}, DenL K H xs vs → DenL K H (xs.drop n) (vs.drop n)
  | 0, xs, vs, h => h
  | n + 1, [], vs, h => by
    simp only [DenL] at h
    subst h
    exact .nil
  | n + 1, x :: xs, vs, h => by
    simp only [DenL] at h
    obtain ⟨w, r, rfl, d, q⟩ := h
    exact DenL.drop n q
theorem DenL.set {K : KW} {H : Hp} {y : PyData} {w : V} (hd : Den K H y w) : ∀ (n : Nat) {xs : List PyData} {vs : List V}, DenL K H xs vs → DenL K H (xs.set n y) (vs.set n w)
  | n, [], vs, h => by
    simp only [DenL] at h
    subst h
    exact .nil
  | 0, x :: xs, vs, h => by
    simp only [DenL] at h
    obtain ⟨w, r, rfl, d, q⟩ := h
    exact .cons hd q
  | n + 1, x :: xs, vs, h => by
    simp only [DenL] at h
    obtain ⟨w, r, rfl, d, q⟩ := h
    exact .cons d (DenL.set hd n q)

/-- freezing: a tracked list that is written no more -/
theorem freeze {X : Cx} {pins : List (Addr × Obj)} {σ : L2.St} {H : Hp} {s : Shared} {a : Addr} {vs : List V} (I : Inv X pins σ H s) (h : H a = some (.lst vs)) : ∃ o, Inv X pins σ (upd H a (.frz o (.lst vs))) s := by
  obtain ⟨z, its, n, r, e⟩ := I.hok a _ h
  refine ⟨{ cls := .type "list", data := .seq its.toArray n }, I.un (t' := s.toks) (h' := s.heap) ?_ ?_⟩
  · have ne : ∀ b, H b = none → b ≠ a := fun b eb z => by
      rw [z, h] at eb
      cases eb
    refine ⟨fun b ob q _ _ _ => q, fun b ob q _ _ _ => ⟨ob.slots, q⟩, fun b ob q hb _ => by rw [upd_ne (ne b hb)]; exact hb, fun b ob q _ => ⟨ob, q⟩, fun b xs q => ?_, fun b o u q => ?_, fun b ps q => ?_⟩
    · rw [upd_ne (ne_of q h (fun z => by cases z))]
      exact q
    · rw [upd_ne (ne_of q h (fun z => by cases z))]
      exact q
    · exact ⟨#[], by rw [upd_ne (ne_of q h (fun z => by cases z)), q]; simp⟩
  · intro b u q
    by_cases hb : b = a
    · subst hb
      rw [upd_same] at q
      cases q
      exact ⟨e, z, its, n, r, e⟩
    · rw [upd_ne hb] at q
      refine (I.hok b u q).stay (fun _ _ _ z => z) (fun c z => ?_) fun c xs z => ?_
      · rw [upd_ne (ne_of z h (fun z => by cases z))]
        exact z
      · rw [upd_ne (ne_of z h (fun z => by cases z))]
        exact z
end Cl

set_option Elab.async false
set_option maxRecDepth 100000
set_option maxHeartbeats 2000000
namespace Cl
open PySem PySem.Spec PyProof.Rows L2

/-! ### the state in the abstract heap -/
/-- what is fixed through a def's run: the written part, the module's names, what was tracked at the entry, the caller's objects -/
structure Gh where
  K : KW
  mg : Str → Option Value
  B : Hp
  m0 : List Addr
def VDen (K : KW) (H : Hp) (μ : List Addr) : CV → V → Prop
  | .d x, v => Den K H x v
  | .r n, v => ∃ a, μ[n]? = some a ∧ v = .ref a
  | .o w, v => v = w
abbrev VDenL (K : KW) (H : Hp) (μ : List Addr) : List CV → List V → Prop := Paired (VDen K H μ)
theorem pre_get {α : Type} {l l' : List α} (p : l <+: l') {n : Nat} {a : α} (h : l[n]? = some a) : l'[n]? = some a := by
  obtain ⟨t, rfl⟩ := p
  rw [List.getElem?_append_left (List.getElem?_eq_some_iff.mp h).1]
  exact h
theorem VDen.mono {K : KW} {H H' : Hp} {μ μ' : List Addr} (f : Fz H H') (p : μ <+: μ') {x : CV} {v : V} (h : VDen K H μ x v) : VDen K H' μ' x v := by
  cases x with
  | d x => exact Den.mono f x v h
  | r n =>
    obtain ⟨a, e, r⟩ := h
    exact ⟨a, pre_get p e, r⟩
  | o w => exact h
theorem VDenL.mono {K : KW} {H H' : Hp} {μ μ' : List Addr} (f : Fz H H') (p : μ <+: μ') {xs : List CV} {vs : List V} (h : VDenL K H μ xs vs) : VDenL K H' μ' xs vs := Paired.mapP h fun _ _ q => VDen.mono f p q
/-- the entries of the dict at a -/
def DicP {α : Type} (K : KW) (H : Hp) (R : α → V → Prop) (kvs : List (PyData × α)) (a : Addr) (ho : HO) : Prop :=
  (∃ kws : List (Key × V), ho = .dK kws ∧ Paired (fun p q => p.1 = keyD q.1 ∧ R p.2 q.2) kvs kws) ∨
  ∃ kws : List (NestedKey × Addr × V), ho = DKy K.w a kws ∧ Paired (fun p q => (q.1 = nk p.1 ∧ keyOk p.1 = true ∧ Den K H p.1 (.ref q.2.1)) ∧ R p.2 q.2.2) kvs kws
theorem DicP.mono {α : Type} {K : KW} {H H' : Hp} {R R' : α → V → Prop} {kvs : List (PyData × α)} {a : Addr} {ho : HO} (h : DicP K H R kvs a ho) (f : Fz H H') (g : ∀ a v, R a v → R' a v) : DicP K H' R' kvs a ho := by
  rcases h with ⟨kws, e, p⟩ | ⟨kws, e, p⟩
  · exact .inl ⟨kws, e, Paired.mapP p fun _ _ q => ⟨q.1, g _ _ q.2⟩⟩
  · exact .inr ⟨kws, e, Paired.mapP p fun _ _ q => ⟨⟨q.1.1, q.1.2.1, Den.mono f _ _ q.1.2.2⟩, g _ _ q.2⟩⟩
theorem denW_of {K : KW} {H : Hp} {κ : Type} {f : κ → PyData} : ∀ {kvs : List (PyData × PyData)} {kws : List (κ × V)}, Paired (fun p q => p.1 = f q.1 ∧ Den K H p.2 q.2) kvs kws → kvs.map (·.1) = kws.map (fun q => f q.1) ∧ DenW K H kvs (kws.map (·.2))
  | _, _, .nil => by
    simp only [DenW]
    exact ⟨rfl, rfl⟩
  | (k, x) :: _, (k', v) :: _, .cons h t => by
    obtain ⟨h1, h2⟩ := denW_of t
    obtain ⟨e, d⟩ := h
    simp only [DenW, List.map_cons]
    have e : k = f k' := e
    exact ⟨by rw [h1, e], _, _, rfl, d, h2⟩
theorem denW_to {K : KW} {H : Hp} {κ : Type} {f : κ → PyData} : ∀ {kvs : List (PyData × PyData)} {kws : List (κ × V)}, kvs.map (·.1) = kws.map (fun q => f q.1) → DenW K H kvs (kws.map (·.2)) → Paired (fun p q => p.1 = f q.1 ∧ Den K H p.2 q.2) kvs kws
  | [], [], _, _ => .nil
  | [], _ :: _, e, _ => by cases e
  | _ :: _, [], e, _ => by cases e
  | (k, x) :: kvs, (k', v) :: kws, e, h => by
    simp only [DenW, List.map_cons] at h
    obtain ⟨v', r, e1, d, h2⟩ := h
    have e3 : k :: kvs.map (·.1) = f k' :: kws.map (fun q => f q.1) := e
    injection e3 with e4 e5
    injection e1 with e6 e7
    subst e6 e7
    exact .cons ⟨e4, d⟩ (denW_to e5 h2)
theorem denE_of {K : KW} {H : Hp} : ∀ {kvs : List (PyData × PyData)} {kws : List (NestedKey × Addr × V)}, Paired (fun p q => (q.1 = nk p.1 ∧ keyOk p.1 = true ∧ Den K H p.1 (.ref q.2.1)) ∧ Den K H p.2 q.2.2) kvs kws → DenE K H kvs kws
  | _, _, .nil => by simp only [DenE]
  | (k, x) :: _, (n, b, v) :: _, .cons h t => by
    obtain ⟨⟨e, h1, h2⟩, h3⟩ := h
    have e : n = nk k := e
    subst e
    simp only [DenE]
    exact ⟨b, v, _, rfl, h1, h2, h3, denE_of t⟩
theorem denE_to {K : KW} {H : Hp} : ∀ {kvs : List (PyData × PyData)} {kws : List (NestedKey × Addr × V)}, DenE K H kvs kws → Paired (fun p q => (q.1 = nk p.1 ∧ keyOk p.1 = true ∧ Den K H p.1 (.ref q.2.1)) ∧ Den K H p.2 q.2.2) kvs kws
  | [], _, h => by
    simp only [DenE] at h
    subst h
    exact .nil
  | (k, x) :: kvs, _, h => by
    simp only [DenE] at h
    obtain ⟨b, v, r, rfl, h1, h2, h3, t⟩ := h
    exact .cons ⟨⟨rfl, h1, h2⟩, h3⟩ (denE_to t)
/-- a frozen dict -/
theorem den_dict {K : KW} {H : Hp} {kvs : List (PyData × PyData)} {ho : HO} {a : Addr} {o : Obj} (h : DicP K H (Den K H) kvs a ho) (ha : H a = some (.frz o ho)) : Den K H (.dict kvs) (.ref a) := by
  simp only [Den]
  rcases h with ⟨kws, rfl, p⟩ | ⟨kws, rfl, p⟩
  · obtain ⟨h1, h2⟩ := denW_of p
    exact ⟨a, o, rfl, .inl ⟨kws, ha, h1, h2⟩⟩
  · exact ⟨a, o, rfl, .inr ⟨kws, ha, denE_of p⟩⟩
theorem dict_den {K : KW} {H : Hp} {kvs : List (PyData × PyData)} {v : V} (h : Den K H (.dict kvs) v) : ∃ a o ho, v = .ref a ∧ H a = some (.frz o ho) ∧ DicP K H (Den K H) kvs a ho := by
  simp only [Den] at h
  obtain ⟨a, o, rfl, ⟨kws, h1, h2, h3⟩ | ⟨kws, h1, h3⟩⟩ := h
  · exact ⟨a, o, _, rfl, h1, .inl ⟨kws, rfl, denW_to h2 h3⟩⟩
  · exact ⟨a, o, _, rfl, h1, .inr ⟨kws, rfl, denE_to h3⟩⟩
def ODen (G : Gh) (H : Hp) (μ : List Addr) (a : Addr) : CO → HO → Prop
  | .lst xs, ho => ∃ vs, ho = .lst vs ∧ VDenL G.K H μ xs vs
  | .dic kvs, ho => DicP G.K H (VDen G.K H μ) kvs a ho
  | .ins C fs, ho => ∃ Ca dx gs, ho = .ins Ca dx gs ∧ G.mg C = some (.ref Ca) ∧ Paired (fun p q => p.1 = q.1 ∧ VDen G.K H μ p.2 q.2) fs gs
theorem ODen.mono {G : Gh} {H H' : Hp} {μ μ' : List Addr} (f : Fz H H') (p : μ <+: μ') {a : Addr} {o : CO} {ho : HO} (h : ODen G H μ a o ho) : ODen G H' μ' a o ho := by
  cases o with
  | lst xs =>
    obtain ⟨vs, e, q⟩ := h
    exact ⟨vs, e, VDenL.mono f p q⟩
  | dic kvs => exact DicP.mono h f fun _ _ q => VDen.mono f p q
  | ins C fs =>
    obtain ⟨Ca, dx, gs, e, g, q⟩ := h
    exact ⟨Ca, dx, gs, e, g, Paired.mapP q fun _ _ z => ⟨z.1, VDen.mono f p z.2⟩⟩
/-- objects that may be written -/
def Wr : HO → Prop
  | .lst _ => True
  | .dK _ => True
  | .dT _ => True
  | .ins _ _ _ => True
  | .ext _ => True
  | _ => False
theorem ODen.wr {G : Gh} {H : Hp} {μ : List Addr} {a : Addr} {o : CO} {ho : HO} (h : ODen G H μ a o ho) : Wr ho := by
  cases o with
  | lst xs =>
    obtain ⟨vs, rfl, _⟩ := h
    trivial
  | dic kvs =>
    rcases h with ⟨kws, rfl, _⟩ | ⟨kws, rfl, _⟩ <;> trivial
  | ins C fs =>
    obtain ⟨Ca, dx, gs, rfl, _⟩ := h
    trivial
theorem Wr.fz {H : Hp} {a : Addr} {ho o : HO} (w : Wr ho) (h : H a = some ho) : Fz H (upd H a o) := by
  refine ⟨fun b xs e => ?_, fun b q u e => ?_⟩
  · rw [upd_ne]
    · exact e
    · rintro rfl
      rw [h] at e
      cases e
      exact w
  · rw [upd_ne]
    · exact e
    · rintro rfl
      rw [h] at e
      cases e
      exact w
def Sl.own : Sl → Bool
  | .ol _ => true
  | .od _ => true
  | _ => false
/-- what lies at an owned slot's address -/
def SDen (K : KW) (H : Hp) (a : Addr) : Sl → HO → Prop
  | .ol xs, ho => ∃ vs, ho = .lst vs ∧ DenL K H xs vs
  | .od kvs, ho => DicP K H (Den K H) kvs a ho
  | _, _ => False
theorem SDen.mono {K : KW} {H H' : Hp} (f : Fz H H') {a : Addr} {s : Sl} {ho : HO} (h : SDen K H a s ho) : SDen K H' a s ho := by
  cases s with
  | ol xs =>
    obtain ⟨vs, e, q⟩ := h
    exact ⟨vs, e, DenL.mono f _ _ q⟩
  | od kvs => exact DicP.mono h f fun _ _ q => Den.mono f _ _ q
  | un => exact h
  | v x => exact h
theorem SDen.wr {K : KW} {H : Hp} {a : Addr} {s : Sl} {ho : HO} (h : SDen K H a s ho) : Wr ho := by
  cases s with
  | ol xs =>
    obtain ⟨vs, rfl, _⟩ := h
    trivial
  | od kvs =>
    rcases h with ⟨kws, rfl, _⟩ | ⟨kws, rfl, _⟩ <;> trivial
  | un => exact h.elim
  | v x => exact h.elim
structure Rel (G : Gh) (μ : List Addr) (c : CS) (σ : L2.St) (H : Hp) : Prop where
  len : c.sl.length = σ.length
  vl : ∀ (i : Nat) (x : CV), c.sl[i]? = some (.v x) → ∃ v, σ[i]? = some (some v) ∧ VDen G.K H μ x v
  ow : ∀ (i : Nat) (s : Sl), c.sl[i]? = some s → s.own = true → ∃ a ho, σ[i]? = some (some (.ref a)) ∧ H a = some ho ∧ SDen G.K H a s ho ∧ G.B a = none ∧ a ∉ μ
  ap : ∀ (i j : Nat) (s t : Sl) (a : Addr), i ≠ j → c.sl[i]? = some s → s.own = true → c.sl[j]? = some t → t.own = true → σ[i]? = some (some (.ref a)) → σ[j]? ≠ some (some (.ref a))
  hl : μ.length = c.hp.length
  hp : ∀ (n : Nat) (o : CO), c.hp[n]? = some o → ∃ a ho, μ[n]? = some a ∧ H a = some ho ∧ ODen G H μ a o ho
  nd : μ.Nodup
  pre : G.m0 <+: μ
  new : ∀ a : Addr, a ∈ μ → a ∉ G.m0 → G.B a = none
  fr : ∀ a o, G.B a = some o → a ∉ G.m0 → H a = some o
section
variable {G : Gh} {μ : List Addr} {c : CS} {σ : L2.St} {H H' : Hp} {p : Addr} {i : Nat}
theorem Rel.same (R : Rel G μ c σ H) (e : Same H H') : Rel G μ c σ H' where
  len := R.len
  vl := fun i x h => let ⟨v, a, b⟩ := R.vl i x h; ⟨v, a, b.mono (Fz.same e) (List.prefix_refl μ)⟩
  ow := fun i s h k => let ⟨a, ho, a1, a2, a3, a4, a5⟩ := R.ow i s h k; ⟨a, ho, a1, e _ _ a2, a3.mono (Fz.same e), a4, a5⟩
  ap := R.ap
  hl := R.hl
  hp := fun n o h => let ⟨a, ho, a1, a2, a3⟩ := R.hp n o h; ⟨a, ho, a1, e _ _ a2, a3.mono (Fz.same e) (List.prefix_refl μ)⟩
  nd := R.nd
  pre := R.pre
  new := R.new
  fr := fun a o h n => e _ _ (R.fr a o h n)
theorem same_new {o : HO} (hp : H p = none) : Same H (upd H p o) := fun b x e => by
  rw [upd_ne (ne_of_none e hp)]
  exact e
theorem Rel.tracked (R : Rel G μ c σ H) {a : Addr} (h : a ∈ μ) : ∃ ho, H a = some ho ∧ Wr ho := by
  obtain ⟨n, hn, e⟩ := List.getElem_of_mem h
  have hn' : n < c.hp.length := by rw [← R.hl]; exact hn
  obtain ⟨b, ho, a1, a2, a3⟩ := R.hp n _ (List.getElem?_eq_getElem hn')
  rw [List.getElem?_eq_getElem hn, e] at a1
  cases a1
  exact ⟨ho, a2, a3.wr⟩
theorem Rel.fresh (R : Rel G μ c σ H) (hp : H p = none) : p ∉ μ ∧ G.B p = none := by
  have h1 : p ∉ μ := fun z => by
    obtain ⟨ho, e, _⟩ := R.tracked z
    rw [hp] at e
    cases e
  refine ⟨h1, ?_⟩
  cases q : G.B p with
  | none => rfl
  | some o =>
    have n0 : p ∉ G.m0 := fun z => h1 (R.pre.subset z)
    have := R.fr p o q n0
    rw [hp] at this
    cases this
/-- a slot holds a value -/
theorem Rel.set (R : Rel G μ c σ H) {x : CV} {v : V} (h : VDen G.K H μ x v) : Rel G μ { c with sl := c.sl.set i (.v x) } (σ.set i (some v)) H where
  len := by
    show (c.sl.set i _).length = _
    rw [List.length_set, List.length_set, R.len]
  vl := fun j y e => by
    have e : (c.sl.set i (.v x))[j]? = some (.v y) := e
    by_cases hj : i = j
    · subst hj
      have hi : i < c.sl.length := by
        have := (List.getElem?_eq_some_iff.mp e).1
        rwa [List.length_set] at this
      rw [List.getElem?_set_self hi] at e
      cases e
      exact ⟨v, List.getElem?_set_self (by rw [← R.len]; exact hi), h⟩
    · rw [List.getElem?_set_ne hj] at e
      rw [List.getElem?_set_ne hj]
      exact R.vl j y e
  ow := fun j s e k => by
    have e : (c.sl.set i (.v x))[j]? = some s := e
    by_cases hj : i = j
    · subst hj
      have hi : i < c.sl.length := by
        have := (List.getElem?_eq_some_iff.mp e).1
        rwa [List.length_set] at this
      rw [List.getElem?_set_self hi] at e
      cases e
      cases k
    · rw [List.getElem?_set_ne hj] at e
      rw [List.getElem?_set_ne hj]
      exact R.ow j s e k
  ap := fun j l s t a n e1 k1 e2 k2 => by
    have e1 : (c.sl.set i (.v x))[j]? = some s := e1
    have e2 : (c.sl.set i (.v x))[l]? = some t := e2
    by_cases hj : i = j
    · subst hj
      have hi : i < c.sl.length := by
        have := (List.getElem?_eq_some_iff.mp e1).1
        rwa [List.length_set] at this
      rw [List.getElem?_set_self hi] at e1
      cases e1
      cases k1
    · by_cases hl : i = l
      · subst hl
        have hi : i < c.sl.length := by
          have := (List.getElem?_eq_some_iff.mp e2).1
          rwa [List.length_set] at this
        rw [List.getElem?_set_self hi] at e2
        cases e2
        cases k2
      · rw [List.getElem?_set_ne hj] at e1
        rw [List.getElem?_set_ne hl] at e2
        rw [List.getElem?_set_ne hj, List.getElem?_set_ne hl]
        exact R.ap j l s t a n e1 k1 e2 k2
  hl := R.hl
  hp := R.hp
  nd := R.nd
  pre := R.pre
  new := R.new
  fr := R.fr
/-- a slot forgotten -/
theorem Rel.forget (R : Rel G μ c σ H) {t : Option V} : Rel G μ { c with sl := c.sl.set i .un } (σ.set i t) H where
  len := by
    show (c.sl.set i _).length = _
    rw [List.length_set, List.length_set, R.len]
  vl := fun j y e => by
    have e : (c.sl.set i .un)[j]? = some (.v y) := e
    by_cases hj : i = j
    · subst hj
      have hi : i < c.sl.length := by
        have := (List.getElem?_eq_some_iff.mp e).1
        rwa [List.length_set] at this
      rw [List.getElem?_set_self hi] at e
      cases e
    · rw [List.getElem?_set_ne hj] at e
      rw [List.getElem?_set_ne hj]
      exact R.vl j y e
  ow := fun j s e k => by
    have e : (c.sl.set i .un)[j]? = some s := e
    by_cases hj : i = j
    · subst hj
      have hi : i < c.sl.length := by
        have := (List.getElem?_eq_some_iff.mp e).1
        rwa [List.length_set] at this
      rw [List.getElem?_set_self hi] at e
      cases e
      cases k
    · rw [List.getElem?_set_ne hj] at e
      rw [List.getElem?_set_ne hj]
      exact R.ow j s e k
  ap := fun j l s t a n e1 k1 e2 k2 => by
    have e1 : (c.sl.set i .un)[j]? = some s := e1
    have e2 : (c.sl.set i .un)[l]? = some t := e2
    by_cases hj : i = j
    · subst hj
      have hi : i < c.sl.length := by
        have := (List.getElem?_eq_some_iff.mp e1).1
        rwa [List.length_set] at this
      rw [List.getElem?_set_self hi] at e1
      cases e1
      cases k1
    · by_cases hl : i = l
      · subst hl
        have hi : i < c.sl.length := by
          have := (List.getElem?_eq_some_iff.mp e2).1
          rwa [List.length_set] at this
        rw [List.getElem?_set_self hi] at e2
        cases e2
        cases k2
      · rw [List.getElem?_set_ne hj] at e1
        rw [List.getElem?_set_ne hl] at e2
        rw [List.getElem?_set_ne hj, List.getElem?_set_ne hl]
        exact R.ap j l s t a n e1 k1 e2 k2
  hl := R.hl
  hp := R.hp
  nd := R.nd
  pre := R.pre
  new := R.new
  fr := R.fr
/-- a slot owns a new object -/
theorem Rel.setOwn (R : Rel G μ c σ H) {s : Sl} {ho : HO} (hs : s.own = true) (hp : H p = none) (h : SDen G.K H p s ho) : Rel G μ { c with sl := c.sl.set i s } (σ.set i (some (.ref p))) (upd H p ho) := by
  have sm : Same H (upd H p ho) := same_new hp
  obtain ⟨pm, pB⟩ := R.fresh hp
  have R1 := R.same sm
  have other : ∀ j t, i ≠ j → c.sl[j]? = some t → t.own = true → σ[j]? ≠ some (some (.ref p)) := fun j t n e k z => by
    obtain ⟨a, ho', a1, a2, _⟩ := R.ow j t e k
    rw [a1] at z
    cases z
    rw [hp] at a2
    cases a2
  refine ⟨?_, fun j y e => ?_, fun j t e k => ?_, fun j l t u a n e1 k1 e2 k2 => ?_, R1.hl, R1.hp, R1.nd, R1.pre, R1.new, R1.fr⟩
  · show (c.sl.set i _).length = _
    rw [List.length_set, List.length_set, R.len]
  · have e : (c.sl.set i s)[j]? = some (.v y) := e
    by_cases hj : i = j
    · subst hj
      have hi : i < c.sl.length := by
        have := (List.getElem?_eq_some_iff.mp e).1
        rwa [List.length_set] at this
      rw [List.getElem?_set_self hi] at e
      cases e
      cases hs
    · rw [List.getElem?_set_ne hj] at e
      rw [List.getElem?_set_ne hj]
      exact R1.vl j y e
  · have e : (c.sl.set i s)[j]? = some t := e
    by_cases hj : i = j
    · subst hj
      have hi : i < c.sl.length := by
        have := (List.getElem?_eq_some_iff.mp e).1
        rwa [List.length_set] at this
      rw [List.getElem?_set_self hi] at e
      cases e
      exact ⟨p, ho, List.getElem?_set_self (by rw [← R.len]; exact hi), upd_same, h.mono (Fz.same sm), pB, pm⟩
    · rw [List.getElem?_set_ne hj] at e
      rw [List.getElem?_set_ne hj]
      exact R1.ow j t e k
  · have e1 : (c.sl.set i s)[j]? = some t := e1
    have e2 : (c.sl.set i s)[l]? = some u := e2
    by_cases hj : i = j
    · subst hj
      have hl : i ≠ l := n
      have hi : i < c.sl.length := by
        have := (List.getElem?_eq_some_iff.mp e1).1
        rwa [List.length_set] at this
      rw [List.getElem?_set_ne hl] at e2
      rw [List.getElem?_set_self (by rw [← R.len]; exact hi), List.getElem?_set_ne hl]
      intro z
      cases z
      exact other l u hl e2 k2
    · by_cases hl : i = l
      · subst hl
        have hi : i < c.sl.length := by
          have := (List.getElem?_eq_some_iff.mp e2).1
          rwa [List.length_set] at this
        rw [List.getElem?_set_ne hj] at e1
        rw [List.getElem?_set_self (by rw [← R.len]; exact hi), List.getElem?_set_ne hj]
        intro z w
        cases w
        exact other j t hj e1 k1 z
      · rw [List.getElem?_set_ne hj] at e1
        rw [List.getElem?_set_ne hl] at e2
        rw [List.getElem?_set_ne hj, List.getElem?_set_ne hl]
        exact R.ap j l t u a n e1 k1 e2 k2
/-- an owned object is changed -/
theorem Rel.chOwn (R : Rel G μ c σ H) {s t : Sl} {ho : HO} {a : Addr} (hi : c.sl[i]? = some s) (hs : s.own = true) (ha : σ[i]? = some (some (.ref a))) (ht : t.own = true) (h : SDen G.K (upd H a ho) a t ho) :
    Rel G μ { c with sl := c.sl.set i t } σ (upd H a ho) ∧ Fz H (upd H a ho) := by
  obtain ⟨a', ho', a1, a2, a3, a4, a5⟩ := R.ow i s hi hs
  rw [ha] at a1
  cases a1
  have fz : Fz H (upd H a ho) := a3.wr.fz a2
  have hil : i < c.sl.length := (List.getElem?_eq_some_iff.mp hi).1
  refine ⟨⟨?_, fun j y e => ?_, fun j u e k => ?_, fun j l u w b n e1 k1 e2 k2 => ?_, R.hl, fun n o e => ?_, R.nd, R.pre, R.new, fun b o e n => ?_⟩, fz⟩
  · show (c.sl.set i _).length = _
    rw [List.length_set, R.len]
  · have e : (c.sl.set i t)[j]? = some (.v y) := e
    by_cases hj : i = j
    · subst hj
      rw [List.getElem?_set_self hil] at e
      cases e
      cases ht
    · rw [List.getElem?_set_ne hj] at e
      obtain ⟨v, b1, b2⟩ := R.vl j y e
      exact ⟨v, b1, b2.mono fz (List.prefix_refl _)⟩
  · have e : (c.sl.set i t)[j]? = some u := e
    by_cases hj : i = j
    · subst hj
      rw [List.getElem?_set_self hil] at e
      cases e
      exact ⟨a, ho, ha, upd_same, h, a4, a5⟩
    · rw [List.getElem?_set_ne hj] at e
      obtain ⟨b, hb, b1, b2, b3, b4, b5⟩ := R.ow j u e k
      refine ⟨b, hb, b1, ?_, b3.mono fz, b4, b5⟩
      rw [upd_ne]
      · exact b2
      · rintro rfl
        exact R.ap i j s u b hj hi hs e k ha b1
  · have e1 : (c.sl.set i t)[j]? = some u := e1
    have e2 : (c.sl.set i t)[l]? = some w := e2
    have f1 : ∃ u', c.sl[j]? = some u' ∧ u'.own = true := by
      by_cases hj : i = j
      · subst hj
        exact ⟨s, hi, hs⟩
      · rw [List.getElem?_set_ne hj] at e1
        exact ⟨u, e1, k1⟩
    have f2 : ∃ w', c.sl[l]? = some w' ∧ w'.own = true := by
      by_cases hj : i = l
      · subst hj
        exact ⟨s, hi, hs⟩
      · rw [List.getElem?_set_ne hj] at e2
        exact ⟨w, e2, k2⟩
    obtain ⟨u', g1, g2⟩ := f1
    obtain ⟨w', g3, g4⟩ := f2
    exact R.ap j l u' w' b n g1 g2 g3 g4
  · obtain ⟨b, hb, b1, b2, b3⟩ := R.hp n o e
    refine ⟨b, hb, b1, ?_, b3.mono fz (List.prefix_refl _)⟩
    rw [upd_ne]
    · exact b2
    · rintro rfl
      exact a5 (List.mem_of_getElem? b1)
  · rw [upd_ne]
    · exact R.fr b o e n
    · rintro rfl
      rw [a4] at e
      cases e
/-- an owned object is frozen -/
theorem Rel.chFrz (R : Rel G μ c σ H) {s : Sl} {x : CV} {ho : HO} {o : Obj} {a : Addr} (hi : c.sl[i]? = some s) (hs : s.own = true) (ha : σ[i]? = some (some (.ref a))) (hH : H a = some ho)
    (hx : VDen G.K (upd H a (.frz o ho)) μ x (.ref a)) :
    Rel G μ { c with sl := c.sl.set i (.v x) } σ (upd H a (.frz o ho)) ∧ Fz H (upd H a (.frz o ho)) := by
  obtain ⟨a', ho', a1, a2, a3, a4, a5⟩ := R.ow i _ hi hs
  rw [ha] at a1
  cases a1
  rw [hH] at a2
  cases a2
  have fz : Fz H (upd H a (.frz o ho)) := a3.wr.fz hH
  have hil : i < c.sl.length := (List.getElem?_eq_some_iff.mp hi).1
  refine ⟨⟨?_, fun j y e => ?_, fun j u e k => ?_, fun j l u w b n e1 k1 e2 k2 => ?_, R.hl, fun n o e => ?_, R.nd, R.pre, R.new, fun b o e n => ?_⟩, fz⟩
  · show (c.sl.set i _).length = _
    rw [List.length_set, R.len]
  · have e : (c.sl.set i (.v x))[j]? = some (.v y) := e
    by_cases hj : i = j
    · subst hj
      rw [List.getElem?_set_self hil] at e
      cases e
      exact ⟨.ref a, ha, hx⟩
    · rw [List.getElem?_set_ne hj] at e
      obtain ⟨v, b1, b2⟩ := R.vl j y e
      exact ⟨v, b1, b2.mono fz (List.prefix_refl _)⟩
  · have e : (c.sl.set i (.v x))[j]? = some u := e
    by_cases hj : i = j
    · subst hj
      rw [List.getElem?_set_self hil] at e
      cases e
      cases k
    · rw [List.getElem?_set_ne hj] at e
      obtain ⟨b, hb, b1, b2, b3, b4, b5⟩ := R.ow j u e k
      refine ⟨b, hb, b1, ?_, b3.mono fz, b4, b5⟩
      rw [upd_ne]
      · exact b2
      · rintro rfl
        exact R.ap i j _ u b hj hi hs e k ha b1
  · have e1 : (c.sl.set i (.v x))[j]? = some u := e1
    have e2 : (c.sl.set i (.v x))[l]? = some w := e2
    by_cases hj : i = j
    · subst hj
      rw [List.getElem?_set_self hil] at e1
      cases e1
      cases k1
    · by_cases hl : i = l
      · subst hl
        rw [List.getElem?_set_self hil] at e2
        cases e2
        cases k2
      · rw [List.getElem?_set_ne hj] at e1
        rw [List.getElem?_set_ne hl] at e2
        exact R.ap j l u w b n e1 k1 e2 k2
  · obtain ⟨b, hb, b1, b2, b3⟩ := R.hp n _ e
    refine ⟨b, hb, b1, ?_, b3.mono fz (List.prefix_refl _)⟩
    rw [upd_ne]
    · exact b2
    · rintro rfl
      exact a5 (List.mem_of_getElem? b1)
  · rw [upd_ne]
    · exact R.fr b _ e n
    · rintro rfl
      rw [a4] at e
      cases e
/-- an object of the clean heap is changed -/
theorem Rel.chHp (R : Rel G μ c σ H) {n : Nat} {o' : CO} {ho : HO} {a : Addr} (ha : μ[n]? = some a) (h : ODen G (upd H a ho) μ a o' ho) :
    Rel G μ { c with hp := c.hp.set n o' } σ (upd H a ho) ∧ Fz H (upd H a ho) := by
  have hn : n < μ.length := (List.getElem?_eq_some_iff.mp ha).1
  obtain ⟨o, ho1⟩ : ∃ o, c.hp[n]? = some o := ⟨_, List.getElem?_eq_getElem (by rw [← R.hl]; exact hn)⟩
  obtain ⟨a', hb, b1, b2, b3⟩ := R.hp n o ho1
  rw [ha] at b1
  cases b1
  have am : a ∈ μ := List.mem_of_getElem? ha
  have fz : Fz H (upd H a ho) := b3.wr.fz b2
  refine ⟨⟨R.len, fun j y e => ?_, fun j u e k => ?_, R.ap, ?_, fun m u e => ?_, R.nd, R.pre, R.new, fun b u e k => ?_⟩, fz⟩
  · obtain ⟨v, b1, b2⟩ := R.vl j y e
    exact ⟨v, b1, b2.mono fz (List.prefix_refl _)⟩
  · obtain ⟨b, hb, b1, b2, b3, b4, b5⟩ := R.ow j u e k
    refine ⟨b, hb, b1, ?_, b3.mono fz, b4, b5⟩
    rw [upd_ne]
    · exact b2
    · rintro rfl
      exact b5 am
  · show _ = (c.hp.set n o').length
    rw [List.length_set]
    exact R.hl
  · have e : (c.hp.set n o')[m]? = some u := e
    by_cases hm : n = m
    · subst hm
      rw [List.getElem?_set_self (by rw [← R.hl]; exact hn)] at e
      cases e
      exact ⟨a, ho, ha, upd_same, h⟩
    · rw [List.getElem?_set_ne hm] at e
      obtain ⟨b, hb, c1, c2, c3⟩ := R.hp m u e
      refine ⟨b, hb, c1, ?_, c3.mono fz (List.prefix_refl _)⟩
      rw [upd_ne]
      · exact c2
      · rintro rfl
        have h1 := (List.getElem?_eq_some_iff.mp ha)
        have h2 := (List.getElem?_eq_some_iff.mp c1)
        obtain ⟨q1, e1⟩ := h1
        obtain ⟨q2, e2⟩ := h2
        exact hm ((List.getElem_inj R.nd).mp (e1.trans e2.symm))
  · by_cases hb : b = a
    · subst hb
      exact absurd (R.new b am k) (by rw [e]; simp)
    · rw [upd_ne hb]
      exact R.fr b u e k
/-- a new object of the clean heap -/
theorem Rel.newHp (R : Rel G μ c σ H) {o : CO} {ho : HO} (hp : H p = none) (h : ODen G (upd H p ho) (μ ++ [p]) p o ho) :
    Rel G (μ ++ [p]) { c with hp := c.hp ++ [o] } σ (upd H p ho) ∧ Fz H (upd H p ho) ∧ μ <+: μ ++ [p] := by
  have sm : Same H (upd H p ho) := same_new hp
  obtain ⟨pm, pB⟩ := R.fresh hp
  have pf : μ <+: μ ++ [p] := List.prefix_append _ _
  refine ⟨⟨R.len, fun j y e => ?_, fun j u e k => ?_, R.ap, ?_, fun m u e => ?_, ?_, R.pre.trans pf, fun b hb k => ?_, fun b u e k => sm _ _ (R.fr b u e k)⟩, Fz.same sm, pf⟩
  · obtain ⟨v, b1, b2⟩ := R.vl j y e
    exact ⟨v, b1, b2.mono (Fz.same sm) pf⟩
  · obtain ⟨b, hb, b1, b2, b3, b4, b5⟩ := R.ow j u e k
    refine ⟨b, hb, b1, sm _ _ b2, b3.mono (Fz.same sm), b4, fun z => ?_⟩
    rcases List.mem_append.mp z with z | z
    · exact b5 z
    · have : b = p := by simpa using z
      subst this
      rw [hp] at b2
      cases b2
  · show _ = (c.hp ++ [o]).length
    rw [List.length_append, List.length_append, R.hl]
    rfl
  · have e : (c.hp ++ [o])[m]? = some u := e
    by_cases hm : m < c.hp.length
    · rw [List.getElem?_append_left hm] at e
      obtain ⟨b, hb, c1, c2, c3⟩ := R.hp m u e
      exact ⟨b, hb, pre_get pf c1, sm _ _ c2, c3.mono (Fz.same sm) pf⟩
    · rw [List.getElem?_append_right (by omega)] at e
      have hz : m - c.hp.length = 0 := by
        have := (List.getElem?_eq_some_iff.mp e).1
        simp at this
        omega
      rw [hz] at e
      have eo : o = u := by simpa using e
      subst eo
      refine ⟨p, ho, ?_, upd_same, h⟩
      rw [List.getElem?_append_right (by rw [R.hl]; omega), R.hl, hz]
      rfl
  · rw [List.nodup_append]
    refine ⟨R.nd, by simp, fun a ha b hb => ?_⟩
    have : b = p := by simpa using hb
    subst this
    rintro rfl
    exact pm ha
  · rcases List.mem_append.mp hb with z | z
    · exact R.new b z k
    · have : b = p := by simpa using z
      subst this
      exact pB
end
end Cl

set_option Elab.async false
set_option maxRecDepth 100000
set_option maxHeartbeats 2000000
namespace Cl
open PySem PySem.Spec PyProof.Rows L2
abbrev LSt := L2.St

/-! ### runs -/
/-- what is wanted around a def's run: what was tracked at its entry, the caller's objects, the wish about exceptions -/
structure Wn where
  B : Hp
  m0 : List Addr
  W : WX
abbrev Wn.q (N : Wn) : Wn := { N with W := fun _ _ _ _ => False }
abbrev gh (X : Cx) (N : Wn) : Gh := ⟨kwOf X, X.mg, N.B, N.m0⟩
def XDen (G : Gh) (H : Hp) (e : XC) (cls : Value) (d : Option Addr) : Prop :=
  G.mg e.cls = some cls ∧ ((e.fs = [] ∧ d = none) ∨ e.fs ≠ [] ∧ ∃ dd gs, d = some dd ∧ H dd = some (.xd gs) ∧ Paired (fun p q => p.1 = q.1 ∧ Den G.K H p.2 q.2) e.fs gs)
def RunAt (G : Gh) (W : WX) {α : Type} (m : Mo α) (μ : List Addr) (c : CS) (σ : LSt) (H : Hp) (P : α → List Addr → CS → Hp → Prop) : Prop := match m c with
  | .ok a c1 => ∀ μ1 H1, μ <+: μ1 → Fz H H1 → Rel G μ1 c1 σ H1 → P a μ1 c1 H1
  | .ex e c1 => ∀ μ1 cls d H1, μ <+: μ1 → Fz H H1 → Rel G μ1 c1 σ H1 → XDen G H1 e cls d → W cls d σ H1
  | .no => False
section
variable {G : Gh} {W : WX} {α β : Type} {μ : List Addr} {c : CS} {σ : LSt} {H : Hp}
theorem RunAt.imp {m : Mo α} {P P' : α → List Addr → CS → Hp → Prop} (h : RunAt G W m μ c σ H P) (f : ∀ a μ1 c1 H1, μ <+: μ1 → Fz H H1 → Rel G μ1 c1 σ H1 → P a μ1 c1 H1 → P' a μ1 c1 H1) : RunAt G W m μ c σ H P' := by
  unfold RunAt at h ⊢
  cases e : m c with
  | ok a c1 =>
    rw [e] at h
    exact fun μ1 H1 p q r => f a μ1 c1 H1 p q r (h μ1 H1 p q r)
  | ex x c1 =>
    rw [e] at h
    exact h
  | no =>
    rw [e] at h
    exact h
theorem RunAt.bind {m : Mo α} {f : α → Mo β} {P : β → List Addr → CS → Hp → Prop} (h : RunAt G W (mBind m f) μ c σ H P) : RunAt G W m μ c σ H fun a μ1 c1 H1 => RunAt G W (f a) μ1 c1 σ H1 P := by
  unfold RunAt at h ⊢
  unfold mBind at h
  cases e : m c with
  | ok a c1 =>
    rw [e] at h
    dsimp only at h ⊢
    intro μ1 H1 p q r
    cases e2 : f a c1 with
    | ok b c2 =>
      rw [e2] at h
      exact fun μ2 H2 p2 q2 r2 => h μ2 H2 (p.trans p2) (q.trans q2) r2
    | ex x c2 =>
      rw [e2] at h
      exact fun μ2 cls d H2 p2 q2 r2 => h μ2 cls d H2 (p.trans p2) (q.trans q2) r2
    | no =>
      rw [e2] at h
      exact h
  | ex x c1 =>
    rw [e] at h
    exact h
  | no =>
    rw [e] at h
    exact h
/-- a step that gives a value and changes nothing but, perhaps, lays new objects -/
theorem RunAt.opt {o : Option α} {P : α → List Addr → CS → Hp → Prop} (h : RunAt G W (mOpt o) μ c σ H P) : ∃ a, o = some a ∧ ∀ H1, Fz H H1 → Rel G μ c σ H1 → P a μ c H1 := by
  unfold RunAt mOpt at h
  cases o with
  | none => exact h.elim
  | some a => exact ⟨a, rfl, fun H1 q r => h μ H1 (List.prefix_refl _) q r⟩
theorem RunAt.ret {a : α} {P : α → List Addr → CS → Hp → Prop} (h : RunAt G W (mRet a) μ c σ H P) : ∀ H1, Fz H H1 → Rel G μ c σ H1 → P a μ c H1 := by
  unfold RunAt mRet at h
  exact fun H1 q r => h μ H1 (List.prefix_refl _) q r
end

/-! ### the readings -/
def tM (G : Gh) (W : WX) (m : Mo CV) : TE := fun σ H Q => ∃ μ c, Rel G μ c σ H ∧ RunAt G W m μ c σ H fun x μ1 _ H1 => ∀ v, VDen G.K H1 μ1 x v → Q v H1
/-- what may be read on the spot: a value, a list or a dict that is still written elsewhere -/
inductive BV where
  | c (x : CV)
  | l (xs : List PyData)
  | k (kvs : List (PyData × PyData))
def BDen (K : KW) (H : Hp) (μ : List Addr) : BV → V → Prop
  | .c x, v => VDen K H μ x v
  | .l xs, v => ∃ a vs, v = .ref a ∧ H a = some (.lst vs) ∧ DenL K H xs vs
  | .k kvs, v => ∃ a ho, v = .ref a ∧ H a = some ho ∧ DicP K H (Den K H) kvs a ho
def tBo (G : Gh) (W : WX) (m : Mo BV) : TE := fun σ H Q => ∃ μ c, Rel G μ c σ H ∧ RunAt G W m μ c σ H fun x μ1 c1 H1 => ∀ v, BDen G.K H1 μ1 x v → Q v H1
/-- a new list -/
def tF (G : Gh) (W : WX) (m : Mo (List PyData)) : TE := fun σ H Q => ∃ μ c, Rel G μ c σ H ∧ RunAt G W m μ c σ H fun xs _ _ H1 => ∀ p vs, H1 p = none → DenL G.K H1 xs vs → Q (.ref p) (upd H1 p (.lst vs))
def tT (G : Gh) (W : WX) (m : Mo Bool) : TT := fun σ H Q => ∃ μ c, Rel G μ c σ H ∧ RunAt G W m μ c σ H fun b _ _ H1 => Q b H1
def tAr (G : Gh) (W : WX) (m : Mo (List CV)) : TA := fun σ H Q => ∃ μ c, Rel G μ c σ H ∧ RunAt G W m μ c σ H fun xs μ1 _ H1 => ∀ vs, VDenL G.K H1 μ1 xs vs → Q vs H1
inductive RS where
  | nx (c : CS)
  | rt (x : CV) (c : CS)
  | bk (c : CS)
  | ct (c : CS)
  | ex (e : XC) (c : CS)
  | no
abbrev MS := CS → RS
def RunS (G : Gh) (W : WX) (r : RS) (μ : List Addr) (H : Hp) (D : Ends) : Prop := match r with
  | .nx c1 => ∀ μ1 σ1 H1, μ <+: μ1 → Fz H H1 → Rel G μ1 c1 σ1 H1 → D.nx σ1 H1
  | .rt x c1 => ∀ μ1 σ1 H1 v, μ <+: μ1 → Fz H H1 → Rel G μ1 c1 σ1 H1 → VDen G.K H1 μ1 x v → D.rt v H1
  | .bk c1 => ∀ μ1 σ1 H1, μ <+: μ1 → Fz H H1 → Rel G μ1 c1 σ1 H1 → D.bk σ1 H1
  | .ct c1 => ∀ μ1 σ1 H1, μ <+: μ1 → Fz H H1 → Rel G μ1 c1 σ1 H1 → D.ct σ1 H1
  | .ex e c1 => ∀ μ1 σ1 cls d H1, μ <+: μ1 → Fz H H1 → Rel G μ1 c1 σ1 H1 → XDen G H1 e cls d → W cls d σ1 H1
  | .no => False
def tSt (G : Gh) (W : WX) (m : MS) : TS := fun D σ H => ∃ μ c, Rel G μ c σ H ∧ RunS G W (m c) μ H D
abbrev CE (X : Cx) (N : Wn) (e : Expr) (m : Mo CV) : Prop := PE X e (tM (gh X N) N.W m)
abbrev CB (X : Cx) (N : Wn) (e : Expr) (m : Mo BV) : Prop := PE X e (tBo (gh X N) N.W m)
abbrev CF (X : Cx) (N : Wn) (e : Expr) (m : Mo (List PyData)) : Prop := PE X e (tF (gh X N) N.W m)
abbrev CT (X : Cx) (N : Wn) (e : Expr) (m : Mo Bool) : Prop := PT X e (tT (gh X N) N.W m)
abbrev CA (X : Cx) (N : Wn) (es : List Expr) (m : Mo (List CV)) : Prop := PA X es (tAr (gh X N) N.W m)
abbrev CS1 (X : Cx) (N : Wn) (st : Stmt) (m : MS) : Prop := PS X st (tSt (gh X N) N.W m)
abbrev CSs (X : Cx) (N : Wn) (st : List Stmt) (m : MS) : Prop := PSs X st (tSt (gh X N) N.W m)

section
variable {X : Cx} {N : Wn} {pins : List (Addr × Obj)} {s : Shared} {σ : LSt} {H : Hp} {μ : List Addr} {c : CS} {e : Expr}
theorem use_e {m : Mo CV} {P : CV → List Addr → CS → Hp → Prop} (h : CE X N e m) (I : Inv X pins σ H s) (R : Rel (gh X N) μ c σ H) (p : RunAt (gh X N) N.W m μ c σ H P) :
    wpAny (model X.prog X.w) X.A (eval e X.env) (fun u s1 => ∃ v x μ1 c1 H1, Inv X pins σ H1 s1 ∧ RelV v u ∧ VDen (kwOf X) H1 μ1 x v ∧ Rel (gh X N) μ1 c1 σ H1 ∧ μ <+: μ1 ∧ Fz H H1 ∧ P x μ1 c1 H1) X.xe s := by
  refine thn (h.run pins s σ H (fun v H1 => ∃ x μ1 c1, VDen (kwOf X) H1 μ1 x v ∧ Rel (gh X N) μ1 c1 σ H1 ∧ μ <+: μ1 ∧ Fz H H1 ∧ P x μ1 c1 H1) I ⟨μ, c, R, p.imp fun x μ1 c1 H1 a b r q v d => ⟨x, μ1, c1, d, r, a, b, q⟩⟩) fun u s1 ⟨v, H1, I1, r1, x, μ1, c1, d, r, a, b, q⟩ => ⟨v, x, μ1, c1, H1, I1, r1, d, r, a, b, q⟩
theorem use_b {m : Mo BV} {P : BV → List Addr → CS → Hp → Prop} (h : CB X N e m) (I : Inv X pins σ H s) (R : Rel (gh X N) μ c σ H) (p : RunAt (gh X N) N.W m μ c σ H P) :
    wpAny (model X.prog X.w) X.A (eval e X.env) (fun u s1 => ∃ v x μ1 c1 H1, Inv X pins σ H1 s1 ∧ RelV v u ∧ BDen (kwOf X) H1 μ1 x v ∧ Rel (gh X N) μ1 c1 σ H1 ∧ μ <+: μ1 ∧ Fz H H1 ∧ P x μ1 c1 H1) X.xe s := by
  refine thn (h.run pins s σ H (fun v H1 => ∃ x μ1 c1, BDen (kwOf X) H1 μ1 x v ∧ Rel (gh X N) μ1 c1 σ H1 ∧ μ <+: μ1 ∧ Fz H H1 ∧ P x μ1 c1 H1) I ⟨μ, c, R, p.imp fun x μ1 c1 H1 a b r q v d => ⟨x, μ1, c1, d, r, a, b, q⟩⟩) fun u s1 ⟨v, H1, I1, r1, x, μ1, c1, d, r, a, b, q⟩ => ⟨v, x, μ1, c1, H1, I1, r1, d, r, a, b, q⟩
theorem use_f {m : Mo (List PyData)} {P : List PyData → List Addr → CS → Hp → Prop} (h : CF X N e m) (I : Inv X pins σ H s) (R : Rel (gh X N) μ c σ H) (p : RunAt (gh X N) N.W m μ c σ H P) :
    wpAny (model X.prog X.w) X.A (eval e X.env) (fun u s1 => ∃ q vs xs μ1 c1 H1, u = Value.ref q ∧ Inv X pins σ (upd H1 q (.lst vs)) s1 ∧ H1 q = none ∧ DenL (kwOf X) H1 xs vs ∧ Rel (gh X N) μ1 c1 σ H1 ∧ μ <+: μ1 ∧ Fz H H1 ∧ P xs μ1 c1 H1) X.xe s := by
  refine thn (h.run pins s σ H (fun v H2 => ∃ q vs xs μ1 c1 H1, v = .ref q ∧ H2 = upd H1 q (.lst vs) ∧ H1 q = none ∧ DenL (kwOf X) H1 xs vs ∧ Rel (gh X N) μ1 c1 σ H1 ∧ μ <+: μ1 ∧ Fz H H1 ∧ P xs μ1 c1 H1) I ⟨μ, c, R, p.imp fun x μ1 c1 H1 a b r q v vs d e => ⟨v, vs, x, μ1, c1, H1, rfl, rfl, d, e, r, a, b, q⟩⟩) fun u s1 ⟨v, H2, I1, r1, q, vs, xs, μ1, c1, H1, e1, e2, rest⟩ => ?_
  subst e1 e2
  exact ⟨q, vs, xs, μ1, c1, H1, r1, I1, rest⟩
theorem use_t {m : Mo Bool} {P : Bool → List Addr → CS → Hp → Prop} (h : CT X N e m) (I : Inv X pins σ H s) (R : Rel (gh X N) μ c σ H) (p : RunAt (gh X N) N.W m μ c σ H P) :
    wpAny (model X.prog X.w) X.A (isTrue e X.env (eval e X.env)) (fun b s1 => ∃ μ1 c1 H1, Inv X pins σ H1 s1 ∧ Rel (gh X N) μ1 c1 σ H1 ∧ μ <+: μ1 ∧ Fz H H1 ∧ P b μ1 c1 H1) X.xe s := by
  refine thn (h.run pins s σ H (fun b H1 => ∃ μ1 c1, Rel (gh X N) μ1 c1 σ H1 ∧ μ <+: μ1 ∧ Fz H H1 ∧ P b μ1 c1 H1) I ⟨μ, c, R, p.imp fun x μ1 c1 H1 a b r q => ⟨μ1, c1, r, a, b, q⟩⟩) fun u s1 ⟨H1, I1, μ1, c1, r, a, b, q⟩ => ⟨μ1, c1, H1, I1, r, a, b, q⟩
theorem use_a {m : Mo (List CV)} {es : List Expr} {pos : Pos} {P : List CV → List Addr → CS → Hp → Prop} (h : CA X N es m) (I : Inv X pins σ H s) (R : Rel (gh X N) μ c σ H) (p : RunAt (gh X N) N.W m μ c σ H P) :
    wpAny (model X.prog X.w) X.A (spliced (backTo pos (starEach es X.env))) (fun us s1 => ∃ vs xs μ1 c1 H1, Inv X pins σ H1 s1 ∧ Vals vs us ∧ VDenL (kwOf X) H1 μ1 xs vs ∧ Rel (gh X N) μ1 c1 σ H1 ∧ μ <+: μ1 ∧ Fz H H1 ∧ P xs μ1 c1 H1) X.xe s := by
  refine thn (h.run pos pins s σ H (fun vs H1 => ∃ xs μ1 c1, VDenL (kwOf X) H1 μ1 xs vs ∧ Rel (gh X N) μ1 c1 σ H1 ∧ μ <+: μ1 ∧ Fz H H1 ∧ P xs μ1 c1 H1) I ⟨μ, c, R, p.imp fun x μ1 c1 H1 a b r q v d => ⟨x, μ1, c1, d, r, a, b, q⟩⟩) fun u s1 ⟨v, H1, I1, r1, x, μ1, c1, d, r, a, b, q⟩ => ⟨v, x, μ1, c1, H1, I1, r1, d, r, a, b, q⟩
theorem PE.tm {t t' : TE} (h : PE X e t) (f : ∀ σ H Q, t' σ H Q → t σ H Q) : PE X e t' := ⟨fun pins s σ H Q I q => h.run pins s σ H Q I (f _ _ _ q)⟩
theorem PT.tm {t t' : TT} (h : PT X e t) (f : ∀ σ H Q, t' σ H Q → t σ H Q) : PT X e t' := ⟨fun pins s σ H Q I q => h.run pins s σ H Q I (f _ _ _ q)⟩
theorem PS.tm {st : Stmt} {t t' : TS} (h : PS X st t) (f : ∀ D σ H, t' D σ H → t D σ H) : PS X st t' := ⟨fun pins s σ H D I q => h.run pins s σ H D I (f _ _ _ q)⟩
theorem PSs.tm {st : List Stmt} {t t' : TS} (h : PSs X st t) (f : ∀ D σ H, t' D σ H → t D σ H) : PSs X st t' := ⟨fun pins s σ H D I q => h.run pins s σ H D I (f _ _ _ q)⟩

/-! ### names and constants -/
def mVar (i : Nat) : Mo CV := fun c => match c.sl[i]? with
  | some (.v x) => .ok x c
  | some (.ol xs) => .ok (.d (.list xs)) { c with sl := c.sl.set i (.v (.d (.list xs))) }
  | some (.od kvs) => .ok (.d (.dict kvs)) { c with sl := c.sl.set i (.v (.d (.dict kvs))) }
  | _ => .no
/-- read on the spot -/
def mPeek (i : Nat) : Mo BV := fun c => match c.sl[i]? with
  | some (.v x) => .ok (.c x) c
  | some (.ol xs) => .ok (.l xs) c
  | some (.od kvs) => .ok (.k kvs) c
  | _ => .no
theorem ce_var (i : Nat) {x : Str} {pos : Pos} (hN : X.N[i]? = some x := by rfl) (hv : Vis X.env.scope x := by first | exact Or.inl rfl | exact Or.inr (Or.inl rfl) | exact Or.inr (Or.inr rfl)) (hd : (x == ("__debug__" : Str)) = false := by decide)
    (hcd : (x == ("__classdict__" : Str)) = false := by decide) : CE X N (.Name x pos) (mVar i) := by
  refine ⟨fun pins s σ H Q I h => ?_⟩
  obtain ⟨μ, c, R, p⟩ := h
  unfold RunAt mVar at p
  cases e : c.sl[i]? with
  | none =>
    rw [e] at p
    exact p.elim
  | some sl =>
    rw [e] at p
    cases sl with
    | un => exact p.elim
    | od kvs =>
      obtain ⟨a, ho, e1, e2, e3, e4, e5⟩ := R.ow i _ e rfl
      have mu : Mut (some ho) := by
        rcases e3 with ⟨_, rfl, _⟩ | ⟨_, rfl, _⟩ <;> trivial
      obtain ⟨o, I1⟩ := Inv.lock I e2 mu
      have f1 : Fz H (upd H a (.frz o ho)) := SDen.wr (s := .od kvs) e3 |>.fz e2
      have dd : Den (kwOf X) (upd H a (.frz o ho)) (.dict kvs) (.ref a) := den_dict (DicP.mono e3 f1 fun _ _ q => Den.mono f1 _ _ q) upd_same
      obtain ⟨R1, f1⟩ := R.chFrz (o := o) (x := .d (.dict kvs)) e rfl e1 e2 dd
      have q := p μ _ (List.prefix_refl _) f1 R1 (.ref a) dd
      exact (pe_var (X := X) (i := i) hN hv hd hcd).run pins s σ _ Q I1 ⟨.ref a, e1, q⟩
    | v y =>
      obtain ⟨v, e1, d⟩ := R.vl i y e
      exact (pe_var (X := X) (i := i) hN hv hd hcd).run pins s σ H Q I ⟨v, e1, p μ H (List.prefix_refl _) (Fz.refl _) R v d⟩
    | ol xs =>
      obtain ⟨a, ho, e1, e2, ⟨vs, e3, dl⟩, e4, e5⟩ := R.ow i _ e rfl
      subst e3
      obtain ⟨o, I1⟩ := freeze I e2
      have f1 : Fz H (upd H a (.frz o (.lst vs))) := Wr.fz (ho := .lst vs) trivial e2
      have dd : Den (kwOf X) (upd H a (.frz o (.lst vs))) (.list xs) (.ref a) := by
        simp only [Den]
        exact ⟨a, vs, rfl, .inl ⟨o, upd_same⟩, DenL.mono f1 _ _ dl⟩
      obtain ⟨R1, f1⟩ := R.chFrz (o := o) (x := .d (.list xs)) e rfl e1 e2 dd
      have q := p μ _ (List.prefix_refl _) f1 R1 (.ref a) dd
      exact (pe_var (X := X) (i := i) hN hv hd hcd).run pins s σ _ Q I1 ⟨.ref a, e1, q⟩
theorem cb_var (i : Nat) {x : Str} {pos : Pos} (hN : X.N[i]? = some x := by rfl) (hv : Vis X.env.scope x := by first | exact Or.inl rfl | exact Or.inr (Or.inl rfl) | exact Or.inr (Or.inr rfl)) (hd : (x == ("__debug__" : Str)) = false := by decide)
    (hcd : (x == ("__classdict__" : Str)) = false := by decide) : CB X N (.Name x pos) (mPeek i) := by
  refine PE.tm (pe_var (X := X) (i := i) hN hv hd hcd) fun σ H Q h => ?_
  obtain ⟨μ, c, R, p⟩ := h
  unfold RunAt mPeek at p
  cases e : c.sl[i]? with
  | none =>
    rw [e] at p
    exact p.elim
  | some sl =>
    rw [e] at p
    cases sl with
    | un => exact p.elim
    | v y =>
      obtain ⟨v, e1, d⟩ := R.vl i y e
      exact ⟨v, e1, p μ H (List.prefix_refl _) (Fz.refl _) R v d⟩
    | ol xs =>
      obtain ⟨a, ho, e1, e2, ⟨vs, e3, dl⟩, e4, e5⟩ := R.ow i _ e rfl
      subst e3
      exact ⟨.ref a, e1, p μ H (List.prefix_refl _) (Fz.refl _) R (.ref a) ⟨a, vs, rfl, e2, dl⟩⟩
    | od kvs =>
      obtain ⟨a, ho, e1, e2, e3, e4, e5⟩ := R.ow i _ e rfl
      exact ⟨.ref a, e1, p μ H (List.prefix_refl _) (Fz.refl _) R (.ref a) ⟨a, ho, rfl, e2, e3⟩⟩
def mC (x : PyData) : Mo CV := mRet (.d x)
/-- a constant -/
theorem ce_tc {x : PyData} {v : V} (h : PE X e (tC v)) (d : ∀ K H, Den K H x v) : CE X N e (mC x) := by
  refine PE.tm h fun σ H Q h => ?_
  obtain ⟨μ, c, R, p⟩ := h
  exact p.ret H (Fz.refl _) R v (d _ _)
theorem ce_int {i : Int} {j : Nat} {pos : Pos} : CE X N (.Constant (.int i) j pos) (mC (.int i)) := ce_tc pe_int fun K H => by simp only [Den]
theorem ce_str {i : Str} {j : Nat} {pos : Pos} : CE X N (.Constant (.str i) j pos) (mC (.str i)) := ce_tc pe_str fun K H => by simp only [Den]
theorem ce_bool {i : Bool} {j : Nat} {pos : Pos} : CE X N (.Constant (.bool i) j pos) (mC (.bool i)) := ce_tc pe_bl fun K H => by simp only [Den]
theorem ce_none {j : Nat} {pos : Pos} : CE X N (.Constant .none j pos) (mC .none) := ce_tc pe_non fun K H => by simp only [Den]
/-- a module's constant -/
theorem ce_glob {x : Str} {y : PyData} {v : V} {u : Value} {pos : Pos} (hm : X.mg x = some u) (r : RelV v u) (d : ∀ H, Den (kwOf X) H y v) (hg : Gl X x := by rfl) (hd : (x == ("__debug__" : Str)) = false := by decide) : CE X N (.Name x pos) (mC y) := by
  refine PE.tm (pe_glob hg hm r hd) fun σ H Q h => ?_
  obtain ⟨μ, c, R, p⟩ := h
  exact p.ret H (Fz.refl _) R v (d _)
/-- every value may be read on the spot -/
def mBo (m : Mo CV) : Mo BV := mBind m fun x => mRet (.c x)
theorem cb_of {m : Mo CV} (h : CE X N e m) : CB X N e (mBo m) := by
  refine ⟨fun pins s σ H Q I hq => ?_⟩
  obtain ⟨μ, c, R, p⟩ := hq
  refine thn (use_e h I R p.bind) fun u s1 ⟨v, x, μ1, c1, H1, I1, r1, d, R1, a, b, q⟩ => ?_
  exact ⟨v, H1, I1, r1, q.ret H1 (Fz.refl _) R1 v d⟩
/-- a new list, read on the spot -/
def mBf (m : Mo (List PyData)) : Mo BV := mBind m fun x => mRet (.l x)
theorem cb_f {m : Mo (List PyData)} (h : CF X N e m) : CB X N e (mBf m) := by
  refine ⟨fun pins s σ H Q I hq => ?_⟩
  obtain ⟨μ, c, R, p⟩ := hq
  refine thn (use_f h I R p.bind) fun u s1 ⟨q, vs, xs, μ1, c1, H1, e1, I1, hq, dl, R1, a, b, z⟩ => ?_
  have sm : Same H1 (upd H1 q (.lst vs)) := same_new hq
  exact ⟨.ref q, _, I1, e1, z.ret _ (Fz.same sm) (R1.same sm) (.ref q) ⟨q, vs, rfl, upd_same, DenL.mono (Fz.same sm) _ _ dl⟩⟩
/-- a new list, as a value: never written again -/
def mFz (m : Mo (List PyData)) : Mo CV := mBind m fun x => mRet (.d (.list x))
theorem ce_f {m : Mo (List PyData)} (h : CF X N e m) : CE X N e (mFz m) := by
  refine ⟨fun pins s σ H Q I hq => ?_⟩
  obtain ⟨μ, c, R, p⟩ := hq
  refine thn (use_f h I R p.bind) fun u s1 ⟨q, vs, xs, μ1, c1, H1, e1, I1, hq, dl, R1, a, b, z⟩ => ?_
  obtain ⟨o, I2⟩ := freeze I1 upd_same
  rw [upd_upd] at I2
  have sm : Same H1 (upd H1 q (.frz o (.lst vs))) := same_new hq
  refine ⟨.ref q, _, I2, e1, z.ret _ (Fz.same sm) (R1.same sm) (.ref q) ?_⟩
  show Den (kwOf X) _ (.list xs) _
  simp only [Den]
  exact ⟨q, vs, rfl, .inl ⟨o, upd_same⟩, DenL.mono (Fz.same sm) _ _ dl⟩
end
end Cl

set_option Elab.async false
set_option maxRecDepth 100000
set_option maxHeartbeats 2000000
namespace Cl
open PySem PySem.Spec PyProof.Rows L2

theorem den_tup {K : KW} {H : Hp} {xs : List PyData} {vs : List V} {p : Addr} (d : DenL K H xs vs) (q : SqT K.K H p vs) : Den K H (.tuple xs) (.ref p) := by
  simp only [Den]
  exact ⟨p, vs, rfl, q, d⟩
theorem den_bool {K : KW} {H : Hp} (b : Bool) : Den K H (.bool b) (.bl b) := by simp only [Den]
theorem den_int {K : KW} {H : Hp} (b : Int) : Den K H (.int b) (.int b) := by simp only [Den]
theorem den_str {K : KW} {H : Hp} (b : Str) : Den K H (.str b) (.str b) := by simp only [Den]
theorem den_none {K : KW} {H : Hp} : Den K H .none .non := by simp only [Den]

theorem vden_bool {K : KW} {H : Hp} {μ : List Addr} (b : Bool) : VDen K H μ (.d (.bool b)) (.bl b) := den_bool (K := K) (H := H) b
theorem vden_none {K : KW} {H : Hp} {μ : List Addr} : VDen K H μ (.d .none) .non := den_none (K := K) (H := H)
theorem vden_int {K : KW} {H : Hp} {μ : List Addr} (i : Int) : VDen K H μ (.d (.int i)) (.int i) := den_int (K := K) (H := H) i
theorem vden_str {K : KW} {H : Hp} {μ : List Addr} (i : Str) : VDen K H μ (.d (.str i)) (.str i) := den_str (K := K) (H := H) i
/-! ### operations on two values -/
abbrev OpC (X : Cx) (N : Wn) (f : Value → Value → Sem Value) (g : CV → CV → Mo CV) : Prop :=
  ∀ (pins : List (Addr × Obj)) (s : Shared) (σ : LSt) (H : Hp) (μ : List Addr) (c : CS) (x y : CV) (v w : V) (v' w' : Value) (Q : VK), Inv X pins σ H s → Rel (gh X N) μ c σ H → VDen (kwOf X) H μ x v → VDen (kwOf X) H μ y w → RelV v v' → RelV w w' →
    RunAt (gh X N) N.W (g x y) μ c σ H (fun z μ1 _ H1 => ∀ zv, VDen (kwOf X) H1 μ1 z zv → Q zv H1) → wpAny (model X.prog X.w) X.A (f v' w') (EP X pins σ Q) X.xe s
/-- .. on data -/
abbrev OpP (X : Cx) (f : Value → Value → Sem Value) (g : PyData → PyData → Option PyData) : Prop :=
  ∀ (pins : List (Addr × Obj)) (s : Shared) (σ : LSt) (H : Hp) (x y z : PyData) (v w : V) (v' w' : Value) (Q : VK), Inv X pins σ H s → Den (kwOf X) H x v → Den (kwOf X) H y w → RelV v v' → RelV w w' → g x y = some z →
    (∀ zv H1, Same H H1 → Den (kwOf X) H1 z zv → Q zv H1) → wpAny (model X.prog X.w) X.A (f v' w') (EP X pins σ Q) X.xe s
def lift2 (g : PyData → PyData → Option PyData) : CV → CV → Mo CV := fun x y => match x, y with
  | .d a, .d b => mOpt ((g a b).map .d)
  | _, _ => fun _ => .no
section
variable {X : Cx} {N : Wn} {e a b : Expr} {pos : Pos}
theorem OpP.c {f : Value → Value → Sem Value} {g : PyData → PyData → Option PyData} (h : OpP X f g) : OpC X N f (lift2 g) := by
  intro pins s σ H μ c x y v w v' w' Q I R dx dy r1 r2 p
  cases x with
  | d x =>
    cases y with
    | d y =>
      obtain ⟨z, e, q⟩ := RunAt.opt p
      cases hg : g x y with
      | none =>
        rw [hg] at e
        cases e
      | some z' =>
        rw [hg] at e
        cases e
        exact h pins s σ H x y z' v w v' w' Q I dx dy r1 r2 hg fun zv H1 sm d => q H1 (Fz.same sm) (R.same sm) zv d
    | r _ => exact p.elim
    | o _ => exact p.elim
  | r _ => exact p.elim
  | o _ => exact p.elim
/-- the second value is there when both are asked -/
theorem run2 {α : Type} {ma mb : Mo CV} {g : CV → CV → Mo α} {pins : List (Addr × Obj)} {s : Shared} {σ : LSt} {H : Hp} {μ : List Addr} {c : CS} {P : α → List Addr → CS → Hp → Prop} (ha : CE X N a ma) (hb : CE X N b mb) (I : Inv X pins σ H s) (R : Rel (gh X N) μ c σ H)
    (p : RunAt (gh X N) N.W (mBind ma fun x => mBind mb fun y => g x y) μ c σ H P) {β : Type} {Q : β → Shared → Prop} {f : Value → Value → Sem β}
    (k : ∀ (s2 : Shared) (H2 : Hp) (μ2 : List Addr) (c2 : CS) (x y : CV) (v w : V) (v' w' : Value), Inv X pins σ H2 s2 → Rel (gh X N) μ2 c2 σ H2 → VDen (kwOf X) H2 μ2 x v → VDen (kwOf X) H2 μ2 y w → RelV v v' → RelV w w' → RunAt (gh X N) N.W (g x y) μ2 c2 σ H2 P → wpAny (model X.prog X.w) X.A (f v' w') Q X.xe s2) :
    wpAny (model X.prog X.w) X.A (eval a X.env) (fun v s₁ => wpAny (model X.prog X.w) X.A (eval b X.env) (fun u s₂ => wpAny (model X.prog X.w) X.A (f v u) Q X.xe s₂) X.xe s₁) X.xe s := by
  refine thn (use_e ha I R p.bind) fun v' s1 ⟨v, x, μ1, c1, H1, I1, r1, d1, R1, p1, f1, q1⟩ => ?_
  refine thn (use_e hb I1 R1 q1.bind) fun w' s2 ⟨w, y, μ2, c2, H2, I2, r2, d2, R2, p2, f2, q2⟩ => ?_
  exact k s2 H2 μ2 c2 x y v w v' w' I2 R2 (d1.mono f2 p2) d2 r1 r2 q2
def m2 (g : CV → CV → Mo CV) (ma mb : Mo CV) : Mo CV := mBind ma fun x => mBind mb fun y => g x y
theorem ce_bin {op : Operator} {g : CV → CV → Mo CV} {ma mb : Mo CV} (ho : OpC X N (binaryOp op) g) (ha : CE X N a ma) (hb : CE X N b mb) : CE X N (.BinOp a op b pos) (m2 g ma mb) := by
  refine ⟨fun pins s σ H Q I h => ?_⟩
  obtain ⟨μ, c, R, p⟩ := h
  exact wpAny_BinOp (run2 ha hb I R p fun s2 H2 μ2 c2 x y v w v' w' I2 R2 d1 d2 r1 r2 q => ho pins s2 σ H2 μ2 c2 x y v w v' w' Q I2 R2 d1 d2 r1 r2 q)

/-! ### comparisons -/
abbrev CC (X : Cx) (N : Wn) (op : CmpOp) (a b : Expr) (m : Mo CV) : Prop := PC X op a b (tM (gh X N) N.W m)
theorem cc_of {op : CmpOp} {g : CV → CV → Mo CV} {ma mb : Mo CV} (ho : OpC X N (compareOp op) g) (ha : CE X N a ma) (hb : CE X N b mb) : CC X N op a b (m2 g ma mb) := by
  refine ⟨fun pins s σ H Q I h => ?_⟩
  obtain ⟨μ, c, R, p⟩ := h
  exact run2 ha hb I R p fun s2 H2 μ2 c2 x y v w v' w' I2 R2 d1 d2 r1 r2 q => ho pins s2 σ H2 μ2 c2 x y v w v' w' Q I2 R2 d1 d2 r1 r2 q
/-- the second one is read on the spot -/
abbrev OpB (X : Cx) (N : Wn) (f : Value → Value → Sem Value) (g : CV → BV → Mo CV) : Prop :=
  ∀ (pins : List (Addr × Obj)) (s : Shared) (σ : LSt) (H : Hp) (μ : List Addr) (c : CS) (x : CV) (y : BV) (v w : V) (v' w' : Value) (Q : VK), Inv X pins σ H s → Rel (gh X N) μ c σ H → VDen (kwOf X) H μ x v → BDen (kwOf X) H μ y w → RelV v v' → RelV w w' →
    RunAt (gh X N) N.W (g x y) μ c σ H (fun z μ1 _ H1 => ∀ zv, VDen (kwOf X) H1 μ1 z zv → Q zv H1) → wpAny (model X.prog X.w) X.A (f v' w') (EP X pins σ Q) X.xe s
def m2b (g : CV → BV → Mo CV) (ma : Mo CV) (mb : Mo BV) : Mo CV := mBind ma fun x => mBind mb fun y => g x y
theorem cc_b {op : CmpOp} {g : CV → BV → Mo CV} {ma : Mo CV} {mb : Mo BV} (ho : OpB X N (compareOp op) g) (ha : CE X N a ma) (hb : CB X N b mb) : CC X N op a b (m2b g ma mb) := by
  refine ⟨fun pins s σ H Q I h => ?_⟩
  obtain ⟨μ, c, R, p⟩ := h
  refine thn (use_e ha I R p.bind) fun v' s1 ⟨v, x, μ1, c1, H1, I1, r1, d1, R1, p1, f1, q1⟩ => ?_
  refine thn (use_b hb I1 R1 q1.bind) fun w' s2 ⟨w, y, μ2, c2, H2, I2, r2, d2, R2, p2, f2, q2⟩ => ?_
  exact ho pins s2 σ H2 μ2 c2 x y v w v' w' Q I2 R2 (d1.mono f2 p2) d2 r1 r2 q2
theorem ce_cmp {op : CmpOp} {m : Mo CV} (h : CC X N op a b m) (h1 : behindInMarks op b = false := by first | exact nobehind _ (by decide) (by decide) | rfl) : CE X N (.Compare a [op] [b] pos) m := pe_cmp h h1
/-- a bool, as a test -/
def asB : CV → Mo Bool := fun x => match x with
  | .d (.bool b) => mRet b
  | _ => fun _ => .no
def mTru (m : Mo CV) : Mo Bool := mBind m asB
theorem tB_of {m : Mo CV} {σ : LSt} {H : Hp} {Q : Bool → Hp → Prop} (h : tT (gh X N) N.W (mTru m) σ H Q) : L2.tB (tM (gh X N) N.W m) σ H Q := by
  obtain ⟨μ, c, R, p⟩ := h
  refine ⟨μ, c, R, (RunAt.bind p).imp fun x μ1 c1 H1 a b r q v d => ?_⟩
  cases x with
  | d x =>
    cases x with
    | bool k =>
      have d : Den (kwOf X) H1 (.bool k) v := d
      simp only [Den] at d
      exact ⟨k, d, RunAt.ret (a := k) q H1 (Fz.refl _) r⟩
    | none => exact q.elim
    | int _ => exact q.elim
    | str _ => exact q.elim
    | list _ => exact q.elim
    | tuple _ => exact q.elim
    | dict _ => exact q.elim
  | r _ => exact q.elim
  | o _ => exact q.elim
theorem ct_cmp {op : CmpOp} {m : Mo CV} (h : CC X N op a b m) (h1 : behindInMarks op b = false := by first | exact nobehind _ (by decide) (by decide) | rfl) : CT X N (.Compare a [op] [b] pos) (mTru m) := PT.tm (pt_cmp h h1) fun σ H Q => tB_of
theorem ct_val {m : Mo CV} (h : CE X N e m) (he : ∀ whole, isTrue e X.env whole = (do let v ← whole; standAt e.pos; holding [v] (truthy v)) := by intro _; rfl) : CT X N e (mTru m) := PT.tm (pt_val h he) fun σ H Q => tB_of
/-! chains -/
def mChain (g g' : CV → CV → Mo CV) (ma mb mc : Mo CV) : Mo CV := mBind ma fun x => mBind mb fun y => mBind (mTru (g x y)) fun k => if k then mBind mc fun z => g' y z else mRet (.d (.bool false))
theorem asB_ret {x : CV} {μ : List Addr} {c : CS} {σ : LSt} {H : Hp} {α : Type} {f : Bool → Mo α} {P : α → List Addr → CS → Hp → Prop} (h : RunAt (gh X N) N.W (mBind (asB x) f) μ c σ H P) : ∃ b, x = .d (.bool b) ∧ RunAt (gh X N) N.W (f b) μ c σ H P := by
  cases x with
  | d x =>
    cases x with
    | bool k => exact ⟨k, rfl, h⟩
    | none => exact h.elim
    | int _ => exact h.elim
    | str _ => exact h.elim
    | list _ => exact h.elim
    | tuple _ => exact h.elim
    | dict _ => exact h.elim
  | r _ => exact h.elim
  | o _ => exact h.elim
theorem mBind_assoc {α β γ : Type} (m : Mo α) (f : α → Mo β) (g : β → Mo γ) : mBind (mBind m f) g = mBind m fun x => mBind (f x) g := by
  funext c
  unfold mBind
  cases m c <;> rfl
theorem ce_chain {op op' : CmpOp} {g g' : CV → CV → Mo CV} {d : Expr} {ma mb mc : Mo CV} (ho : OpC X N (compareOp op) g) (ho' : OpC X N (compareOp op') g') (ha : CE X N a ma) (hb : CE X N b mb) (hc : CE X N d mc) (hm : lastMarks [op, op'] [b, d] = false := by with_unfolding_all rfl) :
    CE X N (.Compare a [op, op'] [b, d] pos) (mChain g g' ma mb mc) := by
  refine ⟨fun pins s σ H Q I h => ?_⟩
  obtain ⟨μ, c, R, p⟩ := h
  refine Compare_chain (thn (use_e ha I R p.bind) fun v' s1 ⟨v, x, μ1, c1, H1, I1, r1, d1, R1, p1, f1, q1⟩ => chain_link (thn (use_e hb I1 R1 q1.bind) fun w' s2 ⟨w, y, μ2, c2, H2, I2, r2, d2, R2, p2, f2, q2⟩ => ?_)) hm
  unfold mTru at q2
  rw [mBind_assoc] at q2
  refine thn (ho pins s2 σ H2 μ2 c2 x y v w v' w' (fun zv H3 => ∃ k μ3 c3, zv = .bl k ∧ Rel (gh X N) μ3 c3 σ H3 ∧ VDen (kwOf X) H3 μ3 y w ∧ RunAt (gh X N) N.W (if k then mBind mc fun z => g' y z else mRet (.d (.bool false))) μ3 c3 σ H3 fun z μ1 _ H1 => ∀ zv, VDen (kwOf X) H1 μ1 z zv → Q zv H1) I2 R2 (d1.mono f2 p2) d2 r1 r2 (q2.bind.imp fun z μ3 c3 H3 a b r q zv dz => ?_)) fun u s3 ⟨zv, H3, I3, r3, k, μ3, c3, ez, R3, dy, q3⟩ => ?_
  · obtain ⟨k, rfl, q⟩ := asB_ret q
    have dz : Den (kwOf X) H3 (.bool k) zv := dz
    simp only [Den] at dz
    exact ⟨k, μ3, c3, dz, r, d2.mono b a, q⟩
  · subst ez
    cases r3
    refine wpAny_truthy_bool ?_
    cases k with
    | true =>
      have q3 : RunAt (gh X N) N.W (mBind mc fun z => g' y z) μ3 c3 σ H3 (fun z μ1 _ H1 => ∀ zv, VDen (kwOf X) H1 μ1 z zv → Q zv H1) := q3
      exact ite_tt (chain_last (thn (use_e hc I3 R3 q3.bind) fun y' s4 ⟨yv, z, μ4, c4, H4, I4, r4, d4, R4, p4, f4, q4⟩ => ho' pins s4 σ H4 μ4 c4 y z w yv w' y' Q I4 R4 (dy.mono f4 p4) d4 r2 r4 q4))
    | false =>
      have q3 : RunAt (gh X N) N.W (mRet (CV.d (.bool false))) μ3 c3 σ H3 (fun z μ1 _ H1 => ∀ zv, VDen (kwOf X) H1 μ1 z zv → Q zv H1) := q3
      exact ite_ff ⟨.bl false, H3, I3, rfl, q3.ret H3 (Fz.refl _) R3 _ (vden_bool false)⟩
theorem asB_den {K : KW} {H : Hp} {μ : List Addr} {k : Bool} {v : V} (d : VDen K H μ (.d (.bool k)) v) : v = .bl k := by
  have d : Den K H (.bool k) v := d
  simp only [Den] at d
  exact d
theorem ct_chain {op op' : CmpOp} {g g' : CV → CV → Mo CV} {d : Expr} {ma mb mc : Mo CV} (ho : OpC X N (compareOp op) g) (ho' : OpC X N (compareOp op') g') (ha : CE X N a ma) (hb : CE X N b mb) (hc : CE X N d mc) (hm : lastMarks [op, op'] [b, d] = false := by with_unfolding_all rfl) :
    CT X N (.Compare a [op, op'] [b, d] pos) (mTru (mChain g g' ma mb mc)) := by
  refine ⟨fun pins s σ H Q I h => ?_⟩
  obtain ⟨μ, c, R, p⟩ := h
  unfold mTru mChain at p
  rw [mBind_assoc] at p
  refine isTrue_chain (thn (use_e ha I R p.bind) fun v' s1 ⟨v, x, μ1, c1, H1, I1, r1, d1, R1, p1, f1, q1⟩ => ?_) hm
  rw [mBind_assoc] at q1
  refine test_link (thn (use_e hb I1 R1 q1.bind) fun w' s2 ⟨w, y, μ2, c2, H2, I2, r2, d2, R2, p2, f2, q2⟩ => ?_)
  rw [mBind_assoc] at q2
  unfold mTru at q2
  rw [mBind_assoc] at q2
  refine thn (ho pins s2 σ H2 μ2 c2 x y v w v' w' (fun zv H3 => ∃ k μ3 c3, zv = .bl k ∧ Rel (gh X N) μ3 c3 σ H3 ∧ VDen (kwOf X) H3 μ3 y w ∧ RunAt (gh X N) N.W (mBind (if k then mBind mc fun z => g' y z else mRet (.d (.bool false))) asB) μ3 c3 σ H3 fun b _ _ H1 => Q b H1) I2 R2 (d1.mono f2 p2) d2 r1 r2 (q2.bind.imp fun z μ3 c3 H3 a b r q zv dz => ?_)) fun u s3 ⟨zv, H3, I3, r3, k, μ3, c3, ez, R3, dy, q3⟩ => ?_
  · obtain ⟨k, rfl, q⟩ := asB_ret q
    exact ⟨k, μ3, c3, asB_den dz, r, d2.mono b a, q⟩
  · subst ez
    cases r3
    refine wpAny_truthy_bool ?_
    cases k with
    | true =>
      have q3 : RunAt (gh X N) N.W (mBind (mBind mc fun z => g' y z) asB) μ3 c3 σ H3 (fun b _ _ H1 => Q b H1) := q3
      rw [mBind_assoc] at q3
      refine ite_tt (test_last (thn (use_e hc I3 R3 q3.bind) fun y' s4 ⟨yv, z, μ4, c4, H4, I4, r4, d4, R4, p4, f4, q4⟩ => ?_))
      refine thn (ho' pins s4 σ H4 μ4 c4 y z w yv w' y' (fun zv H5 => ∃ k, zv = .bl k ∧ Q k H5) I4 R4 (dy.mono f4 p4) d4 r2 r4 (q4.bind.imp fun z μ5 c5 H5 a b r q zv dz => ?_)) fun u s5 ⟨zv, H5, I5, r5, k, ez, q5⟩ => ?_
      · have q' : RunAt (gh X N) N.W (mBind (asB z) mRet) μ5 c5 σ H5 (fun b _ _ H1 => Q b H1) := by
          have e : mBind (asB z) mRet = asB z := by
            funext c
            unfold mBind mRet
            cases asB z c <;> rfl
          rw [e]
          exact q
        obtain ⟨k, rfl, q'⟩ := asB_ret q'
        exact ⟨k, asB_den dz, q'.ret H5 (Fz.refl _) r⟩
      · subst ez
        cases r5
        exact wpAny_truthy_bool ⟨H5, I5, q5⟩
    | false =>
      have q3 : RunAt (gh X N) N.W (mRet false) μ3 c3 σ H3 (fun b _ _ H1 => Q b H1) := q3
      exact ite_ff ⟨H3, I3, q3.ret H3 (Fz.refl _) R3⟩

/-! ### the operations -/
theorem op_of {f : Value → Value → Sem Value} {r : R2} {g : PyData → PyData → Option PyData} (h : OpR X f r)
    (k : ∀ H x y z v w Q, Den (kwOf X) H x v → Den (kwOf X) H y w → g x y = some z → (∀ zv H1, Same H H1 → Den (kwOf X) H1 z zv → Q zv H1) → r v w H Q) : OpP X f g := fun pins s σ H x y z v w v' w' Q I d1 d2 r1 r2 e q => h pins s σ H v w v' w' Q I r1 r2 (k H x y z v w Q d1 d2 e q)
def pI2 (C : Int → Int → Bool) (f : Int → Int → PyData) : PyData → PyData → Option PyData := fun x y => match x, y with
  | .int i, .int j => if C i j then some (f i j) else none
  | _, _ => none
theorem pI2_some {C : Int → Int → Bool} {f : Int → Int → PyData} {x y z : PyData} (h : pI2 C f x y = some z) : ∃ i j, x = .int i ∧ y = .int j ∧ C i j = true ∧ z = f i j := by
  unfold pI2 at h
  cases x with
  | int i =>
    cases y with
    | int j =>
      dsimp only at h
      by_cases hc : C i j = true
      · rw [if_pos hc] at h
        cases h
        exact ⟨i, j, rfl, rfl, hc, rfl⟩
      · rw [if_neg hc] at h
        cases h
    | _ => cases h
  | _ => cases h
theorem opp_int {f : Value → Value → Sem Value} {C : Int → Int → Prop} {C' : Int → Int → Bool} {g : Int → Int → Int} (h : OpR X f (rI C fun i j => .int (g i j))) (hC : ∀ i j, C' i j = true → C i j) : OpP X f (pI2 C' fun i j => .int (g i j)) := by
  refine op_of h fun H x y z v w Q d1 d2 e q => ?_
  obtain ⟨i, j, rfl, rfl, hc, rfl⟩ := pI2_some e
  simp only [Den] at d1 d2
  subst d1 d2
  exact ⟨i, j, rfl, rfl, hC i j hc, q _ H (Same.refl H) (den_int _)⟩
theorem opp_int0 {f : Value → Value → Sem Value} {g : Int → Int → Int} (h : OpR X f (rI0 fun i j => .int (g i j))) : OpP X f (pI2 (fun _ _ => true) fun i j => .int (g i j)) := by
  refine op_of h fun H x y z v w Q d1 d2 e q => ?_
  obtain ⟨i, j, rfl, rfl, hc, rfl⟩ := pI2_some e
  simp only [Den] at d1 d2
  subst d1 d2
  exact ⟨i, j, rfl, rfl, q _ H (Same.refl H) (den_int _)⟩
def tkT (xs : List PyData) (n : Nat) : Option PyData := if n ≤ 16777216 then some (.tuple xs) else none
/-- a + b of texts, of tuples, of numbers -/
def pAdd (x y : PyData) : Option PyData := match x, y with
  | .int i, .int j => some (.int (i + j))
  | .str s, .str t => if s.length + t.length ≤ 16777216 then some (.str (s ++ t)) else none
  | .tuple xs, .tuple ys => tkT (xs ++ ys) (xs.length + ys.length)
  | _, _ => none
theorem opp_add : OpP X (binaryOp .Add) pAdd := by
  intro pins s σ H x y z v w v' w' Q I d1 d2 r1 r2 e q
  cases x with
  | int i =>
    cases y with
    | int j =>
      cases e
      simp only [Den] at d1 d2
      subst d1 d2
      exact op_add pins s σ H _ _ v' w' Q I r1 r2 ⟨i, j, rfl, rfl, q _ H (Same.refl H) (den_int _)⟩
    | _ => cases e
  | str i =>
    cases y with
    | str j =>
      simp only [Den] at d1 d2
      subst d1 d2
      unfold pAdd at e
      dsimp only at e
      by_cases hl : i.length + j.length ≤ 16777216
      · rw [if_pos hl] at e
        cases e
        exact op_add_str pins s σ H _ _ v' w' Q I r1 r2 ⟨i, j, rfl, rfl, by rw [sizeLine_eq]; exact hl, q _ H (Same.refl H) (den_str _)⟩
      · rw [if_neg hl] at e
        cases e
    | _ => cases e
  | tuple xs =>
    cases y with
    | tuple ys =>
      simp only [Den] at d1 d2
      obtain ⟨a, vs, rfl, qa, da⟩ := d1
      obtain ⟨b, ws, rfl, qb, db⟩ := d2
      unfold pAdd tkT at e
      dsimp only at e
      by_cases hl : xs.length + ys.length ≤ 16777216
      · rw [if_pos hl] at e
        cases e
        refine op_catA pins s σ H _ _ v' w' Q I r1 r2 ⟨a, b, vs, ws, rfl, rfl, qa, qb, by rw [da.length, db.length, sizeLine_eq]; exact hl, ?_⟩
        refine ⟨fun e => ?_, fun _ e => ?_, fun _ _ p hp => q _ _ (same_new hp) (den_tup (DenL.append (DenL.mono (Fz.same (same_new hp)) _ _ da) (DenL.mono (Fz.same (same_new hp)) _ _ db)) (SqT.of upd_same))⟩
        · have l := da.length
          rw [e] at l
          have e2 : xs = [] := List.length_eq_zero_iff.mp l.symm
          rw [e2] at q
          exact q _ H (Same.refl H) (den_tup db qb)
        · have l := db.length
          rw [e] at l
          have e2 : ys = [] := List.length_eq_zero_iff.mp l.symm
          rw [e2, List.append_nil] at q
          exact q _ H (Same.refl H) (den_tup da qa)
      · rw [if_neg hl] at e
        cases e
    | _ => cases e
  | none => cases e
  | bool _ => cases e
  | list _ => cases e
  | dict _ => cases e
abbrev pSub := pI2 (fun _ _ => true) fun i j => .int (i - j)
abbrev pMul := pI2 (fun i j => (decide (-(2 ^ 64) < i) && decide (i < 2 ^ 64)) || (decide (-(2 ^ 64) < j) && decide (j < 2 ^ 64))) fun i j => .int (i * j)
abbrev pDiv := pI2 (fun _ j => decide (0 < j) && decide (j < 1073741824)) fun i j => .int (i / j)
abbrev pMod := pI2 (fun _ j => decide (0 < j)) fun i j => .int (i % j)
abbrev pPow := pI2 (fun i j => decide (0 ≤ j) && decide (j ≤ 1000000) && decide (i.natAbs < 2 ^ 64)) fun i j => .int (i ^ j.toNat)
theorem opp_sub : OpP X (binaryOp .Sub) pSub := opp_int0 op_sub
theorem opp_mul : OpP X (binaryOp .Mult) pMul := opp_int op_mul fun i j h => by
  simp only [Bool.or_eq_true, Bool.and_eq_true, decide_eq_true_eq] at h
  exact h
theorem opp_div : OpP X (binaryOp .FloorDiv) pDiv := opp_int op_fdiv fun i j h => by
  simp only [Bool.and_eq_true, decide_eq_true_eq] at h
  exact h
theorem opp_mod : OpP X (binaryOp .Mod) pMod := opp_int (C := fun _ j => 0 < j) op_mod fun i j h => by
  simp only [decide_eq_true_eq] at h
  exact h
theorem opp_pow : OpP X (binaryOp .Pow) pPow := opp_int op_pow fun i j h => by
  simp only [Bool.and_eq_true, decide_eq_true_eq] at h
  exact ⟨h.1.1, h.1.2, h.2⟩
/-- == of data -/
def pEq (x y : PyData) : Option PyData := if x.plain = true ∧ y.plain = true ∧ min x.depth y.depth ≤ 60 then some (.bool (PyData.eqv x y)) else none
def pNe (x y : PyData) : Option PyData := if x.plain = true ∧ y.plain = true ∧ min x.depth y.depth ≤ 60 then some (.bool (!PyData.eqv x y)) else none
theorem opp_eq (hu : X.A.units + 100 < cLine) : OpP X (compareOp .Eq) pEq := by
  intro pins s σ H x y z v w v' w' Q I d1 d2 r1 r2 e q
  unfold pEq at e
  by_cases hd : x.plain = true ∧ y.plain = true ∧ min x.depth y.depth ≤ 60
  · rw [if_pos hd] at e
    cases e
    obtain ⟨as, ra⟩ := Den.reads I x v v' hd.1 d1 r1
    obtain ⟨bs, rb⟩ := Den.reads I y w w' hd.2.1 d2 r2
    exact SeqAt.eq_plain ra rb hd.1 hd.2.1 (by have := hd.2.2; omega) ⟨.bl _, H, I, rfl, q _ H (Same.refl H) (den_bool _)⟩
  · rw [if_neg hd] at e
    cases e
theorem opp_ne (hu : X.A.units + 100 < cLine) : OpP X (compareOp .NotEq) pNe := by
  intro pins s σ H x y z v w v' w' Q I d1 d2 r1 r2 e q
  unfold pNe at e
  by_cases hd : x.plain = true ∧ y.plain = true ∧ min x.depth y.depth ≤ 60
  · rw [if_pos hd] at e
    cases e
    obtain ⟨as, ra⟩ := Den.reads I x v v' hd.1 d1 r1
    obtain ⟨bs, rb⟩ := Den.reads I y w w' hd.2.1 d2 r2
    exact SeqAt.ne_plain ra rb hd.1 hd.2.1 (by have := hd.2.2; omega) ⟨.bl _, H, I, rfl, q _ H (Same.refl H) (den_bool _)⟩
  · rw [if_neg hd] at e
    cases e
end
end Cl

set_option Elab.async false
set_option maxRecDepth 100000
set_option maxHeartbeats 2000000
namespace Cl
open PySem PySem.Spec PyProof.Rows L2
open PySem.W (alike alikeAll dataLt lt_data gt_data le_data ge_data)
theorem paired_app {α β : Type} {F : α → β → Prop} : ∀ {l1 r1 : List α} {l2 r2 : List β}, Paired F l1 l2 → Paired F r1 r2 → Paired F (l1 ++ r1) (l2 ++ r2)
  | _, _, _, _, .nil, t => t
  | _, _, _, _, .cons h t, u => .cons h (paired_app t u)
section
variable {X : Cx} {N : Wn} {e a b : Expr} {pos : Pos}
/-! ### order -/
def pOrd (fi : Int → Int → Bool) (fd : PyData → PyData → Bool) (x y : PyData) : Option PyData := match x, y with
  | .int i, .int j => some (.bool (fi i j))
  | .none, _ => none
  | x, y => if x.plain = true ∧ y.plain = true ∧ alike x y = true ∧ min x.depth y.depth ≤ 60 then some (.bool (fd x y)) else none
abbrev pLt := pOrd (fun i j => decide (i < j)) dataLt
abbrev pGt := pOrd (fun i j => decide (j < i)) (fun x y => dataLt y x)
abbrev pLe := pOrd (fun i j => decide (i ≤ j)) (fun x y => !dataLt y x)
abbrev pGe := pOrd (fun i j => decide (j ≤ i)) (fun x y => !dataLt x y)
theorem pOrd_some {fi : Int → Int → Bool} {fd : PyData → PyData → Bool} {x y z : PyData} (h : pOrd fi fd x y = some z) :
    (∃ i j, x = .int i ∧ y = .int j ∧ z = .bool (fi i j)) ∨ (x ≠ .none ∧ x.plain = true ∧ y.plain = true ∧ alike x y = true ∧ min x.depth y.depth ≤ 60 ∧ z = .bool (fd x y)) := by
  have other : x ≠ .none → (if x.plain = true ∧ y.plain = true ∧ alike x y = true ∧ min x.depth y.depth ≤ 60 then some (PyData.bool (fd x y)) else none) = some z → (x ≠ .none ∧ x.plain = true ∧ y.plain = true ∧ alike x y = true ∧ min x.depth y.depth ≤ 60 ∧ z = .bool (fd x y)) := fun n e => by
    by_cases hc : x.plain = true ∧ y.plain = true ∧ alike x y = true ∧ min x.depth y.depth ≤ 60
    · rw [if_pos hc] at e
      cases e
      exact ⟨n, hc.1, hc.2.1, hc.2.2.1, hc.2.2.2, rfl⟩
    · rw [if_neg hc] at e
      cases e
  cases x with
  | int i =>
    cases y with
    | int j =>
      cases h
      exact .inl ⟨i, j, rfl, rfl, rfl⟩
    | _ => exact .inr (other (fun z => by cases z) h)
  | none => cases y <;> cases h
  | _ => exact .inr (other (fun z => by cases z) (by cases y <;> exact h))
theorem opp_ord {op : CmpOp} {fi : Int → Int → Bool} {fd : PyData → PyData → Bool} (hi : OpR X (compareOp op) (rI0 fun i j => .bl (fi i j)))
    (hd : ∀ {s : Shared} {x y : PyData} {u v : Value} {as bs : List Addr} {Q : Value → Shared → Prop}, Reads s.heap u x as → Reads s.heap v y bs → alike x y = true → x ≠ .none → X.A.units + min x.depth y.depth < cLine → Q (.bool (fd x y)) s → wpAny (model X.prog X.w) X.A (compareOp op u v) Q X.xe s)
    (hu : X.A.units + 100 < cLine) : OpP X (compareOp op) (pOrd fi fd) := by
  intro pins s σ H x y z v w v' w' Q I d1 d2 r1 r2 e q
  rcases pOrd_some e with ⟨i, j, rfl, rfl, rfl⟩ | ⟨n, pl1, pl2, al, dp, rfl⟩
  · simp only [Den] at d1 d2
    subst d1 d2
    exact hi pins s σ H _ _ v' w' Q I r1 r2 ⟨i, j, rfl, rfl, q _ H (Same.refl H) (den_bool _)⟩
  · obtain ⟨as, ra⟩ := Den.reads I x v v' pl1 d1 r1
    obtain ⟨bs, rb⟩ := Den.reads I y w w' pl2 d2 r2
    exact hd ra rb al n (by omega) ⟨.bl _, H, I, rfl, q _ H (Same.refl H) (den_bool _)⟩
theorem opp_lt (hu : X.A.units + 100 < cLine) : OpP X (compareOp .Lt) pLt := opp_ord op_lt (fun ra rb h n u q => lt_data ra rb h n u q) hu
theorem opp_gt (hu : X.A.units + 100 < cLine) : OpP X (compareOp .Gt) pGt := opp_ord op_gt (fun ra rb h n u q => gt_data ra rb h n u q) hu
theorem opp_le (hu : X.A.units + 100 < cLine) : OpP X (compareOp .LtE) pLe := opp_ord op_le (fun ra rb h n u q => le_data ra rb h n u q) hu
theorem opp_ge (hu : X.A.units + 100 < cLine) : OpP X (compareOp .GtE) pGe := opp_ord op_ge (fun ra rb h n u q => ge_data ra rb h n u q) hu

/-! ### is None -/
def isN : CV → Bool := fun x => match x with
  | .d .none => true
  | _ => false
/-- None, or data -/
def isNm (neg : Bool) (m : Mo CV) : Mo CV := mBind m fun x => match x with
  | .d y => mRet (.d (.bool (if neg then !isN (.d y) else isN (.d y))))
  | _ => fun _ => .no
theorem isN_iff {K : KW} {H : Hp} {y : PyData} {v : V} (d : Den K H y v) : decide (v = .non) = isN (.d y) := by
  cases y with
  | none =>
    simp only [Den] at d
    subst d
    rfl
  | bool _ =>
    simp only [Den] at d
    subst d
    rfl
  | int _ =>
    simp only [Den] at d
    subst d
    rfl
  | str _ =>
    simp only [Den] at d
    subst d
    rfl
  | list _ =>
    simp only [Den] at d
    obtain ⟨_, _, rfl, _⟩ := d
    rfl
  | tuple _ =>
    simp only [Den] at d
    obtain ⟨_, _, rfl, _⟩ := d
    rfl
  | dict _ =>
    simp only [Den] at d
    obtain ⟨_, _, rfl, _⟩ := d
    rfl
theorem cc_isN {ma : Mo CV} {j : Nat} {pos' : Pos} (ha : CE X N a ma) : CC X N .Is a (.Constant .none j pos') (isNm false ma) := by
  refine ⟨fun pins s σ H Q I h => (pc_isN ha).run pins s σ H Q I ?_⟩
  obtain ⟨μ, c, R, p⟩ := h
  refine ⟨μ, c, R, (RunAt.bind p).imp fun x μ1 c1 H1 a b r q v d => ?_⟩
  cases x with
  | d y =>
    have d : Den (kwOf X) H1 y v := d
    rw [isN_iff d]
    exact RunAt.ret q H1 (Fz.refl _) r _ (vden_bool _)
  | r _ => exact q.elim
  | o _ => exact q.elim
theorem cc_notN {ma : Mo CV} {j : Nat} {pos' : Pos} (ha : CE X N a ma) : CC X N .IsNot a (.Constant .none j pos') (isNm true ma) := by
  refine ⟨fun pins s σ H Q I h => (pc_notN ha).run pins s σ H Q I ?_⟩
  obtain ⟨μ, c, R, p⟩ := h
  refine ⟨μ, c, R, (RunAt.bind p).imp fun x μ1 c1 H1 a b r q v d => ?_⟩
  cases x with
  | d y =>
    have d : Den (kwOf X) H1 y v := d
    rw [isN_iff d]
    exact RunAt.ret q H1 (Fz.refl _) r _ (vden_bool _)
  | r _ => exact q.elim
  | o _ => exact q.elim

/-! ### in -/
def bItems (y : BV) : Option (List PyData) := match y with
  | .c (.d (.tuple xs)) => some xs
  | .c (.d (.list xs)) => some xs
  | .l xs => some xs
  | _ => none
def pIn (neg : Bool) (x : PyData) (y : BV) : Option PyData := match y with
  | .c (.d (.str t)) => match x with
    | .str z => match z.cps.toList with
      | [k] => some (.bool (if neg then !decide (k ∈ t.cps.toList) else decide (k ∈ t.cps.toList)))
      | _ => none
    | _ => none
  | y => match bItems y with
    | some xs => if PyData.plainAll xs = true ∧ x.plain = true ∧ min (PyData.depthAll xs) x.depth ≤ 60 then some (.bool (if neg then !(xs.any fun z => PyData.eqv z x) else xs.any fun z => PyData.eqv z x)) else none
    | none => none
def gIn (neg : Bool) : CV → BV → Mo CV := fun x y => match x with
  | .d x => mOpt ((pIn neg x y).map .d)
  | _ => fun _ => .no
/-- a list or tuple that is read on the spot -/
theorem bItems_reads {pins : List (Addr × Obj)} {s : Shared} {σ : LSt} {H : Hp} {μ : List Addr} {y : BV} {xs : List PyData} {w : V} {w' : Value} (I : Inv X pins σ H s) (d : BDen (kwOf X) H μ y w) (r : RelV w w') (e : bItems y = some xs) (pl : PyData.plainAll xs = true) :
    ∃ as, Reads s.heap w' (.list xs) as ∨ Reads s.heap w' (.tuple xs) as := by
  cases y with
  | c x =>
    cases x with
    | d x =>
      cases x with
      | tuple ys =>
        cases e
        obtain ⟨as, ra⟩ := Den.reads I (.tuple xs) w w' pl d r
        exact ⟨as, .inr ra⟩
      | list ys =>
        cases e
        obtain ⟨as, ra⟩ := Den.reads I (.list xs) w w' pl d r
        exact ⟨as, .inl ra⟩
      | none => cases e
      | bool _ => cases e
      | int _ => cases e
      | str _ => cases e
      | dict _ => cases e
    | r _ => cases e
    | o _ => cases e
  | l ys =>
    cases e
    obtain ⟨a, vs, rfl, h, dl⟩ := d
    obtain rfl : w' = Value.ref a := r
    obtain ⟨z, its, n, rv, eo⟩ := I.hok a _ h
    obtain ⟨as, ra⟩ := DenL.reads I xs vs its pl dl rv
    exact ⟨_, .inl (.list eo rfl rfl (by simpa using ra))⟩
  | k _ => cases e
theorem str_one {z : Str} {k : Nat} (h : z.cps.toList = [k]) : z = ⟨#[k]⟩ := by
  obtain ⟨c⟩ := z
  have : c = #[k] := by
    have h2 : c.toList = [k] := h
    exact Array.toList_inj.mp (by rw [h2])
  rw [this]
theorem gIn_cases {neg : Bool} {x : PyData} {y : BV} {z : PyData} (h : pIn neg x y = some z) :
    (∃ t k, y = .c (.d (.str t)) ∧ x = .str ⟨#[k]⟩ ∧ z = .bool (if neg then !decide (k ∈ t.cps.toList) else decide (k ∈ t.cps.toList))) ∨
    ∃ xs, bItems y = some xs ∧ (PyData.plainAll xs = true ∧ x.plain = true ∧ min (PyData.depthAll xs) x.depth ≤ 60) ∧ z = .bool (if neg then !(xs.any fun z => PyData.eqv z x) else xs.any fun z => PyData.eqv z x) := by
  have other : (match bItems y with
    | some xs => if PyData.plainAll xs = true ∧ x.plain = true ∧ min (PyData.depthAll xs) x.depth ≤ 60 then some (PyData.bool (if neg then !(xs.any fun z => PyData.eqv z x) else xs.any fun z => PyData.eqv z x)) else none
    | none => none) = some z → ∃ xs, bItems y = some xs ∧ (PyData.plainAll xs = true ∧ x.plain = true ∧ min (PyData.depthAll xs) x.depth ≤ 60) ∧ z = .bool (if neg then !(xs.any fun z => PyData.eqv z x) else xs.any fun z => PyData.eqv z x) := fun e => by
    cases hb : bItems y with
    | none =>
      rw [hb] at e
      cases e
    | some xs =>
      rw [hb] at e
      dsimp only at e
      by_cases hd : PyData.plainAll xs = true ∧ x.plain = true ∧ min (PyData.depthAll xs) x.depth ≤ 60
      · rw [if_pos hd] at e
        cases e
        exact ⟨xs, rfl, hd, rfl⟩
      · rw [if_neg hd] at e
        cases e
  cases y with
  | c y =>
    cases y with
    | d y =>
      cases y with
      | str t =>
        left
        cases x with
        | str w =>
          unfold pIn at h
          dsimp only at h
          cases hw : w.cps.toList with
          | nil =>
            rw [hw] at h
            cases h
          | cons k r =>
            cases r with
            | nil =>
              rw [hw] at h
              cases h
              exact ⟨t, k, rfl, by rw [str_one hw], rfl⟩
            | cons _ _ =>
              rw [hw] at h
              cases h
        | _ => cases h
      | tuple _ => exact .inr (other h)
      | list _ => exact .inr (other h)
      | none => exact .inr (other h)
      | bool _ => exact .inr (other h)
      | int _ => exact .inr (other h)
      | dict _ => exact .inr (other h)
    | r _ => exact .inr (other h)
    | o _ => exact .inr (other h)
  | l _ => exact .inr (other h)
  | k _ => exact .inr (other h)
theorem opb_in (hu : X.A.units + 100 < cLine) : OpB X N (compareOp .In) (gIn false) := by
  intro pins s σ H μ c x y v w v' w' Q I R d1 d2 r1 r2 p
  cases x with
  | r _ => exact p.elim
  | o _ => exact p.elim
  | d x =>
    obtain ⟨z, e, q⟩ := RunAt.opt p
    cases hp : pIn false x y with
    | none =>
      rw [hp] at e
      cases e
    | some z' =>
      rw [hp] at e
      cases e
      have d1 : Den (kwOf X) H x v := d1
      rcases gIn_cases hp with ⟨t, k, rfl, rfl, rfl⟩ | ⟨xs, hb, hd, rfl⟩
      · have d2 : Den (kwOf X) H (.str t) w := d2
        simp only [Den] at d1 d2
        subst d1 d2
        exact op_in_sign pins s σ H _ _ v' w' Q I r1 r2 ⟨k, t, rfl, rfl, q H (Fz.refl _) R _ (vden_bool _)⟩
      · obtain ⟨bs, rb⟩ := Den.reads I x v v' hd.2.1 d1 r1
        obtain ⟨as, ra | ra⟩ := bItems_reads I d2 r2 hb hd.1
        · exact SeqAt.in_list_data ra rb hd.1 hd.2.1 (by have := hd.2.2; omega) ⟨.bl _, H, I, rfl, q H (Fz.refl _) R _ (vden_bool _)⟩
        · exact SeqAt.in_tuple_data ra rb hd.1 hd.2.1 (by have := hd.2.2; omega) ⟨.bl _, H, I, rfl, q H (Fz.refl _) R _ (vden_bool _)⟩
theorem opb_notIn (hu : X.A.units + 100 < cLine) : OpB X N (compareOp .NotIn) (gIn true) := by
  intro pins s σ H μ c x y v w v' w' Q I R d1 d2 r1 r2 p
  cases x with
  | r _ => exact p.elim
  | o _ => exact p.elim
  | d x =>
    obtain ⟨z, e, q⟩ := RunAt.opt p
    cases hp : pIn true x y with
    | none =>
      rw [hp] at e
      cases e
    | some z' =>
      rw [hp] at e
      cases e
      have d1 : Den (kwOf X) H x v := d1
      rcases gIn_cases hp with ⟨t, k, rfl, rfl, rfl⟩ | ⟨xs, hb, hd, rfl⟩
      · have d2 : Den (kwOf X) H (.str t) w := d2
        simp only [Den] at d1 d2
        subst d1 d2
        exact op_notIn_sign pins s σ H _ _ v' w' Q I r1 r2 ⟨k, t, rfl, rfl, q H (Fz.refl _) R _ (vden_bool _)⟩
      · obtain ⟨bs, rb⟩ := Den.reads I x v v' hd.2.1 d1 r1
        obtain ⟨as, ra | ra⟩ := bItems_reads I d2 r2 hb hd.1
        · exact SeqAt.notIn_list_data ra rb hd.1 hd.2.1 (by have := hd.2.2; omega) ⟨.bl _, H, I, rfl, q H (Fz.refl _) R _ (vden_bool _)⟩
        · exact SeqAt.notIn_tuple_data ra rb hd.1 hd.2.1 (by have := hd.2.2; omega) ⟨.bl _, H, I, rfl, q H (Fz.refl _) R _ (vden_bool _)⟩

/-! ### and, or, not -/
def mAnd (ma mb : Mo Bool) : Mo Bool := mBind ma fun k => if k then mb else mRet false
def mOr (ma mb : Mo Bool) : Mo Bool := mBind ma fun k => if k then mRet true else mb
def mNot (ma : Mo Bool) : Mo Bool := mBind ma fun k => mRet (!k)
abbrev CW (X : Cx) (N : Wn) (e : Expr) (m : Mo Bool) : Prop := PW X e (tT (gh X N) N.W m)
theorem PW.tm {t t' : TT} (h : PW X e t) (f : ∀ σ H Q, t' σ H Q → t σ H Q) : PW X e t' := ⟨fun w pins s σ H Q I q => h.run w pins s σ H Q I (f _ _ _ q)⟩
theorem cw_and1 {ma : Mo Bool} (h : CT X N a ma) : CW X N (.BoolOp .And [a] pos) ma := pw_and1 h
theorem cw_or1 {ma : Mo Bool} (h : CT X N a ma) : CW X N (.BoolOp .Or [a] pos) ma := pw_or1 h
theorem cw_and {ma mb : Mo Bool} {rest : List Expr} (ha : CT X N a ma) (hb : CW X N (.BoolOp .And (b :: rest) pos) mb) : CW X N (.BoolOp .And (a :: b :: rest) pos) (mAnd ma mb) :=
  PW.tm (pw_and ha hb) fun σ H Q ⟨μ, c, R, p⟩ => ⟨μ, c, R, (RunAt.bind p).imp fun k μ1 c1 H1 a b r q => by
    cases k with
    | true => exact iteT ⟨μ1, c1, r, q⟩
    | false => exact iteF ((RunAt.ret (a := false) (by exact q)) H1 (Fz.refl _) r)⟩
theorem cw_or {ma mb : Mo Bool} {rest : List Expr} (ha : CT X N a ma) (hb : CW X N (.BoolOp .Or (b :: rest) pos) mb) : CW X N (.BoolOp .Or (a :: b :: rest) pos) (mOr ma mb) :=
  PW.tm (pw_or ha hb) fun σ H Q ⟨μ, c, R, p⟩ => ⟨μ, c, R, (RunAt.bind p).imp fun k μ1 c1 H1 a b r q => by
    cases k with
    | false => exact iteF ⟨μ1, c1, r, q⟩
    | true => exact iteT ((RunAt.ret (a := true) (by exact q)) H1 (Fz.refl _) r)⟩
theorem ct_w {ma : Mo Bool} (h : CW X N e ma) : CT X N e ma := h.pt
theorem ct_not {ma : Mo Bool} (h : CT X N a ma) : CT X N (.UnaryOp .Not a pos) (mNot ma) :=
  PT.tm (pt_not h) fun σ H Q ⟨μ, c, R, p⟩ => ⟨μ, c, R, (RunAt.bind p).imp fun k μ1 c1 H1 a b r q => q.ret H1 (Fz.refl _) r⟩
/-- as values -/
def mAndV (ma mb : Mo CV) : Mo CV := mBind (mTru ma) fun k => if k then mb else mRet (.d (.bool false))
def mOrV (ma mb : Mo CV) : Mo CV := mBind (mTru ma) fun k => if k then mRet (.d (.bool true)) else mb
def mNotV (ma : Mo CV) : Mo CV := mBind (mTru ma) fun k => mRet (.d (.bool (!k)))
theorem ce_one {op : BoolOp} {ma : Mo CV} (h : CE X N a ma) : CE X N (.BoolOp op [a] pos) ma := pe_one h
theorem tru_bind {α : Type} {ma : Mo CV} {f : Bool → Mo α} {μ : List Addr} {c : CS} {σ : LSt} {H : Hp} {P : α → List Addr → CS → Hp → Prop} (p : RunAt (gh X N) N.W (mBind (mTru ma) f) μ c σ H P) :
    RunAt (gh X N) N.W ma μ c σ H fun x μ1 c1 H1 => ∃ k, x = .d (.bool k) ∧ RunAt (gh X N) N.W (f k) μ1 c1 σ H1 P := by
  unfold mTru at p
  rw [mBind_assoc] at p
  exact (RunAt.bind p).imp fun x μ1 c1 H1 a b r q => asB_ret q
theorem ce_and {ma mb : Mo CV} {rest : List Expr} (ha : CE X N a ma) (hb : CE X N (.BoolOp .And (b :: rest) pos) mb) : CE X N (.BoolOp .And (a :: b :: rest) pos) (mAndV ma mb) :=
  PE.tm (pe_and ha hb) fun σ H Q ⟨μ, c, R, p⟩ => ⟨μ, c, R, (tru_bind p).imp fun x μ1 c1 H1 a b r ⟨k, ex, q⟩ v d => by
    subst ex
    refine ⟨k, asB_den d, ?_⟩
    cases k with
    | true => exact iteT ⟨μ1, c1, r, q⟩
    | false =>
      have q : RunAt (gh X N) N.W (mRet (CV.d (.bool false))) μ1 c1 σ H1 (fun x μ1 _ H1 => ∀ v, VDen (kwOf X) H1 μ1 x v → Q v H1) := q
      exact iteF (q.ret H1 (Fz.refl _) r _ (vden_bool false))⟩
theorem ce_or {ma mb : Mo CV} {rest : List Expr} (ha : CE X N a ma) (hb : CE X N (.BoolOp .Or (b :: rest) pos) mb) : CE X N (.BoolOp .Or (a :: b :: rest) pos) (mOrV ma mb) :=
  PE.tm (pe_or ha hb) fun σ H Q ⟨μ, c, R, p⟩ => ⟨μ, c, R, (tru_bind p).imp fun x μ1 c1 H1 a b r ⟨k, ex, q⟩ v d => by
    subst ex
    refine ⟨k, asB_den d, ?_⟩
    cases k with
    | false => exact iteF ⟨μ1, c1, r, q⟩
    | true =>
      have q : RunAt (gh X N) N.W (mRet (CV.d (.bool true))) μ1 c1 σ H1 (fun x μ1 _ H1 => ∀ v, VDen (kwOf X) H1 μ1 x v → Q v H1) := q
      exact iteT (q.ret H1 (Fz.refl _) r _ (vden_bool true))⟩
theorem ce_not {ma : Mo CV} (ha : CE X N a ma) : CE X N (.UnaryOp .Not a pos) (mNotV ma) :=
  PE.tm (pe_not ha) fun σ H Q ⟨μ, c, R, p⟩ => ⟨μ, c, R, (tru_bind p).imp fun x μ1 c1 H1 a b r ⟨k, ex, q⟩ v d => by
    subst ex
    exact ⟨k, asB_den d, q.ret H1 (Fz.refl _) r _ (vden_bool _)⟩⟩
def mIf {α : Type} (mc : Mo Bool) (ma mb : Mo α) : Mo α := mBind mc fun k => if k then ma else mb
theorem ce_if {d : Expr} {mc : Mo Bool} {ma mb : Mo CV} (hc : CT X N d mc) (ha : CE X N a ma) (hb : CE X N b mb) : CE X N (.IfExp d a b pos) (mIf mc ma mb) :=
  PE.tm (pe_ifExp hc ha hb) fun σ H Q ⟨μ, c, R, p⟩ => ⟨μ, c, R, (RunAt.bind p).imp fun k μ1 c1 H1 a b r q => by
    cases k with
    | true => exact iteT ⟨μ1, c1, r, q⟩
    | false => exact iteF ⟨μ1, c1, r, q⟩⟩
theorem cb_if {d : Expr} {mc : Mo Bool} {ma mb : Mo BV} (hc : CT X N d mc) (ha : CB X N a ma) (hb : CB X N b mb) : CB X N (.IfExp d a b pos) (mIf mc ma mb) :=
  PE.tm (pe_ifExp hc ha hb) fun σ H Q ⟨μ, c, R, p⟩ => ⟨μ, c, R, (RunAt.bind p).imp fun k μ1 c1 H1 a b r q => by
    cases k with
    | true => exact iteT ⟨μ1, c1, r, q⟩
    | false => exact iteF ⟨μ1, c1, r, q⟩⟩
theorem cf_if {d : Expr} {mc : Mo Bool} {ma mb : Mo (List PyData)} (hc : CT X N d mc) (ha : CF X N a ma) (hb : CF X N b mb) : CF X N (.IfExp d a b pos) (mIf mc ma mb) :=
  PE.tm (pe_ifExp hc ha hb) fun σ H Q ⟨μ, c, R, p⟩ => ⟨μ, c, R, (RunAt.bind p).imp fun k μ1 c1 H1 a b r q => by
    cases k with
    | true => exact iteT ⟨μ1, c1, r, q⟩
    | false => exact iteF ⟨μ1, c1, r, q⟩⟩

/-! ### argument lists, displays -/
def mNil : Mo (List CV) := mRet []
def mCons (ma : Mo CV) (mr : Mo (List CV)) : Mo (List CV) := mBind ma fun x => mBind mr fun xs => mRet (x :: xs)
theorem ca_nil : CA X N [] mNil := by
  refine ⟨fun pos pins s σ H Q I h => ?_⟩
  obtain ⟨μ, c, R, p⟩ := h
  exact Calls.spliced_nil ⟨[], H, I, .nil, p.ret H (Fz.refl _) R [] .nil⟩
theorem ca_cons {es : List Expr} {ma : Mo CV} {mr : Mo (List CV)} (ha : CE X N e ma) (hr : CA X N es mr) (hs : starEach (e :: es) X.env = (false, eval e X.env) :: starEach es X.env := by rfl) : CA X N (e :: es) (mCons ma mr) := by
  refine ⟨fun pos pins s σ H Q I h => ?_⟩
  obtain ⟨μ, c, R, p⟩ := h
  rw [hs]
  show wpAny _ _ (spliced ((false, eval e X.env) :: backTo pos (starEach es X.env))) _ _ s
  refine Calls.spliced_cons (thn (use_e ha I R p.bind) fun v' s1 ⟨v, x, μ1, c1, H1, I1, r1, d1, R1, p1, f1, q1⟩ => ?_)
  refine thn (use_a (pos := pos) hr I1 R1 q1.bind) fun us s2 ⟨vs, xs, μ2, c2, H2, I2, r2, d2, R2, p2, f2, q2⟩ => ?_
  exact ⟨v :: vs, H2, I2, .cons r1 r2, q2.ret H2 (Fz.refl _) R2 _ (.cons (d1.mono f2 p2) d2)⟩
/-- the items of what is read on the spot -/
def itemsOf (y : BV) : Mo (List CV) := match bItems y with
  | some xs => mRet (xs.map .d)
  | none => fun _ => .no
theorem denL_v {K : KW} {H : Hp} {μ : List Addr} : ∀ {xs : List PyData} {vs : List V}, DenL K H xs vs → VDenL K H μ (xs.map .d) vs
  | [], vs, h => by
    simp only [DenL] at h
    subst h
    exact .nil
  | x :: xs, vs, h => by
    simp only [DenL] at h
    obtain ⟨v, r, rfl, d, t⟩ := h
    exact .cons d (denL_v t)
theorem bItems_sq {H : Hp} {K : KW} {μ : List Addr} {y : BV} {xs : List PyData} {w : V} (d : BDen K H μ y w) (e : bItems y = some xs) : ∃ a vs, w = .ref a ∧ (SqT K.K H a vs ∨ SqL K.K H a vs) ∧ DenL K H xs vs := by
  cases y with
  | c x =>
    cases x with
    | d x =>
      cases x with
      | tuple ys =>
        cases e
        have d : Den K H (.tuple xs) w := d
        simp only [Den] at d
        obtain ⟨a, vs, e, q, dl⟩ := d
        exact ⟨a, vs, e, .inl q, dl⟩
      | list ys =>
        cases e
        have d : Den K H (.list xs) w := d
        simp only [Den] at d
        obtain ⟨a, vs, e, q, dl⟩ := d
        exact ⟨a, vs, e, .inr q.sq, dl⟩
      | none => cases e
      | bool _ => cases e
      | int _ => cases e
      | str _ => cases e
      | dict _ => cases e
    | r _ => cases e
    | o _ => cases e
  | l ys =>
    cases e
    obtain ⟨a, vs, e, h, dl⟩ := d
    exact ⟨a, vs, e, .inr (SqL.of h), dl⟩
  | k _ => cases e
def mStar (ma : Mo BV) (mr : Mo (List CV)) : Mo (List CV) := mBind ma fun y => mBind (itemsOf y) fun xs => mBind mr fun ys => mRet (xs ++ ys)
theorem ca_star {es : List Expr} {p : Pos} {ma : Mo BV} {mr : Mo (List CV)} (ha : CB X N e ma) (hr : CA X N es mr) (hs : starEach (.Starred e p :: es) X.env = (true, eval e X.env) :: starEach es X.env := by rfl) : CA X N (.Starred e p :: es) (mStar ma mr) := by
  refine ⟨fun pos pins s σ H Q I h => (StX.pa_star ha hr hs).run pos pins s σ H Q I ?_⟩
  obtain ⟨μ, c, R, p⟩ := h
  refine ⟨μ, c, R, (RunAt.bind p).imp fun y μ1 c1 H1 a b r q v d => ?_⟩
  have q := RunAt.bind q
  unfold itemsOf at q
  cases hb : bItems y with
  | none =>
    rw [hb] at q
    exact q.elim
  | some xs =>
    rw [hb] at q
    obtain ⟨p, vs, rfl, sq, dl⟩ := bItems_sq d hb
    have q := RunAt.ret q H1 (Fz.refl _) r
    refine ⟨p, vs, rfl, sq, μ1, c1, r, (RunAt.bind q).imp fun ys μ2 c2 H2 a2 b2 r2 q2 ws d2 => ?_⟩
    refine q2.ret H2 (Fz.refl _) r2 _ ?_
    have h1 : VDenL (kwOf X) H2 μ2 (xs.map .d) vs := denL_v (DenL.mono b2 _ _ dl)
    exact paired_app h1 d2
def asD : List CV → Option (List PyData)
  | [] => some []
  | .d x :: r => (asD r).map (x :: ·)
  | _ :: _ => none
theorem asD_den {K : KW} {H : Hp} {μ : List Addr} : ∀ {xs : List CV} {ys : List PyData} {vs : List V}, asD xs = some ys → VDenL K H μ xs vs → DenL K H ys vs
  | [], ys, vs, e, h => by
    cases e
    cases h
    exact .nil
  | .d x :: r, ys, vs, e, h => by
    unfold asD at e
    cases hr : asD r with
    | none =>
      rw [hr] at e
      cases e
    | some zs =>
      rw [hr] at e
      cases e
      cases h with
      | cons h1 h2 => exact .cons h1 (asD_den hr h2)
  | .r _ :: _, _, _, e, _ => by cases e
  | .o _ :: _, _, _, e, _ => by cases e
def mkT (xs : List CV) : Option CV := match asD xs with
  | some ys => if ys.length ≤ 16777216 then some (.d (.tuple ys)) else none
  | none => none
def mTup (m : Mo (List CV)) : Mo CV := mBind m fun xs => mOpt (mkT xs)
theorem ce_tup {es : List Expr} {k : Nat} {m : Mo (List CV)} (h : CA X N es m) : CE X N (.Tuple es k pos) (mTup m) :=
  PE.tm (pe_tup h) fun σ H Q ⟨μ, c, R, p⟩ => ⟨μ, c, R, (RunAt.bind p).imp fun xs μ1 c1 H1 a b r q vs d => by
    obtain ⟨z, e, q⟩ := RunAt.opt q
    unfold mkT at e
    cases hd : asD xs with
    | none =>
      rw [hd] at e
      cases e
    | some ys =>
      rw [hd] at e
      dsimp only at e
      by_cases hl : ys.length ≤ 16777216
      · rw [if_pos hl] at e
        cases e
        have dl := asD_den hd d
        refine ⟨by rw [dl.length, sizeLine_eq]; exact hl, fun p hp => ?_⟩
        exact q _ (Fz.same (same_new hp)) (r.same (same_new hp)) _ (den_tup (DenL.mono (Fz.same (same_new hp)) _ _ dl) (SqT.of upd_same))
      · rw [if_neg hl] at e
        cases e⟩
def mkL (xs : List CV) : Option (List PyData) := match asD xs with
  | some ys => if ys.length ≤ 16777216 then some ys else none
  | none => none
def mLst (m : Mo (List CV)) : Mo (List PyData) := mBind m fun xs => mOpt (mkL xs)
theorem cf_lst {es : List Expr} {m : Mo (List CV)} (h : CA X N es m) : CF X N (.List es pos) (mLst m) :=
  PE.tm (pe_lst h) fun σ H Q ⟨μ, c, R, p⟩ => ⟨μ, c, R, (RunAt.bind p).imp fun xs μ1 c1 H1 a b r q vs d => by
    obtain ⟨z, e, q⟩ := RunAt.opt q
    unfold mkL at e
    cases hd : asD xs with
    | none =>
      rw [hd] at e
      cases e
    | some ys =>
      rw [hd] at e
      dsimp only at e
      by_cases hl : ys.length ≤ 16777216
      · rw [if_pos hl] at e
        cases e
        have dl := asD_den hd d
        refine ⟨by rw [dl.length, sizeLine_eq]; exact hl, fun p hp => ?_⟩
        exact q H1 (Fz.refl _) r p vs hp dl
      · rw [if_neg hl] at e
        cases e⟩
end
end Cl

set_option Elab.async false
set_option maxRecDepth 100000
set_option maxHeartbeats 2000000
namespace Cl
open PySem PySem.Spec PyProof.Rows L2
section
variable {X : Cx} {N : Wn} {e a b : Expr} {pos : Pos}
/-! ### subscripts -/
def pIx (y : BV) (i : Int) (hp : List CO) : Option CV := match y with
  | .c (.d (.tuple xs)) => (atI xs i).map .d
  | .c (.d (.list xs)) => (atI xs i).map .d
  | .c (.d (.str t)) => if t.length ≤ 16777216 then (atI t.cps.toList i).map fun k => .d (.str ⟨#[k]⟩) else none
  | .l xs => (atI xs i).map .d
  | .c (.r n) => match hp[n]? with
    | some (.lst xs) => atI xs i
    | _ => none
  | _ => none
def gIx (y : BV) (x : CV) : Mo CV := fun c => match x with
  | .d (.int i) => match pIx y i c.hp with
    | some z => .ok z c
    | none => .no
  | _ => .no
theorem gIx_ok {y : BV} {x : CV} {μ : List Addr} {c : CS} {σ : LSt} {H : Hp} {W : WX} {G : Gh} {P : CV → List Addr → CS → Hp → Prop} (p : RunAt G W (gIx y x) μ c σ H P) : ∃ i z, x = .d (.int i) ∧ pIx y i c.hp = some z ∧ ∀ H1, Fz H H1 → Rel G μ c σ H1 → P z μ c H1 := by
  unfold RunAt gIx at p
  cases x with
  | d x =>
    cases x with
    | int i =>
      dsimp only at p
      cases h : pIx y i c.hp with
      | none =>
        rw [h] at p
        exact p.elim
      | some z =>
        rw [h] at p
        exact ⟨i, z, rfl, h, fun H1 f r => p μ H1 (List.prefix_refl _) f r⟩
    | none => exact p.elim
    | bool _ => exact p.elim
    | str _ => exact p.elim
    | list _ => exact p.elim
    | tuple _ => exact p.elim
    | dict _ => exact p.elim
  | r _ => exact p.elim
  | o _ => exact p.elim
theorem atI_rel {K : KW} {H : Hp} {xs : List PyData} {vs : List V} {i : Int} {x : PyData} (d : DenL K H xs vs) (h : atI xs i = some x) : ∃ v, atI vs i = some v ∧ Den K H x v := by
  unfold atI at h ⊢
  rw [d.length]
  cases hn : ixN xs.length i with
  | none =>
    rw [hn] at h
    cases h
  | some j =>
    rw [hn] at h
    exact DenL.get d h
theorem paired_get {α β : Type} {F : α → β → Prop} : ∀ {l1 : List α} {l2 : List β} {i : Nat} {x : α}, Paired F l1 l2 → l1[i]? = some x → ∃ y, l2[i]? = some y ∧ F x y
  | _, _, _, _, .nil, e => by simp at e
  | _, _, 0, _, .cons h _, e => by
    simp at e
    subst e
    exact ⟨_, rfl, h⟩
  | _, _, i + 1, _, .cons _ t, e => paired_get (i := i) t (by simpa using e)
theorem atI_relV {K : KW} {H : Hp} {μ : List Addr} {xs : List CV} {vs : List V} {i : Int} {x : CV} (d : VDenL K H μ xs vs) (h : atI xs i = some x) : ∃ v, atI vs i = some v ∧ VDen K H μ x v := by
  unfold atI at h ⊢
  rw [← Paired.length d]
  cases hn : ixN xs.length i with
  | none =>
    rw [hn] at h
    cases h
  | some j =>
    rw [hn] at h
    exact paired_get d h
theorem ix_run {value slice : Expr} {pins : List (Addr × Obj)} {s : Shared} {σ : LSt} {H : Hp} {μ : List Addr} {c : CS} {y : BV} {i : Int} {z : CV} {v w : V} {v' w' : Value} {Q : VK} (I : Inv X pins σ H s) (R : Rel (gh X N) μ c σ H) (dy : BDen (kwOf X) H μ y v) (dw : w = .int i) (r1 : RelV v v') (r2 : RelV w w')
    (h : pIx y i c.hp = some z) (q : ∀ zv, VDen (kwOf X) H μ z zv → Q zv H) (hs : subscripted slice false v' w' = operate [v', w'] (getItem v' w')) : wpAny (model X.prog X.w) X.A (subscriptTail value slice v' w') (EP X pins σ Q) X.xe s := by
  subst dw
  have tup : ∀ xs, Den (kwOf X) H (.tuple xs) v → (atI xs i).map CV.d = some z → wpAny (model X.prog X.w) X.A (subscriptTail value slice v' w') (EP X pins σ Q) X.xe s := fun xs d e => by
    simp only [Den] at d
    obtain ⟨a, vs, rfl, sq, dl⟩ := d
    cases hx : atI xs i with
    | none =>
      rw [hx] at e
      cases e
    | some x =>
      rw [hx] at e
      cases e
      obtain ⟨u, hu, du⟩ := atI_rel dl hx
      exact ix_tup value slice pins s σ H _ _ v' w' Q I r1 r2 ⟨a, vs, i, u, rfl, rfl, sq, hu, q u du⟩ hs
  have lst : ∀ xs a vs, v = .ref a → SqL X.K H a vs → DenL (kwOf X) H xs vs → (atI xs i).map CV.d = some z → wpAny (model X.prog X.w) X.A (subscriptTail value slice v' w') (EP X pins σ Q) X.xe s := fun xs a vs ev sq dl e => by
    subst ev
    cases hx : atI xs i with
    | none =>
      rw [hx] at e
      cases e
    | some x =>
      rw [hx] at e
      cases e
      obtain ⟨u, hu, du⟩ := atI_rel dl hx
      exact ix_list value slice pins s σ H _ _ v' w' Q I r1 r2 ⟨a, vs, i, u, rfl, rfl, sq, hu, q u du⟩ hs
  cases y with
  | c x =>
    cases x with
    | d x =>
      cases x with
      | tuple xs => exact tup xs dy h
      | list xs =>
        have dy : Den (kwOf X) H (.list xs) v := dy
        simp only [Den] at dy
        obtain ⟨a, vs, e, sq, dl⟩ := dy
        exact lst xs a vs e sq.sq dl h
      | str t =>
        have dy : Den (kwOf X) H (.str t) v := dy
        simp only [Den] at dy
        subst dy
        unfold pIx at h
        dsimp only at h
        by_cases hl : t.length ≤ 16777216
        · rw [if_pos hl] at h
          cases hx : atI t.cps.toList i with
          | none =>
            rw [hx] at h
            cases h
          | some k =>
            rw [hx] at h
            cases h
            exact ix_str value slice pins s σ H _ _ v' w' Q I r1 r2 ⟨t, i, k, rfl, rfl, by rw [sizeLine_eq]; exact hl, hx, q _ (den_str (K := kwOf X) (H := H) _)⟩ hs
        · rw [if_neg hl] at h
          cases h
      | none => cases h
      | bool _ => cases h
      | int _ => cases h
      | dict _ => cases h
    | r n =>
      unfold pIx at h
      dsimp only at h
      cases hn : c.hp[n]? with
      | none =>
        rw [hn] at h
        cases h
      | some o =>
        rw [hn] at h
        cases o with
        | lst xs =>
          obtain ⟨a, ho, e1, e2, vs, rfl, dl⟩ := R.hp n _ hn
          obtain ⟨a', e3, rfl⟩ := dy
          rw [e1] at e3
          cases e3
          obtain ⟨u, hu, du⟩ := atI_relV dl h
          exact ix_list value slice pins s σ H _ _ v' w' Q I r1 r2 ⟨a, vs, i, u, rfl, rfl, SqL.of e2, hu, q u du⟩ hs
        | dic _ => cases h
        | ins _ _ => cases h
    | o _ => cases h
  | l xs =>
    obtain ⟨a, vs, e, hh, dl⟩ := dy
    exact lst xs a vs e (SqL.of hh) dl h
  | k _ => cases h
def mIx (ma mb : Mo CV) : Mo CV := mBind ma fun x => mBind mb fun y => gIx (.c x) y
theorem ce_ix {ma mb : Mo CV} (ha : CE X N a ma) (hb : CE X N b mb) (hs : PlainIx b := by exact fun _ _ => rfl) : CE X N (.Subscript a b pos) (mIx ma mb) := by
  refine ⟨fun pins s σ H Q I h => ?_⟩
  obtain ⟨μ, c, R, p⟩ := h
  refine Subscript_ (run2 (f := subscriptTail a b) ha hb I R p fun s2 H2 μ2 c2 x y v w v' w' I2 R2 d1 d2 r1 r2 q => ?_)
  obtain ⟨i, z, rfl, e, q⟩ := gIx_ok q
  have d2 : Den (kwOf X) H2 (.int i) w := d2
  simp only [Den] at d2
  exact ix_run (y := .c x) I2 R2 d1 d2 r1 r2 e (q H2 (Fz.refl _) R2) (hs _ _)
/-- x[b], x a name: x is read behind b (it stands where it stood) -/
def mIxN (i : Nat) (mb : Mo CV) : Mo CV := mBind (mPeek i) fun _ => mBind mb fun y => mBind (mPeek i) fun x => gIx x y
/-- a name that is read on the spot is there -/
theorem peek_at {i : Nat} {μ : List Addr} {c : CS} {σ : LSt} {H : Hp} {P : BV → List Addr → CS → Hp → Prop} (R : Rel (gh X N) μ c σ H) (q : RunAt (gh X N) N.W (mPeek i) μ c σ H P) :
    ∃ v y, σ[i]? = some (some v) ∧ BDen (kwOf X) H μ y v ∧ P y μ c H := by
  unfold RunAt mPeek at q
  cases e : c.sl[i]? with
  | none =>
    rw [e] at q
    exact q.elim
  | some sl =>
    rw [e] at q
    cases sl with
    | un => exact q.elim
    | v u =>
      obtain ⟨u', eu, du⟩ := R.vl i u e
      exact ⟨u', .c u, eu, du, q μ H (List.prefix_refl _) (Fz.refl _) R⟩
    | ol xs =>
      obtain ⟨a, ho, eu, e2, ⟨vs, e3, dl⟩, _⟩ := R.ow i _ e rfl
      subst e3
      exact ⟨.ref a, .l xs, eu, ⟨a, vs, rfl, e2, dl⟩, q μ H (List.prefix_refl _) (Fz.refl _) R⟩
    | od kvs =>
      obtain ⟨a, ho, eu, e2, e3, _⟩ := R.ow i _ e rfl
      exact ⟨.ref a, .k kvs, eu, ⟨a, ho, rfl, e2, e3⟩, q μ H (List.prefix_refl _) (Fz.refl _) R⟩
theorem peek_there {α : Type} {i : Nat} {f : BV → Mo α} {μ : List Addr} {c : CS} {σ : LSt} {H : Hp} {P : α → List Addr → CS → Hp → Prop} (R : Rel (gh X N) μ c σ H) (p : RunAt (gh X N) N.W (mBind (mPeek i) f) μ c σ H P) :
    ∃ v y, σ[i]? = some (some v) ∧ BDen (kwOf X) H μ y v ∧ RunAt (gh X N) N.W (f y) μ c σ H P := peek_at R p.bind
theorem ce_ixn (i : Nat) {x : Str} {pos' : Pos} {mb : Mo CV} (hb : CE X N b mb) (hN : X.N[i]? = some x := by rfl) (hv : Vis X.env.scope x := by first | exact Or.inl rfl | exact Or.inr (Or.inl rfl) | exact Or.inr (Or.inr rfl)) (hd : (x == ("__debug__" : Str)) = false := by decide)
    (hcd : (x == ("__classdict__" : Str)) = false := by decide) (hs : PlainIx b := by exact fun _ _ => rfl) : CE X N (.Subscript (.Name x pos') b pos) (mIxN i mb) := by
  refine ⟨fun pins s σ H Q I h => ?_⟩
  obtain ⟨μ, c, R, p⟩ := h
  obtain ⟨v, y0, hv0, _, p⟩ := peek_there R p
  refine Subscript_ (thn ((pe_var (X := X) (i := i) hN hv hd hcd).run pins s σ H (fun v1 H1 => v1 = v ∧ H1 = H) I ⟨v, hv0, rfl, rfl⟩) fun v' s1 ⟨v1, H1, I1, r1, e1, e2⟩ => ?_)
  subst e1 e2
  refine thn (use_e hb I1 R p.bind) fun w' s2 ⟨w, y, μ2, c2, H2, I2, r2, d2, R2, p2, f2, q2⟩ => ?_
  obtain ⟨v2, y2, hv2, db, q⟩ := peek_there R2 q2
  rw [hv0] at hv2
  cases hv2
  obtain ⟨i, z, rfl, e, q⟩ := gIx_ok q
  have d2 : Den (kwOf X) H2 (.int i) w := d2
  simp only [Den] at d2
  exact ix_run I2 R2 db d2 r1 r2 e (q H2 (Fz.refl _) R2) (hs _ _)

/-! ### slices -/
def cutP (xs : List PyData) (lo hi : Option Int) : List PyData := (xs.drop (HT.sIx xs.length 0 lo)).take (HT.sIx xs.length xs.length hi - HT.sIx xs.length 0 lo)
def mPart (m : Mo CV) : Mo (Option Int) := mBind m fun x => match x with
  | .d (.int i) => mRet (some i)
  | _ => fun _ => .no
def tPc (G : Gh) (W : WX) (m : Mo (Option Int)) : TO := fun σ H Q => ∃ μ c, Rel G μ c σ H ∧ RunAt G W m μ c σ H fun o _ _ H1 => Q o H1
abbrev CP (X : Cx) (N : Wn) (e : Option Expr) (m : Mo (Option Int)) : Prop := PO X e (tPc (gh X N) N.W m)
theorem cp_none : CP X N none (mRet none) := by
  refine ⟨fun pins s σ H Q I h => po_none.run pins s σ H Q I ?_⟩
  obtain ⟨μ, c, R, p⟩ := h
  exact p.ret H (Fz.refl _) R
theorem cp_some {m : Mo CV} (h : CE X N e m) : CP X N (some e) (mPart m) := by
  refine ⟨fun pins s σ H Q I hq => (po_some h).run pins s σ H Q I ?_⟩
  obtain ⟨μ, c, R, p⟩ := hq
  refine ⟨μ, c, R, (RunAt.bind p).imp fun x μ1 c1 H1 a b r q v d => ?_⟩
  cases x with
  | d x =>
    cases x with
    | int i =>
      have d : Den (kwOf X) H1 (.int i) v := d
      simp only [Den] at d
      exact ⟨i, d, RunAt.ret (a := some i) q H1 (Fz.refl _) r⟩
    | none => exact q.elim
    | bool _ => exact q.elim
    | str _ => exact q.elim
    | list _ => exact q.elim
    | tuple _ => exact q.elim
    | dict _ => exact q.elim
  | r _ => exact q.elim
  | o _ => exact q.elim
def pSl (x : CV) (lo hi : Option Int) : Option PyData := match x with
  | .d (.tuple xs) => some (.tuple (cutP xs lo hi))
  | .d (.str t) => if t.length ≤ 16777216 then some (.str (cutS t lo hi)) else none
  | _ => none
/-- x[lo:hi] of a tuple, of a text -/
def mSl (ma : Mo CV) (ml mh : Mo (Option Int)) : Mo CV := mBind ma fun x => mBind ml fun lo => mBind mh fun hi => mOpt ((pSl x lo hi).map .d)
theorem cut_den {K : KW} {H : Hp} {xs : List PyData} {vs : List V} (d : DenL K H xs vs) (lo hi : Option Int) : DenL K H (cutP xs lo hi) (cutV vs lo hi) := by
  unfold cutP cutV
  rw [d.length]
  exact DenL.take _ (DenL.drop _ d)
theorem cutP_whole {xs : List PyData} {lo hi : Option Int} (h1 : HT.sIx xs.length 0 lo = 0) (h2 : HT.sIx xs.length xs.length hi = xs.length) : cutP xs lo hi = xs := by
  unfold cutP
  rw [h1, h2, List.drop_zero, Nat.sub_zero, List.take_length]
theorem slr_c {lo hi : Option Int} {x : CV} {z : PyData} {μ : List Addr} {H : Hp} {v : V} {Q : VK} (d : VDen (kwOf X) H μ x v) (e : pSl x lo hi = some z) (q : ∀ H1 zv, Same H H1 → Den (kwOf X) H1 z zv → Q zv H1) : rSlA X.K v lo hi H Q ∨ rSlS v lo hi H Q := by
  cases x with
  | d x =>
    cases x with
    | tuple xs =>
      left
      cases e
      have d : Den (kwOf X) H (.tuple xs) v := d
      simp only [Den] at d
      obtain ⟨a, vs, rfl, sq, dl⟩ := d
      refine ⟨a, vs, rfl, sq, fun w => ?_, fun _ p hp => ?_⟩
      · rw [dl.length] at w
        rw [cutP_whole w.1 w.2] at q
        exact q H _ (Same.refl H) (den_tup dl sq)
      · exact q _ _ (same_new hp) (den_tup (DenL.mono (Fz.same (same_new hp)) _ _ (cut_den dl lo hi)) (SqT.of upd_same))
    | str t =>
      right
      unfold pSl at e
      dsimp only at e
      by_cases hl : t.length ≤ 16777216
      · rw [if_pos hl] at e
        cases e
        have d : Den (kwOf X) H (.str t) v := d
        simp only [Den] at d
        exact ⟨t, d, by rw [sizeLine_eq]; exact hl, q H _ (Same.refl H) (den_str _)⟩
      · rw [if_neg hl] at e
        cases e
    | none => cases e
    | bool _ => cases e
    | int _ => cases e
    | list _ => cases e
    | dict _ => cases e
  | r _ => cases e
  | o _ => cases e
theorem ce_sl {lo hi : Option Expr} {p2 : Pos} {ma : Mo CV} {ml mh : Mo (Option Int)} (ha : CE X N a ma) (hl : CP X N lo ml) (hh : CP X N hi mh) : CE X N (.Subscript a (.Slice lo hi none p2) pos) (mSl ma ml mh) := by
  refine PE.tm (pe_slice (sl_tupA.or sl_str) ha hl hh) fun σ H Q ⟨μ, c, R, p⟩ => ⟨μ, c, R, (RunAt.bind p).imp fun x μ1 c1 H1 a1 b1 r1 q1 v d => ⟨μ1, c1, r1, (RunAt.bind q1).imp fun l μ2 c2 H2 a2 b2 r2 q2 => ⟨μ2, c2, r2, (RunAt.bind q2).imp fun h μ3 c3 H3 a3 b3 r3 q3 => ?_⟩⟩⟩
  obtain ⟨z, e, q⟩ := RunAt.opt q3
  cases hz : pSl x l h with
  | none =>
    rw [hz] at e
    cases e
  | some z' =>
    rw [hz] at e
    cases e
    exact slr_c ((d.mono b2 a2).mono b3 a3) hz fun H4 zv sm dz => q H4 (Fz.same sm) (r3.same sm) zv dz
/-- x[lo:hi] of a list: a new list -/
def mSlL (ma : Mo CV) (ml mh : Mo (Option Int)) : Mo (List PyData) := mBind ma fun x => mBind ml fun lo => mBind mh fun hi => match x with
  | .d (.list xs) => mRet (cutP xs lo hi)
  | _ => fun _ => .no
theorem cf_sl {lo hi : Option Expr} {p2 : Pos} {ma : Mo CV} {ml mh : Mo (Option Int)} (ha : CE X N a ma) (hl : CP X N lo ml) (hh : CP X N hi mh) : CF X N (.Subscript a (.Slice lo hi none p2) pos) (mSlL ma ml mh) := by
  refine PE.tm (pe_slice sl_list ha hl hh) fun σ H Q ⟨μ, c, R, p⟩ => ⟨μ, c, R, (RunAt.bind p).imp fun x μ1 c1 H1 a1 b1 r1 q1 v d => ⟨μ1, c1, r1, (RunAt.bind q1).imp fun l μ2 c2 H2 a2 b2 r2 q2 => ⟨μ2, c2, r2, (RunAt.bind q2).imp fun h μ3 c3 H3 a3 b3 r3 q3 => ?_⟩⟩⟩
  cases x with
  | d x =>
    cases x with
    | list xs =>
      have d : Den (kwOf X) H1 (.list xs) v := d
      have d := Den.mono b3 _ _ (Den.mono b2 _ _ d)
      simp only [Den] at d
      obtain ⟨a, vs, rfl, sq, dl⟩ := d
      exact ⟨a, vs, rfl, sq.sq, fun p hp => RunAt.ret (a := cutP xs l h) q3 H3 (Fz.refl _) r3 p _ hp (cut_den dl l h)⟩
    | none => exact q3.elim
    | bool _ => exact q3.elim
    | int _ => exact q3.elim
    | str _ => exact q3.elim
    | tuple _ => exact q3.elim
    | dict _ => exact q3.elim
  | r _ => exact q3.elim
  | o _ => exact q3.elim
end
end Cl

set_option Elab.async false
set_option maxRecDepth 100000
set_option maxHeartbeats 2000000
namespace Cl
open PySem PySem.Spec PyProof.Rows L2
/-! ### statements -/
def sBind {α : Type} (m : Mo α) (f : α → MS) : MS := fun c => match m c with
  | .ok a c1 => f a c1
  | .ex e c1 => .ex e c1
  | .no => .no
def sNx : MS := fun c => .nx c
def sSeq (a b : MS) : MS := fun c => match a c with
  | .nx c1 => b c1
  | .rt x c1 => .rt x c1
  | .bk c1 => .bk c1
  | .ct c1 => .ct c1
  | .ex e c1 => .ex e c1
  | .no => .no
section
variable {G : Gh} {W : WX} {α : Type} {μ μ1 : List Addr} {c : CS} {σ : LSt} {H H1 : Hp} {D : Ends}
theorem RunS.up {r : RS} (h : RunS G W r μ H D) (p : μ <+: μ1) (f : Fz H H1) : RunS G W r μ1 H1 D := by
  cases r with
  | nx c1 => exact fun μ2 σ1 H2 a b R => h μ2 σ1 H2 (p.trans a) (f.trans b) R
  | rt x c1 => exact fun μ2 σ1 H2 v a b R => h μ2 σ1 H2 v (p.trans a) (f.trans b) R
  | bk c1 => exact fun μ2 σ1 H2 a b R => h μ2 σ1 H2 (p.trans a) (f.trans b) R
  | ct c1 => exact fun μ2 σ1 H2 a b R => h μ2 σ1 H2 (p.trans a) (f.trans b) R
  | ex e c1 => exact fun μ2 σ1 cls d H2 a b R => h μ2 σ1 cls d H2 (p.trans a) (f.trans b) R
  | no => exact h
theorem RunAt.up {m : Mo α} {P : α → List Addr → CS → Hp → Prop} (h : RunAt G W m μ c σ H P) (p : μ <+: μ1) (f : Fz H H1) : RunAt G W m μ1 c σ H1 P := by
  unfold RunAt at h ⊢
  cases e : m c with
  | ok a c1 =>
    rw [e] at h
    exact fun μ2 H2 a b R => h μ2 H2 (p.trans a) (f.trans b) R
  | ex x c1 =>
    rw [e] at h
    exact fun μ2 cls d H2 a b R => h μ2 cls d H2 (p.trans a) (f.trans b) R
  | no =>
    rw [e] at h
    exact h
theorem RunS.bind {m : Mo α} {f : α → MS} (h : RunS G W (sBind m f c) μ H D) : RunAt G W m μ c σ H fun a μ1 c1 H1 => RunS G W (f a c1) μ1 H1 D := by
  unfold sBind at h
  unfold RunAt
  cases e : m c with
  | ok a c1 =>
    rw [e] at h
    exact fun μ1 H1 p q r => RunS.up h p q
  | ex x c1 =>
    rw [e] at h
    exact fun μ1 cls d H1 p q r => h μ1 σ cls d H1 p q r
  | no =>
    rw [e] at h
    exact h
theorem RunS.seq {a b : MS} (h : RunS G W (sSeq a b c) μ H D) : RunS G W (a c) μ H { D with nx := tSt G W b D } := by
  unfold sSeq at h
  cases e : a c with
  | nx c1 =>
    rw [e] at h
    exact fun μ1 σ1 H1 p q r => ⟨μ1, c1, r, RunS.up h p q⟩
  | rt x c1 =>
    rw [e] at h
    exact h
  | bk c1 =>
    rw [e] at h
    exact h
  | ct c1 =>
    rw [e] at h
    exact h
  | ex x c1 =>
    rw [e] at h
    exact h
  | no =>
    rw [e] at h
    exact h
theorem RunS.nx' {c : CS} (h : RunS G W (.nx c) μ H D) (R : Rel G μ c σ H) : D.nx σ H := h μ σ H (List.prefix_refl _) (Fz.refl _) R
end
section
variable {X : Cx} {N : Wn} {e a b : Expr} {pos : Pos} {st : Stmt} {rest : List Stmt}
theorem css_nil : CSs X N [] sNx := PSs.tm pss_nil fun D σ H ⟨μ, c, R, p⟩ => p.nx' R
theorem css_cons {m r : MS} (h1 : CS1 X N st m) (h2 : CSs X N rest r) : CSs X N (st :: rest) (sSeq m r) := PSs.tm (pss_cons h1 h2) fun D σ H ⟨μ, c, R, p⟩ => ⟨μ, c, R, p.seq⟩
theorem css_one {m : MS} (h1 : CS1 X N st m) : CSs X N [st] m := pss_one h1
def sBk : MS := fun c => .bk c
def sCt : MS := fun c => .ct c
theorem cs_pass : CS1 X N (.Pass pos) sNx := PS.tm ps_pass fun D σ H ⟨μ, c, R, p⟩ => p.nx' R
theorem cs_break : CS1 X N (.Break pos) sBk := PS.tm ps_break fun D σ H ⟨μ, c, R, p⟩ => p μ σ H (List.prefix_refl _) (Fz.refl _) R
theorem cs_continue : CS1 X N (.Continue pos) sCt := PS.tm ps_continue fun D σ H ⟨μ, c, R, p⟩ => p μ σ H (List.prefix_refl _) (Fz.refl _) R
def sDrop (m : Mo CV) : MS := sBind m fun _ => sNx
theorem cs_expr {m : Mo CV} (h : CE X N e m) (hs : swapsWith e none pos.line X.env = pure false := by rfl) : CS1 X N (.Expr e pos) (sDrop m) :=
  PS.tm (ps_expr h hs) fun D σ H ⟨μ, c, R, p⟩ => ⟨μ, c, R, (RunS.bind p).imp fun x μ1 c1 H1 a b r q v d => q.nx' r⟩
def sRet (m : Mo CV) : MS := sBind m fun x c => .rt x c
theorem cs_ret {m : Mo CV} (h : CE X N e m) : CS1 X N (.Return (some e) pos) (sRet m) :=
  PS.tm (ps_ret h) fun D σ H ⟨μ, c, R, p⟩ => ⟨μ, c, R, (RunS.bind p).imp fun x μ1 c1 H1 a b r q v d => q μ1 σ H1 v (List.prefix_refl _) (Fz.refl _) r d⟩
def sRetN : MS := fun c => .rt (.d .none) c
theorem cs_retN : CS1 X N (.Return none pos) sRetN := PS.tm ps_retN fun D σ H ⟨μ, c, R, p⟩ => p μ σ H .non (List.prefix_refl _) (Fz.refl _) R (den_none (K := kwOf X) (H := H))
def sIf (mc : Mo Bool) (a b : MS) : MS := sBind mc fun k => if k then a else b
theorem cs_if {c : Expr} {A B : List Stmt} {mc : Mo Bool} {m1 m2 : MS} (hc : CT X N c mc) (h1 : CSs X N A m1) (h2 : CSs X N B m2) : CS1 X N (.If c A B pos) (sIf mc m1 m2) :=
  PS.tm (ps_if hc h1 h2) fun D σ H ⟨μ, c, R, p⟩ => ⟨μ, c, R, (RunS.bind p).imp fun k μ1 c1 H1 a b r q => by
    cases k with
    | true => exact iteT ⟨μ1, c1, r, q⟩
    | false => exact iteF ⟨μ1, c1, r, q⟩⟩
/-! ### name = value -/
def cSet (i : Nat) (s : Sl) (c : CS) : CS := { c with sl := c.sl.set i s }
def sSet (i : Nat) (m : Mo CV) : MS := sBind m fun x c => .nx (cSet i (.v x) c)
def sOwn (i : Nat) (m : Mo (List PyData)) : MS := sBind m fun xs c => .nx (cSet i (.ol xs) c)
theorem set_tm {i : Nat} {m : Mo CV} (D : Ends) (σ : LSt) (H : Hp) (h : tSt (gh X N) N.W (sSet i m) D σ H) : tAsg (tM (gh X N) N.W m) (gName i) D σ H := by
  obtain ⟨μ, c, R, p⟩ := h
  exact ⟨μ, c, R, (RunS.bind p).imp fun x μ1 c1 H1 a b r q v d => q μ1 _ H1 (List.prefix_refl _) (Fz.refl _) (r.set d)⟩
theorem own_tm {i : Nat} {m : Mo (List PyData)} (D : Ends) (σ : LSt) (H : Hp) (h : tSt (gh X N) N.W (sOwn i m) D σ H) : tAsg (tF (gh X N) N.W m) (gName i) D σ H := by
  obtain ⟨μ, c, R, p⟩ := h
  refine ⟨μ, c, R, (RunS.bind p).imp fun xs μ1 c1 H1 a b r q p vs hp dl => ?_⟩
  exact q μ1 _ _ (List.prefix_refl _) (Fz.same (same_new hp)) (r.setOwn (s := .ol xs) (ho := .lst vs) rfl hp ⟨vs, rfl, dl⟩)
theorem cs_set (i : Nat) {x : Str} {m : Mo CV} {pos' : Pos} (he : CE X N e m) (hN : X.N.Nodup) (hi : X.N[i]? = some x := by rfl) (hx : Loc X.env.scope x := by first | exact Or.inl rfl | exact Or.inr rfl)
    (hs : swapsWith e (some (.Name x pos')) pos.line X.env = pure false := by rfl) (hf : X.fn x = true ∨ X.env.scope.names.lookup x = some .local := by first | exact .inl rfl | exact .inr rfl) : CS1 X N (.Assign [.Name x pos'] e pos) (sSet i m) :=
  PS.tm (ps_set (i := i) hN hi hx he hs hf) set_tm
theorem cs_own (i : Nat) {x : Str} {m : Mo (List PyData)} {pos' : Pos} (he : CF X N e m) (hN : X.N.Nodup) (hi : X.N[i]? = some x := by rfl) (hx : Loc X.env.scope x := by first | exact Or.inl rfl | exact Or.inr rfl)
    (hs : swapsWith e (some (.Name x pos')) pos.line X.env = pure false := by rfl) (hf : X.fn x = true ∨ X.env.scope.names.lookup x = some .local := by first | exact .inl rfl | exact .inr rfl) : CS1 X N (.Assign [.Name x pos'] e pos) (sOwn i m) :=
  PS.tm (ps_set (i := i) hN hi hx he hs hf) own_tm
/-! ### new objects of the clean heap -/
def cNew (o : CO) (c : CS) : CS := { c with hp := c.hp ++ [o] }
/-- a new list, to be changed: an object -/
def mNewL (m : Mo (List PyData)) : Mo CV := mBind m fun xs c => .ok (.r c.hp.length) (cNew (.lst (xs.map .d)) c)
theorem ce_newl {m : Mo (List PyData)} (h : CF X N e m) : CE X N e (mNewL m) := by
  refine PE.tm h fun σ H Q ⟨μ, c, R, p⟩ => ⟨μ, c, R, (RunAt.bind p).imp fun xs μ1 c1 H1 a b r q p vs hp dl => ?_⟩
  obtain ⟨R2, f2, p2⟩ := r.newHp (o := .lst (xs.map .d)) (ho := .lst vs) hp ⟨vs, rfl, denL_v (DenL.mono (Fz.same (same_new hp)) _ _ dl)⟩
  exact q _ _ p2 f2 R2 _ ⟨p, by rw [← r.hl, List.getElem?_append_right (Nat.le_refl _), Nat.sub_self]; rfl, rfl⟩
/-- a list display with objects in it -/
def mNewD (m : Mo (List CV)) : Mo CV := mBind m fun xs c => if xs.length ≤ 1000 then .ok (.r c.hp.length) (cNew (.lst xs) c) else .no
theorem ce_newd {es : List Expr} {m : Mo (List CV)} (h : CA X N es m) : CE X N (.List es pos) (mNewD m) :=
  PE.tm (pe_lst h) fun σ H Q ⟨μ, c, R, p⟩ => ⟨μ, c, R, (RunAt.bind p).imp fun xs μ1 c1 H1 a b r q vs d => by
    unfold RunAt at q
    dsimp only at q
    by_cases hl : xs.length ≤ 1000
    · rw [if_pos hl] at q
      have l := Paired.length d
      refine ⟨Nat.le_of_lt (small1000 (by omega)), fun p hp => ?_⟩
      have sm := same_new (o := .lst vs) hp
      obtain ⟨R2, f2, p2⟩ := r.newHp (o := .lst xs) (ho := .lst vs) hp ⟨vs, rfl, VDenL.mono (Fz.same sm) (List.prefix_append _ _) d⟩
      exact q _ _ p2 f2 R2 _ ⟨p, by rw [← r.hl, List.getElem?_append_right (Nat.le_refl _), Nat.sub_self]; rfl, rfl⟩
    · rw [if_neg hl] at q
      exact q.elim⟩
/-! ### lists changed -/
/-- the list that a name holds is changed: its items as values behind, and what is given back -/
def onList (i : Nat) (f : List PyData → Option (List PyData × PyData)) (g : List CV → Option (List CV × CV)) : Mo CV := fun c => match c.sl[i]? with
  | some (.ol xs) => match f xs with
    | some (ys, z) => .ok (.d z) (cSet i (.ol ys) c)
    | none => .no
  | some (.v (.r n)) => match c.hp[n]? with
    | some (.lst xs) => match g xs with
      | some (ys, z) => .ok z { c with hp := c.hp.set n (.lst ys) }
      | none => .no
    | _ => .no
  | _ => .no
/-- the object's list is changed -/
def onObj (o : CV) (g : List CV → Option (List CV × CV)) : Mo CV := fun c => match o with
  | .r n => match c.hp[n]? with
    | some (.lst xs) => match g xs with
      | some (ys, z) => .ok z { c with hp := c.hp.set n (.lst ys) }
      | none => .no
    | _ => .no
  | _ => .no
theorem onList_ok {i : Nat} {f : List PyData → Option (List PyData × PyData)} {g : List CV → Option (List CV × CV)} {μ : List Addr} {c : CS} {σ : LSt} {H : Hp} {v : V} {P : CV → List Addr → CS → Hp → Prop} (R : Rel (gh X N) μ c σ H) (hv : σ[i]? = some (some v)) (p : RunAt (gh X N) N.W (onList i f g) μ c σ H P) :
    ∃ a vs, v = .ref a ∧ H a = some (.lst vs) ∧ ((∃ xs ys z, f xs = some (ys, z) ∧ DenL (kwOf X) H xs vs ∧ ∀ ws H1, H1 = upd H a (.lst ws) → DenL (kwOf X) H1 ys ws → Rel (gh X N) μ (cSet i (.ol ys) c) σ H1 ∧ P (.d z) μ (cSet i (.ol ys) c) H1) ∨
      ∃ n xs ys z, g xs = some (ys, z) ∧ VDenL (kwOf X) H μ xs vs ∧ ∀ ws H1, H1 = upd H a (.lst ws) → VDenL (kwOf X) H1 μ ys ws → Rel (gh X N) μ { c with hp := c.hp.set n (.lst ys) } σ H1 ∧ P z μ { c with hp := c.hp.set n (.lst ys) } H1) := by
  unfold RunAt onList at p
  cases e : c.sl[i]? with
  | none =>
    rw [e] at p
    exact p.elim
  | some sl =>
    rw [e] at p
    cases sl with
    | un => exact p.elim
    | od _ => exact p.elim
    | ol xs =>
      obtain ⟨a, ho, e1, e2, ⟨vs, e3, dl⟩, e4, e5⟩ := R.ow i _ e rfl
      subst e3
      rw [hv] at e1
      cases e1
      dsimp only at p
      cases hf : f xs with
      | none =>
        rw [hf] at p
        exact p.elim
      | some r =>
        obtain ⟨ys, z⟩ := r
        rw [hf] at p
        refine ⟨a, vs, rfl, e2, .inl ⟨xs, ys, z, hf, dl, fun ws H1 eH d => ?_⟩⟩
        subst eH
        obtain ⟨R1, f1⟩ := R.chOwn (t := .ol ys) (ho := .lst ws) e rfl hv rfl ⟨ws, rfl, d⟩
        exact ⟨R1, p μ _ (List.prefix_refl _) f1 R1⟩
    | v x =>
      cases x with
      | d _ => exact p.elim
      | o _ => exact p.elim
      | r n =>
        dsimp only at p
        cases hn : c.hp[n]? with
        | none =>
          rw [hn] at p
          exact p.elim
        | some o =>
          rw [hn] at p
          cases o with
          | dic _ => exact p.elim
          | ins _ _ => exact p.elim
          | lst xs =>
            dsimp only at p
            obtain ⟨w, ew, a, ea, rfl⟩ := R.vl i _ e
            rw [hv] at ew
            cases ew
            obtain ⟨a', ho, e1, e2, vs, rfl, dl⟩ := R.hp n _ hn
            rw [ea] at e1
            cases e1
            cases hg : g xs with
            | none =>
              rw [hg] at p
              exact p.elim
            | some r =>
              obtain ⟨ys, z⟩ := r
              rw [hg] at p
              refine ⟨a, vs, rfl, e2, .inr ⟨n, xs, ys, z, hg, dl, fun ws H1 eH d => ?_⟩⟩
              subst eH
              obtain ⟨R1, f1⟩ := R.chHp (o' := .lst ys) (ho := .lst ws) ea ⟨ws, rfl, d⟩
              exact ⟨R1, p μ _ (List.prefix_refl _) f1 R1⟩
theorem onObj_ok {o : CV} {g : List CV → Option (List CV × CV)} {μ : List Addr} {c : CS} {σ : LSt} {H : Hp} {v : V} {P : CV → List Addr → CS → Hp → Prop} (R : Rel (gh X N) μ c σ H) (hv : VDen (kwOf X) H μ o v) (p : RunAt (gh X N) N.W (onObj o g) μ c σ H P) :
    ∃ a vs n xs ys z, v = .ref a ∧ H a = some (.lst vs) ∧ g xs = some (ys, z) ∧ VDenL (kwOf X) H μ xs vs ∧ ∀ ws H1, H1 = upd H a (.lst ws) → VDenL (kwOf X) H1 μ ys ws → Rel (gh X N) μ { c with hp := c.hp.set n (.lst ys) } σ H1 ∧ P z μ { c with hp := c.hp.set n (.lst ys) } H1 := by
  unfold RunAt onObj at p
  cases o with
  | d _ => exact p.elim
  | o _ => exact p.elim
  | r n =>
    dsimp only at p
    cases hn : c.hp[n]? with
    | none =>
      rw [hn] at p
      exact p.elim
    | some ob =>
      rw [hn] at p
      cases ob with
      | dic _ => exact p.elim
      | ins _ _ => exact p.elim
      | lst xs =>
        dsimp only at p
        obtain ⟨a, ea, rfl⟩ := hv
        obtain ⟨a', ho, e1, e2, vs, rfl, dl⟩ := R.hp n _ hn
        rw [ea] at e1
        cases e1
        cases hg : g xs with
        | none =>
          rw [hg] at p
          exact p.elim
        | some r =>
          obtain ⟨ys, z⟩ := r
          rw [hg] at p
          refine ⟨a, vs, n, xs, ys, z, rfl, e2, hg, dl, fun ws H1 eH d => ?_⟩
          subst eH
          obtain ⟨R1, f1⟩ := R.chHp (o' := .lst ys) (ho := .lst ws) ea ⟨ws, rfl, d⟩
          exact ⟨R1, p μ _ (List.prefix_refl _) f1 R1⟩
end
end Cl

set_option Elab.async false
set_option maxRecDepth 100000
set_option maxHeartbeats 2000000
namespace Cl
open PySem PySem.Spec PyProof.Rows L2
section
variable {X : Cx} {N : Wn} {e a b o : Expr} {pos : Pos}
/-- the name holds a list that may be changed -/
def chkL (i : Nat) : Mo Unit := fun c => match c.sl[i]? with
  | some (.ol _) => .ok () c
  | some (.v (.r n)) => match c.hp[n]? with
    | some (.lst _) => .ok () c
    | _ => .no
  | _ => .no
theorem chkL_ok {α : Type} {i : Nat} {f : Unit → Mo α} {μ : List Addr} {c : CS} {σ : LSt} {H : Hp} {P : α → List Addr → CS → Hp → Prop} (R : Rel (gh X N) μ c σ H) (p : RunAt (gh X N) N.W (mBind (chkL i) f) μ c σ H P) :
    ∃ l vs, σ[i]? = some (some (.ref l)) ∧ H l = some (.lst vs) ∧ RunAt (gh X N) N.W (f ()) μ c σ H P := by
  have q := p.bind
  unfold RunAt chkL at q
  cases e : c.sl[i]? with
  | none =>
    rw [e] at q
    exact q.elim
  | some sl =>
    rw [e] at q
    cases sl with
    | un => exact q.elim
    | od _ => exact q.elim
    | ol xs =>
      obtain ⟨a, ho, eu, e2, ⟨vs, e3, dl⟩, _⟩ := R.ow i _ e rfl
      subst e3
      exact ⟨a, vs, eu, e2, q μ H (List.prefix_refl _) (Fz.refl _) R⟩
    | v u =>
      cases u with
      | d _ => exact q.elim
      | o _ => exact q.elim
      | r n =>
        dsimp only at q
        cases hn : c.hp[n]? with
        | none =>
          rw [hn] at q
          exact q.elim
        | some ob =>
          rw [hn] at q
          cases ob with
          | dic _ => exact q.elim
          | ins _ _ => exact q.elim
          | lst xs =>
            obtain ⟨w, ew, a, ea, rfl⟩ := R.vl i _ e
            obtain ⟨a', ho, e1, e2, vs, rfl, dl⟩ := R.hp n _ hn
            rw [ea] at e1
            cases e1
            exact ⟨a, vs, ew, e2, q μ H (List.prefix_refl _) (Fz.refl _) R⟩
/-- .. what an object is -/
def chkO (x : CV) : Mo Unit := fun c => match x with
  | .r n => match c.hp[n]? with
    | some (.lst _) => .ok () c
    | _ => .no
  | _ => .no
theorem chkO_ok {α : Type} {x : CV} {f : Unit → Mo α} {μ : List Addr} {c : CS} {σ : LSt} {H : Hp} {v : V} {P : α → List Addr → CS → Hp → Prop} (R : Rel (gh X N) μ c σ H) (d : VDen (kwOf X) H μ x v) (p : RunAt (gh X N) N.W (mBind (chkO x) f) μ c σ H P) :
    ∃ l vs, v = .ref l ∧ H l = some (.lst vs) ∧ RunAt (gh X N) N.W (f ()) μ c σ H P := by
  have q := p.bind
  unfold RunAt chkO at q
  cases x with
  | d _ => exact q.elim
  | o _ => exact q.elim
  | r n =>
    dsimp only at q
    cases hn : c.hp[n]? with
    | none =>
      rw [hn] at q
      exact q.elim
    | some ob =>
      rw [hn] at q
      cases ob with
      | dic _ => exact q.elim
      | ins _ _ => exact q.elim
      | lst xs =>
        obtain ⟨a, ea, rfl⟩ := d
        obtain ⟨a', ho, e1, e2, vs, rfl, dl⟩ := R.hp n _ hn
        rw [ea] at e1
        cases e1
        exact ⟨a, vs, rfl, e2, q μ H (List.prefix_refl _) (Fz.refl _) R⟩
theorem tyL {K : PySem.W.Frag} {H : Hp} {l : Addr} {vs : List V} (h : H l = some (.lst vs)) : tyV K "list" (.ref l) H := .inl ⟨rfl, _, SqL.of h⟩
/-! append -/
def apD (y : CV) (xs : List PyData) : Option (List PyData × PyData) := match y with
  | .d z => if xs.length < 16777216 then some (xs ++ [z], .none) else none
  | _ => none
def apC (y : CV) (xs : List CV) : Option (List CV × CV) := if xs.length < 16777216 then some (xs ++ [y], .d .none) else none
def mApp (i : Nat) (ma : Mo CV) : Mo CV := mBind (chkL i) fun _ => mBind ma fun y => onList i (apD y) (apC y)
def mAppO (mo ma : Mo CV) : Mo CV := mBind mo fun x => mBind (chkO x) fun _ => mBind ma fun y => onObj x (apC y)
theorem apC_ok {y : CV} {xs ys : List CV} {z : CV} (h : apC y xs = some (ys, z)) : xs.length < 16777216 ∧ ys = xs ++ [y] ∧ z = .d .none := by
  unfold apC at h
  by_cases hl : xs.length < 16777216
  · rw [if_pos hl] at h
    cases h
    exact ⟨hl, rfl, rfl⟩
  · rw [if_neg hl] at h
    cases h
theorem apD_ok {y : CV} {xs ys : List PyData} {z : PyData} (h : apD y xs = some (ys, z)) : ∃ w, y = .d w ∧ xs.length < 16777216 ∧ ys = xs ++ [w] ∧ z = .none := by
  unfold apD at h
  cases y with
  | r _ => cases h
  | o _ => cases h
  | d w =>
    dsimp only at h
    by_cases hl : xs.length < 16777216
    · rw [if_pos hl] at h
      cases h
      exact ⟨w, rfl, hl, rfl, rfl⟩
    · rw [if_neg hl] at h
      cases h
theorem fz_lst {H : Hp} {a : Addr} {vs ws : List V} (h : H a = some (.lst vs)) : Fz H (upd H a (.lst ws)) := Wr.fz (ho := .lst vs) trivial h
theorem ce_append (i : Nat) {x : Str} {p1 apos : Pos} {ma : Mo CV} (ha : CE X N a ma) (hN : X.N[i]? = some x := by rfl) (hv : Vis X.env.scope x := by first | exact Or.inl rfl | exact Or.inr (Or.inl rfl) | exact Or.inr (Or.inr rfl)) (hd : (x == ("__debug__" : Str)) = false := by decide)
    (hcd : (x == ("__classdict__" : Str)) = false := by decide)
    (hbase : attributeBase (.Name x p1) "append" X.env (eval (.Name x p1) X.env) = eval (.Name x p1) X.env := by rfl)
    (hfew : ((backTo pos (starEach (a :: []) X.env)).all (fun x => !x.1) && (backToKw pos (keywordEach [] X.env)).all (fun x => x.1.isSome)
      && decide ((a :: []).length + ([] : List Keyword).length + (if ([] : List Keyword).isEmpty then 0 else 1) < 30)) = true := by rfl)
    (hline : (apos.endLine == pos.line) = true := by rfl) (hs : starEach (a :: []) X.env = (false, eval a X.env) :: starEach [] X.env := by rfl) :
    CE X N (.Call (.Attribute (.Name x p1) "append" apos) [a] [] pos) (mApp i ma) := by
  refine PE.tm (pe_bm PySem.F.plainAttrs_list PySem.F.slot_list_append PySem.F.type_list_append mt_append (pe_var (X := X) (i := i) hN hv hd hcd) (pa_cons ha pa_nil hs) hbase hfew hline hs) fun σ H Q ⟨μ, c, R, p⟩ => ?_
  obtain ⟨l, vs, hv, hl, p⟩ := chkL_ok R p
  refine ⟨.ref l, hv, tyL hl, μ, c, R, (RunAt.bind p).imp fun y μ1 c1 H1 a b r q v d => ?_⟩
  obtain ⟨l', ws, el, hl', h⟩ := onList_ok r hv q
  cases el
  rcases h with ⟨xs, ys, z, hf, dl, q⟩ | ⟨n, xs, ys, z, hg, dl, q⟩
  · obtain ⟨w, rfl, hz, rfl, rfl⟩ := apD_ok hf
    refine ⟨l, ws, v, rfl, rfl, hl', by rw [dl.length, sizeLine_eq]; exact hz, ?_⟩
    have f := fz_lst (ws := ws ++ [v]) hl'
    exact (q _ _ rfl (DenL.append (DenL.mono f _ _ dl) (.cons (Den.mono f _ _ d) .nil))).2 _ vden_none
  · obtain ⟨hz, rfl, rfl⟩ := apC_ok hg
    refine ⟨l, ws, v, rfl, rfl, hl', by rw [← Paired.length dl, sizeLine_eq]; exact hz, ?_⟩
    have f := fz_lst (ws := ws ++ [v]) hl'
    exact (q _ _ rfl (paired_app (VDenL.mono f (List.prefix_refl _) dl) (.cons (VDen.mono f (List.prefix_refl _) d) .nil))).2 _ vden_none
theorem ce_appendO {apos : Pos} {mo ma : Mo CV} (ho : CE X N o mo) (ha : CE X N a ma)
    (hbase : attributeBase o "append" X.env (eval o X.env) = eval o X.env := by rfl)
    (hfew : ((backTo pos (starEach (a :: []) X.env)).all (fun x => !x.1) && (backToKw pos (keywordEach [] X.env)).all (fun x => x.1.isSome)
      && decide ((a :: []).length + ([] : List Keyword).length + (if ([] : List Keyword).isEmpty then 0 else 1) < 30)) = true := by rfl)
    (hline : (apos.endLine == pos.line) = true := by rfl) (hs : starEach (a :: []) X.env = (false, eval a X.env) :: starEach [] X.env := by rfl) :
    CE X N (.Call (.Attribute o "append" apos) [a] [] pos) (mAppO mo ma) := by
  refine PE.tm (pe_bm PySem.F.plainAttrs_list PySem.F.slot_list_append PySem.F.type_list_append mt_append ho (pa_cons ha pa_nil hs) hbase hfew hline hs) fun σ H Q ⟨μ, c, R, p⟩ => ?_
  refine ⟨μ, c, R, (RunAt.bind p).imp fun x μ1 c1 H1 a1 b1 r1 q1 v d1 => ?_⟩
  obtain ⟨l, vs, rfl, hl, q1⟩ := chkO_ok r1 d1 q1
  refine ⟨tyL hl, μ1, c1, r1, (RunAt.bind q1).imp fun y μ2 c2 H2 a2 b2 r2 q2 w d2 => ?_⟩
  obtain ⟨l', ws, n, xs, ys, z, el, hl', hg, dl, q⟩ := onObj_ok r2 (d1.mono b2 a2) q2
  cases el
  obtain ⟨hz, rfl, rfl⟩ := apC_ok hg
  refine ⟨l, ws, w, rfl, rfl, hl', by rw [← Paired.length dl, sizeLine_eq]; exact hz, ?_⟩
  have f := fz_lst (ws := ws ++ [w]) hl'
  exact (q _ _ rfl (paired_app (VDenL.mono f (List.prefix_refl _) dl) (.cons (VDen.mono f (List.prefix_refl _) d2) .nil))).2 _ vden_none
/-! extend by a list that is read on the spot -/
def exD (y : BV) (xs : List PyData) : Option (List PyData × PyData) := match y with
  | .l ys => if xs.length + ys.length ≤ 16777216 then some (xs ++ ys, .none) else none
  | _ => none
def exC (y : BV) (xs : List CV) : Option (List CV × CV) := match y with
  | .l ys => if xs.length + ys.length ≤ 16777216 then some (xs ++ ys.map .d, .d .none) else none
  | _ => none
def mExt (i : Nat) (ma : Mo BV) : Mo CV := mBind (chkL i) fun _ => mBind ma fun y => onList i (exD y) (exC y)
theorem exD_ok {y : BV} {xs ys : List PyData} {z : PyData} (h : exD y xs = some (ys, z)) : ∃ w, y = .l w ∧ xs.length + w.length ≤ 16777216 ∧ ys = xs ++ w ∧ z = .none := by
  unfold exD at h
  cases y with
  | c _ => cases h
  | k _ => cases h
  | l w =>
    dsimp only at h
    by_cases hl : xs.length + w.length ≤ 16777216
    · rw [if_pos hl] at h
      cases h
      exact ⟨w, rfl, hl, rfl, rfl⟩
    · rw [if_neg hl] at h
      cases h
theorem exC_ok {y : BV} {xs ys : List CV} {z : CV} (h : exC y xs = some (ys, z)) : ∃ w, y = .l w ∧ xs.length + w.length ≤ 16777216 ∧ ys = xs ++ w.map .d ∧ z = .d .none := by
  unfold exC at h
  cases y with
  | c _ => cases h
  | k _ => cases h
  | l w =>
    dsimp only at h
    by_cases hl : xs.length + w.length ≤ 16777216
    · rw [if_pos hl] at h
      cases h
      exact ⟨w, rfl, hl, rfl, rfl⟩
    · rw [if_neg hl] at h
      cases h
theorem ce_extend (i : Nat) {x : Str} {p1 apos : Pos} {ma : Mo BV} (ha : CB X N a ma) (hN : X.N[i]? = some x := by rfl) (hv : Vis X.env.scope x := by first | exact Or.inl rfl | exact Or.inr (Or.inl rfl) | exact Or.inr (Or.inr rfl)) (hd : (x == ("__debug__" : Str)) = false := by decide)
    (hcd : (x == ("__classdict__" : Str)) = false := by decide)
    (hbase : attributeBase (.Name x p1) "extend" X.env (eval (.Name x p1) X.env) = eval (.Name x p1) X.env := by rfl)
    (hfew : ((backTo pos (starEach (a :: []) X.env)).all (fun x => !x.1) && (backToKw pos (keywordEach [] X.env)).all (fun x => x.1.isSome)
      && decide ((a :: []).length + ([] : List Keyword).length + (if ([] : List Keyword).isEmpty then 0 else 1) < 30)) = true := by rfl)
    (hline : (apos.endLine == pos.line) = true := by rfl) (hs : starEach (a :: []) X.env = (false, eval a X.env) :: starEach [] X.env := by rfl) :
    CE X N (.Call (.Attribute (.Name x p1) "extend" apos) [a] [] pos) (mExt i ma) := by
  refine PE.tm (pe_bm PySem.F.plainAttrs_list PySem.F.slot_list_extend PySem.F.type_list_extend mt_extend (pe_var (X := X) (i := i) hN hv hd hcd) (pa_cons ha pa_nil hs) hbase hfew hline hs) fun σ H Q ⟨μ, c, R, p⟩ => ?_
  obtain ⟨l, vs, hv, hl, p⟩ := chkL_ok R p
  refine ⟨.ref l, hv, tyL hl, μ, c, R, (RunAt.bind p).imp fun y μ1 c1 H1 a b r q v d => ?_⟩
  obtain ⟨l', ws, el, hl', h⟩ := onList_ok r hv q
  cases el
  rcases h with ⟨xs, ys, z, hf, dl, q⟩ | ⟨n, xs, ys, z, hg, dl, q⟩
  · obtain ⟨w, rfl, hz, rfl, rfl⟩ := exD_ok hf
    obtain ⟨b', us, rfl, hb, db⟩ := d
    refine ⟨l, b', ws, us, rfl, rfl, hl', hb, by rw [dl.length, DenL.length db, sizeLine_eq]; exact hz, ?_⟩
    have f := fz_lst (ws := ws ++ us) hl'
    exact (q _ _ rfl (DenL.append (DenL.mono f _ _ dl) (DenL.mono f _ _ db))).2 _ vden_none
  · obtain ⟨w, rfl, hz, rfl, rfl⟩ := exC_ok hg
    obtain ⟨b', us, rfl, hb, db⟩ := d
    refine ⟨l, b', ws, us, rfl, rfl, hl', hb, by rw [← Paired.length dl, DenL.length db, sizeLine_eq]; exact hz, ?_⟩
    have f := fz_lst (ws := ws ++ us) hl'
    exact (q _ _ rfl (paired_app (VDenL.mono f (List.prefix_refl _) dl) (denL_v (DenL.mono f _ _ db)))).2 _ vden_none
/-! pop(0), pop() -/
def ppD (k : Int) (xs : List PyData) : Option (List PyData × PyData) := if decide (-(2 ^ 63) ≤ k) && decide (k < 2 ^ 63) then match seqIndex? k xs.length with
    | some j => match xs[j]? with
      | some y => some (xs.eraseIdx j, y)
      | none => none
    | none => none
  else none
def ppC (k : Int) (xs : List CV) : Option (List CV × CV) := if decide (-(2 ^ 63) ≤ k) && decide (k < 2 ^ 63) then match seqIndex? k xs.length with
    | some j => match xs[j]? with
      | some y => some (xs.eraseIdx j, y)
      | none => none
    | none => none
  else none
theorem ppD_ok {k : Int} {xs ys : List PyData} {z : PyData} (h : ppD k xs = some (ys, z)) : -(2 ^ 63) ≤ k ∧ k < 2 ^ 63 ∧ ∃ j, seqIndex? k xs.length = some j ∧ xs[j]? = some z ∧ ys = xs.eraseIdx j := by
  unfold ppD at h
  by_cases hk : (decide (-(2 ^ 63) ≤ k) && decide (k < 2 ^ 63)) = true
  · rw [if_pos hk] at h
    rw [Bool.and_eq_true, decide_eq_true_eq, decide_eq_true_eq] at hk
    cases hj : seqIndex? k xs.length with
    | none =>
      rw [hj] at h
      cases h
    | some j =>
      rw [hj] at h
      dsimp only at h
      cases hx : xs[j]? with
      | none =>
        rw [hx] at h
        cases h
      | some y =>
        rw [hx] at h
        cases h
        exact ⟨hk.1, hk.2, j, rfl, hx, rfl⟩
  · rw [if_neg hk] at h
    cases h
theorem ppC_ok {k : Int} {xs ys : List CV} {z : CV} (h : ppC k xs = some (ys, z)) : -(2 ^ 63) ≤ k ∧ k < 2 ^ 63 ∧ ∃ j, seqIndex? k xs.length = some j ∧ xs[j]? = some z ∧ ys = xs.eraseIdx j := by
  unfold ppC at h
  by_cases hk : (decide (-(2 ^ 63) ≤ k) && decide (k < 2 ^ 63)) = true
  · rw [if_pos hk] at h
    rw [Bool.and_eq_true, decide_eq_true_eq, decide_eq_true_eq] at hk
    cases hj : seqIndex? k xs.length with
    | none =>
      rw [hj] at h
      cases h
    | some j =>
      rw [hj] at h
      dsimp only at h
      cases hx : xs[j]? with
      | none =>
        rw [hx] at h
        cases h
      | some y =>
        rw [hx] at h
        cases h
        exact ⟨hk.1, hk.2, j, rfl, hx, rfl⟩
  · rw [if_neg hk] at h
    cases h
theorem denL_erase {K : KW} {H : Hp} : ∀ (j : Nat) {xs : List PyData} {vs : List V}, DenL K H xs vs → DenL K H (xs.eraseIdx j) (vs.eraseIdx j)
  | _, [], vs, h => by
    simp only [DenL] at h
    subst h
    exact .nil
  | 0, x :: xs, vs, h => by
    simp only [DenL] at h
    obtain ⟨w, r, rfl, d, q⟩ := h
    exact q
  | j + 1, x :: xs, vs, h => by
    simp only [DenL] at h
    obtain ⟨w, r, rfl, d, q⟩ := h
    exact .cons d (denL_erase j q)
theorem paired_erase {α β : Type} {F : α → β → Prop} : ∀ (j : Nat) {xs : List α} {vs : List β}, Paired F xs vs → Paired F (xs.eraseIdx j) (vs.eraseIdx j)
  | _, _, _, .nil => .nil
  | 0, _, _, .cons _ t => t
  | j + 1, _, _, .cons h t => .cons h (paired_erase j t)
def asI : CV → Mo Int := fun x => match x with
  | .d (.int i) => mRet i
  | _ => fun _ => .no
theorem asI_ret {α : Type} {x : CV} {f : Int → Mo α} {μ : List Addr} {c : CS} {σ : LSt} {H : Hp} {P : α → List Addr → CS → Hp → Prop} (p : RunAt (gh X N) N.W (mBind (asI x) f) μ c σ H P) : ∃ i, x = .d (.int i) ∧ RunAt (gh X N) N.W (f i) μ c σ H P := by
  cases x with
  | d x =>
    cases x with
    | int i => exact ⟨i, rfl, p⟩
    | none => exact p.elim
    | bool _ => exact p.elim
    | str _ => exact p.elim
    | list _ => exact p.elim
    | tuple _ => exact p.elim
    | dict _ => exact p.elim
  | r _ => exact p.elim
  | o _ => exact p.elim
theorem vden_i {K : KW} {H : Hp} {μ : List Addr} {i : Int} {v : V} (d : VDen K H μ (.d (.int i)) v) : v = .int i := by
  have d : Den K H (.int i) v := d
  simp only [Den] at d
  exact d
def mPopN (i : Nat) (ma : Mo CV) : Mo CV := mBind (chkL i) fun _ => mBind ma fun y => mBind (asI y) fun k => onList i (ppD k) (ppC k)
def mPopO (mo ma : Mo CV) : Mo CV := mBind mo fun x => mBind (chkO x) fun _ => mBind ma fun y => mBind (asI y) fun k => onObj x (ppC k)
theorem ce_popAt (i : Nat) {x : Str} {p1 apos : Pos} {ma : Mo CV} (ha : CE X N a ma) (hN : X.N[i]? = some x := by rfl) (hv : Vis X.env.scope x := by first | exact Or.inl rfl | exact Or.inr (Or.inl rfl) | exact Or.inr (Or.inr rfl)) (hd : (x == ("__debug__" : Str)) = false := by decide)
    (hcd : (x == ("__classdict__" : Str)) = false := by decide)
    (hbase : attributeBase (.Name x p1) "pop" X.env (eval (.Name x p1) X.env) = eval (.Name x p1) X.env := by rfl)
    (hfew : ((backTo pos (starEach (a :: []) X.env)).all (fun x => !x.1) && (backToKw pos (keywordEach [] X.env)).all (fun x => x.1.isSome)
      && decide ((a :: []).length + ([] : List Keyword).length + (if ([] : List Keyword).isEmpty then 0 else 1) < 30)) = true := by rfl)
    (hline : (apos.endLine == pos.line) = true := by rfl) (hs : starEach (a :: []) X.env = (false, eval a X.env) :: starEach [] X.env := by rfl) :
    CE X N (.Call (.Attribute (.Name x p1) "pop" apos) [a] [] pos) (mPopN i ma) := by
  refine PE.tm (pe_bm PySem.F.plainAttrs_list PySem.F.slot_list_pop PySem.F.type_list_pop mt_popAt (pe_var (X := X) (i := i) hN hv hd hcd) (pa_cons ha pa_nil hs) hbase hfew hline hs) fun σ H Q ⟨μ, c, R, p⟩ => ?_
  obtain ⟨l, vs, hv, hl, p⟩ := chkL_ok R p
  refine ⟨.ref l, hv, tyL hl, μ, c, R, (RunAt.bind p).imp fun y μ1 c1 H1 a b r q v d => ?_⟩
  obtain ⟨k, rfl, q⟩ := asI_ret q
  obtain rfl := vden_i d
  obtain ⟨l', ws, el, hl', h⟩ := onList_ok r hv q
  cases el
  rcases h with ⟨xs, ys, z, hf, dl, q⟩ | ⟨n, xs, ys, z, hg, dl, q⟩
  · obtain ⟨k1, k2, j, hj, hx, rfl⟩ := ppD_ok hf
    obtain ⟨u, hu, du⟩ := DenL.get dl hx
    have f := fz_lst (ws := ws.eraseIdx j) hl'
    exact ⟨l, ws, k, j, u, rfl, rfl, hl', k1, k2, by rw [dl.length]; exact hj, hu, (q _ _ rfl (denL_erase j (DenL.mono f _ _ dl))).2 _ (Den.mono f _ _ du)⟩
  · obtain ⟨k1, k2, j, hj, hx, rfl⟩ := ppC_ok hg
    obtain ⟨u, hu, du⟩ := Cl.paired_get dl hx
    have f := fz_lst (ws := ws.eraseIdx j) hl'
    exact ⟨l, ws, k, j, u, rfl, rfl, hl', k1, k2, by rw [← Paired.length dl]; exact hj, hu, (q _ _ rfl (paired_erase j (VDenL.mono f (List.prefix_refl _) dl))).2 _ (VDen.mono f (List.prefix_refl _) du)⟩
theorem ce_popAtO {apos : Pos} {mo ma : Mo CV} (ho : CE X N o mo) (ha : CE X N a ma)
    (hbase : attributeBase o "pop" X.env (eval o X.env) = eval o X.env := by rfl)
    (hfew : ((backTo pos (starEach (a :: []) X.env)).all (fun x => !x.1) && (backToKw pos (keywordEach [] X.env)).all (fun x => x.1.isSome)
      && decide ((a :: []).length + ([] : List Keyword).length + (if ([] : List Keyword).isEmpty then 0 else 1) < 30)) = true := by rfl)
    (hline : (apos.endLine == pos.line) = true := by rfl) (hs : starEach (a :: []) X.env = (false, eval a X.env) :: starEach [] X.env := by rfl) :
    CE X N (.Call (.Attribute o "pop" apos) [a] [] pos) (mPopO mo ma) := by
  refine PE.tm (pe_bm PySem.F.plainAttrs_list PySem.F.slot_list_pop PySem.F.type_list_pop mt_popAt ho (pa_cons ha pa_nil hs) hbase hfew hline hs) fun σ H Q ⟨μ, c, R, p⟩ => ?_
  refine ⟨μ, c, R, (RunAt.bind p).imp fun x μ1 c1 H1 a1 b1 r1 q1 v d1 => ?_⟩
  obtain ⟨l, vs, rfl, hl, q1⟩ := chkO_ok r1 d1 q1
  refine ⟨tyL hl, μ1, c1, r1, (RunAt.bind q1).imp fun y μ2 c2 H2 a2 b2 r2 q2 w d2 => ?_⟩
  obtain ⟨k, rfl, q2⟩ := asI_ret q2
  obtain rfl := vden_i d2
  obtain ⟨l', ws, n, xs, ys, z, el, hl', hg, dl, q⟩ := onObj_ok r2 (d1.mono b2 a2) q2
  cases el
  obtain ⟨k1, k2, j, hj, hx, rfl⟩ := ppC_ok hg
  obtain ⟨u, hu, du⟩ := Cl.paired_get dl hx
  have f := fz_lst (ws := ws.eraseIdx j) hl'
  exact ⟨l, ws, k, j, u, rfl, rfl, hl', k1, k2, by rw [← Paired.length dl]; exact hj, hu, (q _ _ rfl (paired_erase j (VDenL.mono f (List.prefix_refl _) dl))).2 _ (VDen.mono f (List.prefix_refl _) du)⟩
/-! ### x[k] = v -/
def stD (k : Int) (y : CV) (xs : List PyData) : Option (List PyData × PyData) := match y with
  | .d z => match ixN xs.length k with
    | some j => some (xs.set j z, .none)
    | none => none
  | _ => none
def stC (k : Int) (y : CV) (xs : List CV) : Option (List CV × CV) := match ixN xs.length k with
  | some j => some (xs.set j y, .d .none)
  | none => none
/-- the value, the index, then the list of the name i -/
def sPut (i : Nat) (mk me : Mo CV) : MS := sBind me fun y => sBind (mPeek i) fun _ => sBind (mBind mk asI) fun k => sBind (onList i (stD k y) (stC k y)) fun _ => sNx
theorem vset {K : KW} {H : Hp} {μ : List Addr} {y : CV} {w : V} (d : VDen K H μ y w) : ∀ (j : Nat) {xs : List CV} {vs : List V}, VDenL K H μ xs vs → VDenL K H μ (xs.set j y) (vs.set j w)
  | _, _, _, .nil => .nil
  | 0, _, _, .cons _ t => .cons d t
  | j + 1, _, _, .cons h t => .cons h (vset d j t)
theorem mBind_ret {α : Type} (m : Mo α) : mBind m mRet = m := by
  funext c
  unfold mBind mRet
  cases m c <;> rfl
theorem cs_put (i : Nat) {x : Str} {p1 p2 : Pos} {mk me : Mo CV} (he : CE X N e me) (hk : CE X N a mk) (hN : X.N[i]? = some x := by rfl) (hv : Vis X.env.scope x := by first | exact Or.inl rfl | exact Or.inr (Or.inl rfl) | exact Or.inr (Or.inr rfl)) (hd : (x == ("__debug__" : Str)) = false := by decide)
    (hcd : (x == ("__classdict__" : Str)) = false := by decide)
    (hs : swapsWithSole [.Subscript (.Name x p1) a p2] e pos.line X.env = pure false := by rfl) (hw : swappedStores [.Subscript (.Name x p1) a p2] e X.env = pure none := by rfl)
    (h1 : (assignEach [.Subscript (.Name x p1) a p2] X.env).map (·.2) = [assign (.Subscript (.Name x p1) a p2) X.env] := by rfl)
    (h2 : ∀ v, assign (.Subscript (.Name x p1) a p2) X.env v = (do
      let ov ← holding [v] (eval (.Name x p1) X.env)
      let iv ← holding [v, ov] (eval a X.env)
      standAt p2
      holding [v, ov, iv] (setItem ov iv v)
      release [v, ov, iv] []) := by intro _; rfl) :
    CS1 X N (.Assign [.Subscript (.Name x p1) a p2] e pos) (sPut i mk me) := by
  refine PS.tm (ps_asg he (pg_sub (pe_var (X := X) (i := i) hN hv hd hcd) hk set_list h2) hs hw h1) fun D σ H ⟨μ, c, R, p⟩ => ?_
  refine ⟨μ, c, R, (RunS.bind p).imp fun y μ1 c1 H1 a1 b1 r1 q1 v d1 => ?_⟩
  obtain ⟨v0, y0, hv0, _, q1⟩ := peek_at r1 (RunS.bind q1)
  refine ⟨v0, hv0, μ1, c1, r1, (RunAt.bind (RunS.bind q1)).imp fun z μ2 c2 H2 a2 b2 r2 q2 w d2 => ?_⟩
  have q3 : RunAt (gh X N) N.W (mBind (asI z) mRet) μ2 c2 σ H2 (fun k μ3 c3 H3 => RunS (gh X N) N.W (sBind (onList i (stD k y) (stC k y)) (fun _ => sNx) c3) μ3 H3 D) := by
    rw [mBind_ret]
    exact q2
  obtain ⟨k, rfl, q3⟩ := asI_ret q3
  obtain rfl := vden_i d2
  have q4 := RunS.bind (σ := σ) (q3.ret H2 (Fz.refl _) r2)
  obtain ⟨l, ws, el, hl, h⟩ := onList_ok r2 hv0 q4
  subst el
  have d1 := d1.mono b2 a2
  rcases h with ⟨xs, ys, z, hf, dl, q⟩ | ⟨n, xs, ys, z, hg, dl, q⟩
  · unfold stD at hf
    cases y with
    | r _ => cases hf
    | o _ => cases hf
    | d y =>
      dsimp only at hf
      cases hj : ixN xs.length k with
      | none =>
        rw [hj] at hf
        cases hf
      | some j =>
        rw [hj] at hf
        cases hf
        have f := fz_lst (ws := ws.set j v) hl
        refine ⟨l, ws, k, j, rfl, rfl, hl, by rw [dl.length]; exact hj, ?_⟩
        obtain ⟨R3, q⟩ := q _ _ rfl (DenL.set (Den.mono f _ _ d1) j (DenL.mono f _ _ dl))
        exact RunS.nx' q R3
  · unfold stC at hg
    cases hj : ixN xs.length k with
    | none =>
      rw [hj] at hg
      cases hg
    | some j =>
      rw [hj] at hg
      cases hg
      have f := fz_lst (ws := ws.set j v) hl
      refine ⟨l, ws, k, j, rfl, rfl, hl, by rw [← Paired.length dl]; exact hj, ?_⟩
      obtain ⟨R3, q⟩ := q _ _ rfl (vset (VDen.mono f (List.prefix_refl _) d1) j (VDenL.mono f (List.prefix_refl _) dl))
      exact RunS.nx' q R3
end
end Cl

set_option Elab.async false
set_option maxRecDepth 100000
set_option maxHeartbeats 2000000
/-! Defs whose promise holds where nothing is being shown by repr: the guards are known to be none. -/
namespace Cl
open PySem PySem.Spec PyProof.Rows L2
structure RoomG (k : Nat) (A : Around) : Prop where
  room : Room k A
  gd : A.guards = some []
theorem RoomG.mono {j k : Nat} {A : Around} (r : RoomG k A) (h : j ≤ k) : RoomG j A := ⟨r.room.mono h, r.gd⟩
theorem RoomG.deeper {k : Nat} {A : Around} (r : RoomG (k + 1) A) (env : Env) : RoomG k (A.deeper env) := ⟨r.room.deeper env, r.gd⟩
theorem roomG_caller {k : Nat} (h : Room k callerA) : RoomG k callerA := ⟨h, rfl⟩
/-- what a run of the def at f must do, the callers being A, outer -/
def RunsAt (P : Program) (w : World) (K : PySem.W.Frag) (mg : Str → Option Value) (base : Heap) (CX : CXT) (f : Addr) (fd : FuncData) (ps : List Str) (sp : Sp) (A : Around) : Prop :=
  ∀ (oo : List Env) (s : Shared) (H : Hp) (gv : Args) (us : List Value) (xs : List V) (Q : VK) (E : XK), Env0 P w K mg base A oo s H → BindsTo s fd gv (ps.zip us) → Vals xs us → sp xs H Q E →
    codeAny (model P w) A (.call (.ref f) gv) (CR CX oo P w H s Q E) s
structure FnG (P : Program) (w : World) (K : PySem.W.Frag) (mg : Str → Option Value) (base : Heap) (CX : CXT) (k : Nat) (f : Addr) (fd : FuncData) (ps : List Str) (sp : Sp) : Prop where
  len : ∀ xs H Q E, sp xs H Q E → xs.length = ps.length
  go : ∀ A : Around, RoomG k A → RunsAt P w K mg base CX f fd ps sp A
section
variable {P : Program} {w : World} {K : PySem.W.Frag} {mg : Str → Option Value} {base : Heap} {CX : CXT} {j k : Nat} {f : Addr} {fd : FuncData} {ps : List Str} {sp sp' : Sp}
theorem FnG.mono (F : FnG P w K mg base CX j f fd ps sp) (h : j ≤ k) : FnG P w K mg base CX k f fd ps sp := ⟨F.len, fun A r => F.go A (r.mono h)⟩
theorem FnG.imp (F : FnG P w K mg base CX k f fd ps sp) (h : ∀ xs H Q E, sp' xs H Q E → sp xs H Q E) : FnG P w K mg base CX k f fd ps sp' :=
  ⟨fun xs H Q E q => F.len xs H Q E (h _ _ _ _ q), fun A r oo s H gv us xs Q E e b v q => F.go A r oo s H gv us xs Q E e b v (h _ _ _ _ q)⟩
def flV : Flow → Value
  | .ret v => v
  | _ => .none
/-- how a body's end looks to the caller -/
theorem ends_to {N : List Str} {qual : Str} {scope : Scope} {cdv : Value} {A : Around} {oo : List Env} {s z : Shared} {H : Hp} {Q : VK} {E : XK} {fl : Flow}
    (h : SP (cxOf CX P w K mg base N qual scope f cdv A oo s H E) [] { nx := fun _ H' => Q .non H', rt := Q } fl z) : CR CX oo P w H s Q E (.ok (.ret (flV fl))) z := by
  cases fl with
  | brk => exact (h.elim fun _ ⟨_, _, q⟩ => q : False).elim
  | cont => exact (h.elim fun _ ⟨_, _, q⟩ => q : False).elim
  | ret u =>
    obtain ⟨x, τ, G, J, rx, q⟩ := h
    exact ⟨x, G, J.os, J.bare, J.base, J.hok, rx, q⟩
  | next =>
    obtain ⟨τ, G, J, q⟩ := h
    exact ⟨.non, G, J.os, J.bare, J.base, J.hok, rfl, q⟩
/-- the def rule -/
theorem fn_ofG {nm qual : Str} {pa : Arguments} {body : List Stmt} {scope : Scope} {dV kV doc pm cdv ct oc : Value} {an od : Option Addr} {osl : Array (Option Value)} {N : List Str}
    (lk : K.lookup f = some ⟨oc, od, .func (PySem.W.fnOf nm qual pa body scope dV kV doc pm an cdv ct), osl⟩) (hcd : PySem.W.codeIn K cdv qual = true) (S : FnScope N ps scope) (len : ∀ xs H Q E, sp xs H Q E → xs.length = ps.length)
    (hbody : ∀ (A : Around) (oo : List Env) (s : Shared) (H : Hp) (xs : List V) (Q : VK) (E : XK), RoomG k (A.deeper (envOfC qual scope s.heap.objs.size f cdv)) → sp xs H Q E →
      ∃ t, PSs (cxOf CX P w K mg base N qual scope f cdv A oo s H E) body t ∧ t { nx := fun _ H' => Q .non H', rt := Q } (L2.start N xs) H) :
    FnG P w K mg base CX (k + 1) f (PySem.W.fnOf nm qual pa body scope dV kV doc pm an cdv ct) ps sp where
  len := len
  go A rg oo s H gv us xs Q E e0 hb rv q0 := by
    have at0 : ∀ b o, base.get? b = some o → s.heap.get? b = some o := fun b o e => (e0.bs b o e).1
    have kin := e0.mod.kin.keeps at0
    refine codeAny_call_function rg.room.depth (kin _ _ lk) rfl S.co S.gen rfl (PySem.W.codeRec_of kin hcd) (hb _ _ _ _ (wpAny_newFunctionEnv_cells S.kind (fun y hy => ?_) fun env he s1 x => ?_))
    · exact (S.par y.1 (List.of_mem_zip (a := y.1) (b := y.2) hy).1).imp id fun c => ⟨c, PySem.W.cellsFrom_some _ _ _ (.inl c)⟩
    · subst he
      obtain ⟨t, ht, hq⟩ := hbody A oo s H xs Q E (rg.deeper _) q0
      refine ⟨(e0.mod.nolimit.keeps at0).keeps x.toInCall.keep, codeAny_func (wpAny_mono (ht.run [] s1 _ H _ (inv_start S rg.room.hd e0 (len _ _ _ _ q0) rv x) hq) (fun fl z hz => ?_) fun _ _ hz => hz)⟩
      have := ends_to hz
      cases fl <;> exact this
end
section
variable {X : Cx} {CX : CXT} {k : Nat} {f : Addr} {fd : FuncData} {ps : List Str} {sp : Sp} {E : L2.St → XK} {x : Str} {p pos : Pos} {e : Expr} {es : List Expr} {t : TA}
theorem run_fnG {pins : List (Addr × Obj)} {σ : L2.St} {H : Hp} {s : Shared} {Q : VK} {us : List Value} {xs : List V} (F : FnG X.prog X.w X.K X.mg X.base CX k f fd ps sp) (hr : RoomG k X.A) (hb : Binds X.K fd ps [])
    (hx : PassesAt CX X σ (E σ)) (I : Inv X pins σ H s) (r : Vals xs us) (h : sp xs H Q (E σ)) : wpAny (model X.prog X.w) X.A (call (.ref f) us) (EP X pins σ Q) X.xe s := by
  have b : BindsTo s fd ⟨us, []⟩ (ps.zip us) := by
    have := hb s us I.kIn (by rw [List.append_nil, ← r.length]; exact F.len _ _ _ _ h)
    rwa [List.append_nil] at this
  refine wpAny_call (codeAny_mono (F.go X.A hr X.stack s H ⟨us, []⟩ us xs Q (E σ) I.env0 b r h) fun y z hz => ?_)
  match y, hz with
  | .error u, hz => exact hx pins H s u z I hz
  | .ok (.ret u), hz => exact I.after hz
theorem pe_callG (F : FnG X.prog X.w X.K X.mg X.base CX k f fd ps sp) (hr : RoomG k X.A) (hg : Gl X x) (hm : X.mg x = some (.ref f)) (hk : PySem.W.keepIn X.K (.ref f) = true) (hb : Binds X.K fd ps []) (hx : ∀ σ, PassesAt CX X σ (E σ))
    (ha : PA X (e :: es) t) (hdb : (x == ("__debug__" : Str)) = false := by decide) (he : starEach (e :: es) X.env = (false, eval e X.env) :: starEach es X.env := by rfl) (hpl : (backTo pos (starEach es X.env)).any (·.1) = false := by rfl) :
    PE X (.Call (.Name x p) (e :: es) [] pos) (tCallS sp E t) :=
  ⟨fun pins s σ H Q I h => wpAny_Call_Name_kw (ld_glob I hg hm (PySem.W.callWith_K (h₀ := X.base) I.ok.mod.kin hk
    (thn (ha.run pos pins s σ H _ I h) fun us s1 ⟨xs, H1, I1, r, q⟩ => ⟨I1.kIn, run_fnG F hr hb (hx σ) I1 r q⟩) he hpl) hdb)⟩
end
/-! ### the law's own call -/
section
variable {P : Program} {w : World} {K : PySem.W.Frag} {mg mb : Str → Option Value} {CX : CXT} {k : Nat} {fa a : Addr} {fd : FuncData} {x : Str} {sp : Sp} {z : Shared} {vs : List Value} {ns : List Int}
/-- from an abstract heap that knows at most the script -/
theorem law_coreG (KX : K.In z.heap) (hns : z.heap.Ns mainGlobals mg) (hb : z.heap.Ns builtinsNs mb) (hbb : ∀ x : Str, x ≠ "__name__" → mb x = bootBuiltins x) (hlim : z.heap.NoLimit) (hg : z.gens = #[]) (hr : RoomG k callerA)
    (ha : z.heap.get? a = some { cls := .type "list", data := .seq vs.toArray }) (F : ∀ base : Heap, K.In base → base.Ns mainGlobals mg → FnG P w K mg base CX k fa fd [x] sp) (hbind : BindsTo z fd ⟨[.ref a], []⟩ [(x, .ref a)])
    (hCX : ∀ H e s', CX [] H z (fun _ _ _ => False) e s' → False) (H : Hp) (only : Only H) (ok : HOk P w H z.heap) (hA : ∀ b, H b ≠ none → b = a ∧ K.lookup a = none) (hsp : sp [.ref a] H (fun v _ => v = .bl true) fun _ _ _ => False) :
    codeAny (model P w) callerA (.call (.ref fa) ⟨[.ref a], []⟩) (fun r s' => r = .ok (.ret (.bool true)) ∧ OldK z.heap s'.heap ∧ s'.os = z.os ∧ AllBare s'.gens) z := by
  -- what isn't the script lies in the heap without it
  have other : ∀ {b : Addr} {o : Obj}, z.heap.get? b = some o → (b = a → False) → (hidT z.heap H).get? b = some o := fun {b o} e ne => hidT_get e (Classical.byContradiction fun h => ne (hA b h).1)
  have noDict : ∀ {b : Addr} {o : Obj} {es : Array DictEntry} {ep : Nat}, z.heap.get? b = some o → o.data = .dict es ep → b = a → False := by
    rintro b o es ep e d rfl
    cases ha.symm.trans e
    cases d
  have ns' : ∀ {b : Addr} {m : Str → Option Value}, z.heap.Ns b m → (hidT z.heap H).Ns b m := fun ⟨o, es, ep, e, d, r⟩ => ⟨o, es, ep, other e (noDict e d), d, r⟩
  have kin : K.In (hidT z.heap H) := fun b o e => by
    by_cases hz : H b = none
    · exact hidT_get (KX b o e) hz
    · obtain ⟨h1, h2⟩ := hA b hz
      rw [h1, h2] at e
      cases e
  obtain ⟨mc, l1, l2⟩ := hlim
  have e0 : Env0 P w K mg (hidT z.heap H) callerA [] z H := by
    refine ⟨rfl, ⟨kin, ns' hns, ⟨mb, ns' hb, hbb⟩, mc, ns' l1, l2⟩, fun b o => of_hidT, Nat.le_of_eq (hidT_size _ _), trivial, fun b hb => ?_, ok, .of_eq hg⟩
    cases hb
  refine codeAny_mono ((F _ kin (ns' hns)).go callerA hr [] z H _ [.ref a] [.ref a] _ _ e0 hbind (.cons rfl .nil) hsp) fun r s' h => ?_
  match r, h with
  | .error e, h => exact (hCX H e s' h).elim
  | .ok (.ret u), h =>
    obtain ⟨v, G, os, bare, un, ok', rv, hv⟩ := h
    cases (show v = .bl true from hv)
    cases (show u = Value.bool true from rv)
    refine ⟨rfl, .of_keep fun b o e => ?_, os, bare⟩
    rcases only b with n | ⟨ob, xs, n⟩
    · exact un.keep b o e n (fun h => by cases h) (fun h => by cases h)
    · have k1 := (ok b _ n).1
      have k2 := (ok' b _ (un.frzs b ob _ n)).1
      cases k1.symm.trans e
      exact k2
theorem law_callG (KX : K.In z.heap) (hns : z.heap.Ns mainGlobals mg) (hb : z.heap.Ns builtinsNs mb) (hbb : ∀ x : Str, x ≠ "__name__" → mb x = bootBuiltins x) (hlim : z.heap.NoLimit) (hg : z.gens = #[]) (hr : RoomG k callerA)
    (ha : z.heap.get? a = some { cls := .type "list", data := .seq vs.toArray }) (hi : IntsAre vs ns) (hl : ns.length ≤ sizeLine)
    (F : ∀ base : Heap, K.In base → base.Ns mainGlobals mg → FnG P w K mg base CX k fa fd [x] sp) (hbind : BindsTo z fd ⟨[.ref a], []⟩ [(x, .ref a)])
    (hsp : ∀ H : Hp, Only H → FzL K H a (ns.map V.int) → sp [.ref a] H (fun v _ => v = .bl true) fun _ _ _ => False) (hCX : ∀ H e s', CX [] H z (fun _ _ _ => False) e s' → False) :
    codeAny (model P w) callerA (.call (.ref fa) ⟨[.ref a], []⟩) (fun r s' => r = .ok (.ret (.bool true)) ∧ OldK z.heap s'.heap ∧ s'.os = z.os ∧ AllBare s'.gens) z := by
  have rv := vals_ints hi
  have go := law_coreG KX hns hb hbb hlim hg hr ha F hbind hCX
  by_cases hk : K.lookup a = none
  · -- the script is tracked as a list that never changes
    let o : Obj := { cls := .type "list", data := .seq vs.toArray }
    have one : ∀ b u, upd (fun _ => none) a (HO.frz o (.lst (ns.map V.int))) b = some u → b = a ∧ u = .frz o (.lst (ns.map V.int)) := fun b u e => by
      by_cases h : b = a
      · subst h
        rw [upd_same] at e
        cases e
        exact ⟨rfl, rfl⟩
      · rw [upd_ne h] at e
        cases e
    have only : Only (upd (fun _ => none) a (.frz o (.lst (ns.map V.int)))) := fun b => by
      cases e : upd (fun _ => none) a (HO.frz o (.lst (ns.map V.int))) b with
      | none => exact .inl rfl
      | some u => exact .inr ⟨o, _, by rw [(one b u e).2]⟩
    refine go _ only (fun b u e => ?_) (fun b e => ?_) (hsp _ only (.inl ⟨o, upd_same⟩))
    · obtain ⟨rfl, rfl⟩ := one b u e
      exact ⟨ha, by rw [List.length_map]; exact hl, vs, _, rv, ha⟩
    · cases h : upd (fun _ => none) a (HO.frz o (.lst (ns.map V.int))) b with
      | none => exact absurd h e
      | some u => exact ⟨(one b u h).1, hk⟩
  · obtain ⟨o, hk⟩ := Option.ne_none_iff_exists'.mp hk
    cases ha.symm.trans (KX a o hk)
    have lv : vs.toArray.size ≤ sizeLine := by rw [List.size_toArray, hi.length]; exact hl
    refine go (fun _ => none) (fun _ => .inl rfl) (fun b u e => by cases e) (fun b e => absurd rfl e) (hsp _ (fun _ => .inl rfl) (.inr fun H' => .inr ⟨_, vs.toArray, _, hk, rfl, rfl, rfl, lv, by simpa using rv⟩))
/-- for the goal that k_head leaves -/
theorem walk_ofG {l : PySem.W.OpenLaw} {n k : Nat} {q : Program} {loose : List Str} {XP : (Str → Option Value) → Heap → Prop} {YP : World → Heap → Prop} {d : DefRec} {K : Params → PySem.W.Frag} {CX : World → CXT} {sp : World → (Str → Option Value) → Sp} {x : Str}
    (hn : l.most = some n) (hn2 : n ≤ sizeLine) (hdf : d.params.defaults = []) (hr : RoomG k callerA) (hY : ∀ (w : World) (h : Heap), YP w h → (K w.params).In h)
    (F : ∀ (w : World) (mg : Str → Option Value) (fa : Addr) (h : Heap), (K w.params).In h → h.Ns mainGlobals mg → mg d.name = some (.ref fa) → ∃ fd : FuncData, (∀ (s : Shared) (u : Value), BindsTo s fd ⟨[u], []⟩ [(x, u)]) ∧
      ∀ base : Heap, (K w.params).In base → base.Ns mainGlobals mg → FnG l.prog w (K w.params) mg base (CX w) k fa fd [x] (sp w mg))
    (hsp : ∀ (w : World) (mg : Str → Option Value) (H : Hp) (a : Addr) (ns : List Int), ns.length ≤ n → Only H → FzL (K w.params) H a (ns.map V.int) → sp w mg [.ref a] H (fun v _ => v = .bl true) fun _ _ _ => False)
    (hCX : ∀ (w : World) (H : Hp) (s : Shared) (e : Value) (s' : Shared), CX w [] H s (fun _ _ _ => False) e s' → False) : PySem.W.WalkO q loose XP YP l.row.toRowW d [] (fun f vs => PySem.call f vs) :=
  Att.attach_call hn hdf fun w s₀ z mg mb fa o pm cd doc a vs ns G Y ho hd hcd hmg hobj hi hlen hg => by
    obtain ⟨fd, hb, hF⟩ := F w mg fa _ (hY w _ Y) G.T.g hmg
    exact law_callG (hY w _ Y) G.T.g G.T.b G.T.builtins G.T.nolimit hg hr hobj hi (Nat.le_trans hlen hn2) hF (hb z _) (fun H hO hS => hsp w mg H a ns hlen hO hS) (fun H e s' => hCX w H z e s')
end
end Cl

set_option Elab.async false
set_option maxRecDepth 100000
set_option maxHeartbeats 2000000
namespace Cl
open PySem PySem.Spec PyProof.Rows L2
/-! ### defs -/
inductive FR where
  | ok (x : CV) (hp : List CO)
  | ex (e : XC) (hp : List CO)
  | no
abbrev Fn := List CV → List CO → FR
abbrev gk (K : KW) (mg : Str → Option Value) : Gh := ⟨K, mg, fun _ => none, []⟩
theorem ODen.g {G G' : Gh} {H : Hp} {μ : List Addr} {a : Addr} {o : CO} {ho : HO} (h : ODen G H μ a o ho) (e1 : G.K = G'.K) (e2 : G.mg = G'.mg) : ODen G' H μ a o ho := by
  obtain ⟨K, mg, B, m0⟩ := G
  obtain ⟨K', mg', B', m0'⟩ := G'
  have e1 : K = K' := e1
  have e2 : mg = mg' := e2
  subst e1 e2
  cases o <;> exact h
/-- the objects of the clean heap -/
structure HRel (K : KW) (mg : Str → Option Value) (μ : List Addr) (hp : List CO) (H : Hp) : Prop where
  hl : μ.length = hp.length
  hp : ∀ (n : Nat) (o : CO), hp[n]? = some o → ∃ a ho, μ[n]? = some a ∧ H a = some ho ∧ ODen (gk K mg) H μ a o ho
  nd : μ.Nodup
/-- what a call leaves -/
structure Post (K : KW) (mg : Str → Option Value) (μ μ1 : List Addr) (H H1 : Hp) (hp1 : List CO) : Prop where
  pre : μ <+: μ1
  keep : ∀ a o, H a = some o → a ∉ μ → H1 a = some o
  rel : HRel K mg μ1 hp1 H1
  new : ∀ a, a ∈ μ1 → a ∉ μ → H a = none
def spC (K : KW) (mg : Str → Option Value) (F : Fn) (n : Nat) : Sp := fun vs H Q E => vs.length = n ∧ ∃ μ xs hp, HRel K mg μ hp H ∧ VDenL K H μ xs vs ∧ match F xs hp with
  | .ok x hp1 => ∀ μ1 v H1, Post K mg μ μ1 H H1 hp1 → VDen K H1 μ1 x v → Q v H1
  | .ex e hp1 => ∀ μ1 cls d H1, Post K mg μ μ1 H H1 hp1 → XDen (gk K mg) H1 e cls d → E cls d H1
  | .no => False
def fnOf (m : MS) (n : Nat) : Fn := fun xs hp => match m ⟨xs.map .v ++ List.replicate (n - xs.length) .un, hp⟩ with
  | .nx c => .ok (.d .none) c.hp
  | .rt x c => .ok x c.hp
  | .ex e c => .ex e c.hp
  | _ => .no
theorem HRel.of {K : KW} {mg : Str → Option Value} {G : Gh} {μ : List Addr} {c : CS} {σ : LSt} {H : Hp} (R : Rel G μ c σ H) (e1 : G.K = K) (e2 : G.mg = mg) : HRel K mg μ c.hp H :=
  ⟨R.hl, fun n o h => let ⟨a, ho, a1, a2, a3⟩ := R.hp n o h; ⟨a, ho, a1, a2, a3.g e1 e2⟩, R.nd⟩
/-- the entry -/
theorem Rel.start {G : Gh} {K : KW} {mg : Str → Option Value} {μ : List Addr} {hp : List CO} {H : Hp} {xs : List CV} {vs : List V} {N : List Str} (R : HRel K mg μ hp H) (d : VDenL K H μ xs vs) (e : G = ⟨K, mg, H, μ⟩) :
    Rel G μ ⟨xs.map .v ++ List.replicate (N.length - xs.length) .un, hp⟩ (L2.start N vs) H := by
  subst e
  have hl := Paired.length d
  have none_own : ∀ (i : Nat) (s : Sl), (xs.map Sl.v ++ List.replicate (N.length - xs.length) Sl.un)[i]? = some s → s.own = true → False := fun i s e k => by
    have m := List.mem_of_getElem? e
    rcases List.mem_append.mp m with m | m
    · obtain ⟨x, _, rfl⟩ := List.mem_map.mp m
      cases k
    · obtain rfl := (List.mem_replicate.mp m).2
      cases k
  refine ⟨?_, fun i x e => ?_, fun i s e k => (none_own i s e k).elim, fun i j s t a _ e k _ _ => (none_own i s e k).elim, R.hl, fun n o h => ?_, R.nd, List.prefix_refl _, fun a h1 h2 => absurd h1 h2, fun a o h _ => h⟩
  · unfold L2.start
    show (xs.map Sl.v ++ List.replicate (N.length - xs.length) Sl.un).length = _
    rw [List.length_append, List.length_append, List.length_map, List.length_map, List.length_replicate, List.length_replicate, hl]
  · have e : (xs.map Sl.v ++ List.replicate (N.length - xs.length) Sl.un)[i]? = some (.v x) := e
    by_cases hi : i < xs.length
    · rw [List.getElem?_append_left (by simpa using hi), List.getElem?_map] at e
      cases hx : xs[i]? with
      | none =>
        rw [hx] at e
        cases e
      | some y =>
        rw [hx] at e
        cases e
        obtain ⟨v, hv, dv⟩ := Cl.paired_get d hx
        refine ⟨v, ?_, dv⟩
        unfold L2.start
        rw [List.getElem?_append_left (by rw [List.length_map, ← hl]; exact hi), List.getElem?_map, hv]
        rfl
    · rw [List.getElem?_append_right (by simpa using hi)] at e
      have m := List.mem_of_getElem? e
      cases (List.mem_replicate.mp m).2
  · obtain ⟨a, ho, a1, a2, a3⟩ := R.hp n o h
    exact ⟨a, ho, a1, a2, a3.g rfl rfl⟩
theorem Post.of {K : KW} {mg : Str → Option Value} {μ μ1 : List Addr} {c : CS} {σ : LSt} {H H1 : Hp} (R : Rel ⟨K, mg, H, μ⟩ μ1 c σ H1) : Post K mg μ μ1 H H1 c.hp :=
  ⟨R.pre, R.fr, HRel.of R rfl rfl, R.new⟩
section
variable {P : Program} {w : World} {K : PySem.W.Frag} {mg : Str → Option Value} {base : Heap}
/-- THE RULE for a def -/
theorem fn_clean {x qual : Str} {st : Stmt} {f : Addr} {fd : FuncData} {Nn ps : List Str} {k : Nat} {m : MS} (F : Fun K x qual st f fd) (S : FnScope Nn ps (defScope st))
    (h : ∀ (cdv : Value) (A : Around) (outer : List Env) (s : Shared) (H : Hp) (E : XK) (μ : List Addr), RoomG k (A.deeper (envOfC qual (defScope st) s.heap.objs.size f cdv)) →
      CSs (cxOf (L2N.CX P w) P w K mg base Nn qual (defScope st) f cdv A outer s H E) ⟨H, μ, fun cls d _ H' => E cls d H'⟩ (defBody st) m) :
    FnG P w K mg base (L2N.CX P w) (k + 1) f fd ps (spC ⟨K, w⟩ mg (fnOf m Nn.length) ps.length) := by
  obtain ⟨oc, od, kV, doc, pm, an, cdv, ct, osl, rfl, lk, hcd⟩ := F.ex
  refine fn_ofG lk hcd S (fun vs H Q E q => q.1) fun A outer s H vs Q E hr hsp => ?_
  obtain ⟨hlen, μ, xs, hp, R, d, q⟩ := hsp
  refine ⟨_, h cdv A outer s H E μ hr, μ, _, Rel.start R d rfl, ?_⟩
  unfold fnOf at q
  cases e : m ⟨xs.map .v ++ List.replicate (Nn.length - xs.length) .un, hp⟩ with
  | nx c =>
    rw [e] at q
    exact fun μ1 σ1 H1 a b R1 => q μ1 .non H1 (Post.of R1) vden_none
  | rt y c =>
    rw [e] at q
    exact fun μ1 σ1 H1 v a b R1 dv => q μ1 v H1 (Post.of R1) dv
  | bk c =>
    rw [e] at q
    exact q.elim
  | ct c =>
    rw [e] at q
    exact q.elim
  | ex y c =>
    rw [e] at q
    exact fun μ1 σ1 cls d H1 a b R1 dx => q μ1 cls d H1 (Post.of R1) dx
  | no =>
    rw [e] at q
    exact q.elim
end
/-! ### calls -/
section
variable {X : Cx} {N : Wn} {e : Expr} {es : List Expr} {pos p : Pos} {k : Nat} {f : Addr} {fd : FuncData} {ps : List Str} {F : Fn} {n : Nat} {x : Str} {ma : Mo (List CV)}
def runF (n : Nat) (F : Fn) (xs : List CV) : Mo CV := fun c => if xs.length = n then match F xs c.hp with
    | .ok x hp => .ok x { c with hp := hp }
    | .ex e hp => .ex e { c with hp := hp }
    | .no => .no
  else .no
def mCall (n : Nat) (F : Fn) (ma : Mo (List CV)) : Mo CV := mBind ma (runF n F)
/-- behind a call -/
theorem Post.fin {μ μ1 : List Addr} {c : CS} {σ : LSt} {H H1 : Hp} {hp1 : List CO} (R : Rel (gh X N) μ c σ H) (q : Post (kwOf X) X.mg μ μ1 H H1 hp1) : Rel (gh X N) μ1 { c with hp := hp1 } σ H1 ∧ Fz H H1 := by
  have nw : ∀ {a : Addr}, a ∈ μ → ∃ ho, H a = some ho ∧ Wr ho := fun m => R.tracked m
  have fz : Fz H H1 := by
    refine ⟨fun a xs e => q.keep a _ e fun z => ?_, fun a o u e => q.keep a _ e fun z => ?_⟩
    · obtain ⟨ho, e2, w⟩ := nw z
      rw [e] at e2
      cases e2
      exact w
    · obtain ⟨ho, e2, w⟩ := nw z
      rw [e] at e2
      cases e2
      exact w
  refine ⟨⟨R.len, fun i y h => ?_, fun i s h k => ?_, R.ap, q.rel.hl, fun m o h => ?_, q.rel.nd, R.pre.trans q.pre, fun a h1 h2 => ?_, fun a o h1 h2 => ?_⟩, fz⟩
  · obtain ⟨v, a, b⟩ := R.vl i y h
    exact ⟨v, a, b.mono fz q.pre⟩
  · obtain ⟨a, ho, a1, a2, a3, a4, a5⟩ := R.ow i s h k
    refine ⟨a, ho, a1, q.keep _ _ a2 a5, a3.mono fz, a4, fun z => ?_⟩
    have := q.new a z a5
    rw [a2] at this
    cases this
  · obtain ⟨a, ho, a1, a2, a3⟩ := q.rel.hp m o h
    exact ⟨a, ho, a1, a2, a3.g rfl rfl⟩
  · by_cases ha : a ∈ μ
    · exact R.new a ha h2
    · have hn := q.new a h1 ha
      exact (R.fresh hn).2
  · by_cases ha : a ∈ μ
    · exact absurd (R.new a ha h2) (by rw [h1]; simp)
    · exact q.keep a o (R.fr a o h1 h2) ha
theorem call_tm {σ : LSt} {H : Hp} {Q : VK} (h : tM (gh X N) N.W (mCall n F ma) σ H Q) : tCallS (spC (kwOf X) X.mg F n) (WE N.W) (tAr (gh X N) N.W ma) σ H Q := by
  obtain ⟨μ, c, R, p⟩ := h
  refine ⟨μ, c, R, (RunAt.bind p).imp fun xs μ1 c1 H1 a b r q vs d => ?_⟩
  unfold RunAt runF at q
  by_cases hl : xs.length = n
  · rw [if_pos hl] at q
    refine ⟨by rw [← Paired.length d]; exact hl, μ1, xs, c1.hp, HRel.of r rfl rfl, d, ?_⟩
    cases hF : F xs c1.hp with
    | ok y hp1 =>
      rw [hF] at q
      intro μ2 v H2 po dv
      obtain ⟨R2, f2⟩ := po.fin r
      exact q μ2 H2 po.pre f2 R2 v dv
    | ex y hp1 =>
      rw [hF] at q
      intro μ2 cls dd H2 po dx
      obtain ⟨R2, f2⟩ := po.fin r
      exact q μ2 cls dd H2 po.pre f2 R2 dx
    | no =>
      rw [hF] at q
      exact q
  · rw [if_neg hl] at q
    exact q.elim
theorem ce_call (G : FnG X.prog X.w X.K X.mg X.base (L2N.CX X.prog X.w) k f fd ps (spC (kwOf X) X.mg F n)) (hr : RoomG k X.A) (hm : X.mg x = some (.ref f)) (hk : PySem.W.keepIn X.K (.ref f) = true) (hb : Binds X.K fd ps [])
    (tk : L2N.Takes X N.W) (ha : CA X N (e :: es) ma) (hg : Gl X x := by rfl) (hdb : (x == ("__debug__" : Str)) = false := by decide) (he : starEach (e :: es) X.env = (false, eval e X.env) :: starEach es X.env := by rfl)
    (hpl : (backTo pos (starEach es X.env)).any (·.1) = false := by rfl) : CE X N (.Call (.Name x p) (e :: es) [] pos) (mCall n F ma) :=
  PE.tm (pe_callG G hr hg hm hk hb (fun σ => L2N.passAt tk σ) ha hdb he hpl) fun σ H Q => call_tm
/-- a call that sees nothing of the clean heap, and gives data back -/
def noR : List CV → Bool
  | [] => true
  | .r _ :: _ => false
  | _ :: t => noR t
def runL (n : Nat) (F : Fn) (xs : List CV) : Mo CV := fun c => if xs.length = n ∧ noR xs = true then match F xs [] with
    | .ok (.d x) _ => .ok (.d x) c
    | .ex e _ => .ex e c
    | _ => .no
  else .no
def mCallL (n : Nat) (F : Fn) (ma : Mo (List CV)) : Mo CV := mBind ma (runL n F)
theorem noR_den {K : KW} {H : Hp} {μ μ' : List Addr} : ∀ {xs : List CV} {vs : List V}, noR xs = true → VDenL K H μ xs vs → VDenL K H μ' xs vs
  | [], _, _, .nil => .nil
  | .r _ :: _, _, e, _ => by cases e
  | .d x :: t, _, e, .cons h r => .cons h (noR_den (xs := t) e r)
  | .o x :: t, _, e, .cons h r => .cons h (noR_den (xs := t) e r)
theorem callL_tm {σ : LSt} {H : Hp} {Q : VK} (h : tM (gh X N) N.W (mCallL n F ma) σ H Q) : tCallS (spC (kwOf X) X.mg F n) (WE N.W) (tAr (gh X N) N.W ma) σ H Q := by
  obtain ⟨μ, c, R, p⟩ := h
  refine ⟨μ, c, R, (RunAt.bind p).imp fun xs μ1 c1 H1 a b r q vs d => ?_⟩
  unfold RunAt runL at q
  by_cases hl : xs.length = n ∧ noR xs = true
  · rw [if_pos hl] at q
    refine ⟨by rw [← Paired.length d]; exact hl.1, [], xs, [], ⟨rfl, fun m o h => by simp at h, List.nodup_nil⟩, noR_den hl.2 d, ?_⟩
    have sm : ∀ {H2 : Hp}, (∀ a o, H1 a = some o → a ∉ ([] : List Addr) → H2 a = some o) → Same H1 H2 := fun h a o e => h a o e (by simp)
    cases hF : F xs [] with
    | ok y hp1 =>
      rw [hF] at q
      intro μ2 v H2 po dv
      have s2 := sm po.keep
      cases y with
      | d y => exact q μ1 H2 (List.prefix_refl _) (Fz.same s2) (r.same s2) v dv
      | r _ => exact q.elim
      | o _ => exact q.elim
    | ex y hp1 =>
      rw [hF] at q
      intro μ2 cls dd H2 po dx
      have s2 := sm po.keep
      exact q μ1 cls dd H2 (List.prefix_refl _) (Fz.same s2) (r.same s2) dx
    | no =>
      rw [hF] at q
      exact q
  · rw [if_neg hl] at q
    exact q.elim
theorem ce_callL (G : FnG X.prog X.w X.K X.mg X.base (L2N.CX X.prog X.w) k f fd ps (spC (kwOf X) X.mg F n)) (hr : RoomG k X.A) (hm : X.mg x = some (.ref f)) (hk : PySem.W.keepIn X.K (.ref f) = true) (hb : Binds X.K fd ps [])
    (tk : L2N.Takes X N.W) (ha : CA X N (e :: es) ma) (hg : Gl X x := by rfl) (hdb : (x == ("__debug__" : Str)) = false := by decide) (he : starEach (e :: es) X.env = (false, eval e X.env) :: starEach es X.env := by rfl)
    (hpl : (backTo pos (starEach es X.env)).any (·.1) = false := by rfl) : CE X N (.Call (.Name x p) (e :: es) [] pos) (mCallL n F ma) :=
  PE.tm (pe_callG G hr hg hm hk hb (fun σ => L2N.passAt tk σ) ha hdb he hpl) fun σ H Q => callL_tm
/-- nothing is let out -/
theorem takes_q {X : Cx} : L2N.Takes X (fun _ _ _ _ => False) := fun _ _ x => by
  obtain ⟨_, _, _, _, _, _, _, _, _, _, _, _, _, _, _, _, z⟩ := x
  exact z.elim
end
end Cl

set_option Elab.async false
set_option maxRecDepth 100000
set_option maxHeartbeats 2000000
/-! Dicts whose keys are tuples: walking one that is locked. -/
namespace Cl
open PySem PySem.Spec PyProof.Rows L2
theorem pair_at {α β : Type} {F : α → β → Prop} : ∀ {l : List α} {m : List β} {i : Nat} {x : α}, Paired F l m → l[i]? = some x → ∃ y, m[i]? = some y ∧ F x y
  | _, _, _, _, .nil, e => by simp at e
  | _, _, 0, _, .cons h _, e => by
    simp at e
    subst e
    exact ⟨_, rfl, h⟩
  | _, _, i + 1, _, .cons _ t, e => pair_at (i := i) t (by simpa using e)
section
variable {X : Cx} {pins : List (Addr × Obj)} {σ : LSt} {H : Hp} {s : Shared} {d : Addr} {o : Obj} {kws : List (NestedKey × Addr × V)}
/-- a locked one: its rows -/
theorem frzY (I : Inv X pins σ H s) (h : H d = some (.frz o (DKy X.w d kws))) : (d == sysModules) = false ∧ s.heap.get? d = some o ∧ o.ExactDict ∧ ∃ (es : Array DictEntry) (ep : Nat), o.data = .dict es ep ∧ es.size = kws.length ∧
    ∀ (i : Nat) (q : NestedKey × Addr × V), kws[i]? = some q → ∃ en : DictEntry, es[i]? = some en ∧ en.key = .ref q.2.1 ∧ RelV q.2.2 en.val := by
  obtain ⟨hd, ⟨_, hs, _, xs, o', es, ep, pr, ho, hx, hdt, he⟩, _⟩ := I.hok d _ h
  cases hd.symm.trans ho
  have l1 := Paired.length pr
  have l2 : es.size = xs.length := by rw [← Array.length_toList, he, List.length_map]
  refine ⟨hs, hd, hx, es, ep, hdt, by omega, fun i q e => ?_⟩
  obtain ⟨x, ex, e1, e2, e3⟩ := pair_at pr e
  refine ⟨⟨x.1.hash X.w, .ref x.2.1, x.2.2⟩, ?_, by rw [e2], e3⟩
  rw [← Array.getElem?_toList, he, List.getElem?_map, ex]
  rfl
/-- its keys, in order -/
def Ity (w : World) (d : Addr) (o : Obj) (kws : List (NestedKey × Addr × V)) : It :=
  ⟨fun i H => H d = some (.frz o (DKy w d kws)) ∧ i < kws.length, fun i H x H' => H' = H ∧ ∃ q, kws[i]? = some q ∧ x = .ref q.2.1, fun i H => H d = some (.frz o (DKy w d kws)) ∧ kws.length ≤ i⟩
end
theorem turn_keysY {P : Program} {w : World} {K : PySem.W.Frag} {tg : Expr} {d : Addr} {o : Obj} {es : Array DictEntry} {ep : Nat} {kws : List (NestedKey × Addr × V)} (it : Addr) (hod : o.data = .dict es ep) :
    Turn P w K tg (Ity w d o kws) [it] it (fun i h => h.IsKeyIter it d i kws.length ep) where
  mem := .head _
  obj := fun i h ⟨oi, e, _, dd⟩ b hb => ⟨oi, by rw [List.mem_singleton.mp hb]; exact e, fun v z => by rw [dd] at z; cases z⟩
  keep := fun i h h' st k => st.at fun oi e => k it (.head _) oi e
  item := by
    intro X hP hw hK hc i pins s σ H E I hf st ⟨hd, hi⟩
    subst hP hw hK
    obtain ⟨f0, f1, f2, f3, f4, f5⟩ := hf it (.head _)
    obtain ⟨hs, hg, hx, es', ep', hdt, hsz, rows⟩ := frzY I hd
    obtain ⟨rfl, rfl⟩ := dict_ep hod hdt
    have e0 := List.getElem?_eq_getElem hi
    obtain ⟨en, hen, hk, _⟩ := rows i _ e0
    refine next_key_item st hg hdt hsz hen fun h' st' sb => ?_
    have I1 := I.turned (t' := s.toks) (h' := h') (fun b ob hb e => (sb.2 b hb).trans e) f0 f1 f3 f4 f5
    obtain ⟨oi, e, c, dd⟩ := id st'
    exact ⟨_, rfl, go_of (s := { s with heap := h' }) e c dd (by decide) ⟨.ref kws[i].2.1, H, I1, hk, ⟨rfl, _, e0, rfl⟩, st', fun b hb => (hf b hb).1⟩⟩
  done := by
    intro X hP hw hK hc i pins s σ H E I hf st ⟨hd, hi⟩
    subst hP hw hK
    obtain ⟨f0, f1, f2, f3, f4, f5⟩ := hf it (.head _)
    obtain ⟨hs, hg, hx, es', ep', hdt, hsz, rows⟩ := frzY I hd
    obtain ⟨rfl, rfl⟩ := dict_ep hod hdt
    exact next_key_end (I.ok.hd hc) st hg hdt hsz hi fun h' eb => ⟨rfl, I.turned (t' := s.toks) (fun b ob hb e => eb b ob hb e) f0 f1 f3 f4 f5⟩
  self := fun A i s Q E st h => wpAny_pyIter_keyiter st h
/-- for k in d -/
def iKeyC (w : World) (td : TE) : TI := fun σ H R => td σ H fun x H1 => ∃ d o, x = .ref d ∧ ((∃ kvs, H1 d = some (.frz o (.dK kvs)) ∧ R (Itk d o kvs) H1) ∨ ∃ kws, H1 d = some (.frz o (DKy w d kws)) ∧ R (Ity w d o kws) H1)
theorem pi_keyC {X : Cx} {tg e : Expr} {td : TE} (he : PE X e td) : PI X tg e (iKeyC X.w td) := by
  refine ⟨fun pins s σ H R I h => thn (he.run pins s σ H _ I h) fun u s1 ⟨x, H1, I1, rx, d, o, ex, q⟩ => ?_⟩
  subst ex
  obtain rfl : u = Value.ref d := rx
  rcases q with ⟨kvs, hd, q⟩ | ⟨kws, hd, q⟩
  · obtain ⟨hs, hg, hx, es, ep, vs, hdt, hsz, kv, hm⟩ := I1.frzK hd
    refine iter_keys hs hg hx hdt (pi_one (tk := s1.toks) I1 _ (turn_keys _ hdt) ⟨_, Heap.get?_push_size _ rfl, rfl, ?_⟩ q)
    rw [hsz] <;> rfl
  · obtain ⟨hs, hg, hx, es, ep, hdt, hsz, rows⟩ := frzY I1 hd
    refine iter_keys hs hg hx hdt (pi_one (tk := s1.toks) I1 _ (turn_keysY _ hdt) ⟨_, Heap.get?_push_size _ rfl, rfl, ?_⟩ q)
    rw [hsz] <;> rfl
end Cl

set_option Elab.async false
set_option maxRecDepth 100000
set_option maxHeartbeats 2000000
namespace Cl
open PySem PySem.Spec PyProof.Rows L2
/-! ### targets -/
structure Tg where
  f : CV → CS → Option CS
  ix : List Nat
def Out (ix : List Nat) (σ σ1 : LSt) : Prop := σ1.length = σ.length ∧ ∀ j, j ∉ ix → σ1[j]? = σ[j]?
def tG (K : KW) (mg : Str → Option Value) (g : Tg) : TG := fun v σ H Q => ∃ B m0 μ c x c1, Rel ⟨K, mg, B, m0⟩ μ c σ H ∧ VDen K H μ x v ∧ g.f x c = some c1 ∧ ∀ σ1, Out g.ix σ σ1 → Rel ⟨K, mg, B, m0⟩ μ c1 σ1 H → Q σ1 H
def tGs (K : KW) (mg : Str → Option Value) (f : List CV → CS → Option CS) (ix : List Nat) : TGs := fun vs σ H Q => ∃ B m0 μ c xs c1, Rel ⟨K, mg, B, m0⟩ μ c σ H ∧ VDenL K H μ xs vs ∧ f xs c = some c1 ∧ ∀ σ1, Out ix σ σ1 → Rel ⟨K, mg, B, m0⟩ μ c1 σ1 H → Q σ1 H
abbrev CG (X : Cx) (tg : Expr) (g : Tg) : Prop := PG X tg (tG (kwOf X) X.mg g)
abbrev CGs (X : Cx) (ts : List Expr) (f : List CV → CS → Option CS) (ix : List Nat) : Prop := PGs X ts (tGs (kwOf X) X.mg f ix)
def gN (i : Nat) : Tg := ⟨fun x c => some (cSet i (.v x) c), [i]⟩
theorem Out.refl {ix : List Nat} {σ : LSt} : Out ix σ σ := ⟨rfl, fun _ _ => rfl⟩
theorem Out.trans {a b : List Nat} {σ σ1 σ2 : LSt} (h : Out a σ σ1) (k : Out b σ1 σ2) : Out (a ++ b) σ σ2 := ⟨k.1.trans h.1, fun j hj => by
  rw [List.mem_append, not_or] at hj
  exact (k.2 j hj.2).trans (h.2 j hj.1)⟩
def unNil : List CV → CS → Option CS := fun xs c => match xs with
  | [] => some c
  | _ => none
def unCons (g : Tg) (f : List CV → CS → Option CS) : List CV → CS → Option CS := fun xs c => match xs with
  | x :: r => (g.f x c).bind (f r)
  | [] => none
section
variable {X : Cx} {N : Wn} {tg e a b iter : Expr} {ts : List Expr} {pos p : Pos}
theorem cg_name (i : Nat) {x : Str} (hN : X.N.Nodup) (hi : X.N[i]? = some x := by rfl) (hx : Loc X.env.scope x := by first | exact Or.inl rfl | exact Or.inr rfl) (hf : X.fn x = true ∨ X.env.scope.names.lookup x = some .local := by first | exact .inl rfl | exact .inr rfl) : CG X (.Name x pos) (gN i) := by
  refine ⟨fun pins s σ H v u Q I r h => (pg_name (i := i) hN hi hx hf).run pins s σ H v u Q I r ?_⟩
  obtain ⟨B, m0, μ, c, y, c1, R, d, e, q⟩ := h
  have e : some (cSet i (.v y) c) = some c1 := e
  cases e
  refine q _ ⟨by rw [List.length_set], fun j hj => ?_⟩ (R.set d)
  rw [List.getElem?_set_ne]
  intro z
  exact hj (by rw [z]; exact List.mem_singleton.mpr rfl)
theorem cgs_nil : CGs X [] unNil [] := by
  refine ⟨fun pins s σ H vs us Q I r h => pgs_nil.run pins s σ H vs us Q I r ?_⟩
  obtain ⟨B, m0, μ, c, y, c1, R, d, e, q⟩ := h
  unfold unNil at e
  cases y with
  | cons _ _ => cases e
  | nil =>
    cases e
    cases d
    exact ⟨rfl, q σ Out.refl R⟩
theorem cgs_cons {g : Tg} {f : List CV → CS → Option CS} {ix : List Nat} (h1 : CG X e g) (h2 : CGs X ts f ix) (hst : (assignEach (e :: ts) X.env).map (·.2) = assign e X.env :: (assignEach ts X.env).map (·.2) := by rfl) : CGs X (e :: ts) (unCons g f) (g.ix ++ ix) := by
  refine ⟨fun pins s σ H vs us Q I r h => (pgs_cons h1 h2 hst).run pins s σ H vs us Q I r ?_⟩
  obtain ⟨B, m0, μ, c, ys, c2, R, d, e, q⟩ := h
  cases ys with
  | nil => cases e
  | cons y ys =>
    cases d with
    | cons d1 d2 =>
      have e : (g.f y c).bind (f ys) = some c2 := e
      cases h1 : g.f y c with
      | none =>
        rw [h1] at e
        cases e
      | some c1 =>
        rw [h1] at e
        exact ⟨_, _, rfl, B, m0, μ, c, y, c1, R, d1, h1, fun σ1 o1 R1 => ⟨B, m0, μ, c1, ys, c2, R1, d2, e, fun σ2 o2 R2 => q σ2 (o1.trans o2) R2⟩⟩
/-- a, b, .. = a tuple -/
def gT (f : List CV → CS → Option CS) (ix : List Nat) : Tg := ⟨fun x c => match x with
  | .d (.tuple xs) => f (xs.map .d) c
  | _ => none, ix⟩
theorem cg_tup {f : List CV → CS → Option CS} {ix : List Nat} {k n : Nat} (hc : X.calm = true) (h : CGs X ts f ix) (hlen : ∀ xs c c1, f xs c = some c1 → xs.length = n) (hn : (assignEach ts X.env).length = n := by rfl) (hst : (assignEach ts X.env).findIdx? (·.1) = none := by rfl) : CG X (.Tuple ts k pos) (gT f ix) := by
  refine ⟨fun pins s σ H v u Q I r hh => (pg_tup hc h hn hst).run pins s σ H v u Q I r ?_⟩
  obtain ⟨B, m0, μ, c, y, c1, R, d, e, q⟩ := hh
  cases y with
  | r _ => cases e
  | o _ => cases e
  | d y =>
    cases y with
    | tuple xs =>
      have d : Den (kwOf X) H (.tuple xs) v := d
      simp only [Den] at d
      obtain ⟨a, vs, rfl, sq, dl⟩ := d
      have e : f (xs.map .d) c = some c1 := e
      have l := hlen _ _ _ e
      rw [List.length_map] at l
      exact ⟨a, vs, rfl, sq, by rw [dl.length]; exact l, B, m0, μ, c, xs.map .d, c1, R, denL_v dl, e, fun σ1 o1 R1 => q σ1 o1 R1⟩
    | none => cases e
    | bool _ => cases e
    | int _ => cases e
    | str _ => cases e
    | list _ => cases e
    | dict _ => cases e
theorem unNil_len : ∀ (xs : List CV) (c c1 : CS), unNil xs c = some c1 → xs.length = 0 := fun xs c c1 h => by
  cases xs with
  | nil => rfl
  | cons _ _ => cases h
theorem unCons_len {g : Tg} {f : List CV → CS → Option CS} {n : Nat} (hf : ∀ xs c c1, f xs c = some c1 → xs.length = n) : ∀ (xs : List CV) (c c1 : CS), unCons g f xs c = some c1 → xs.length = n + 1 := fun xs c c1 h => by
  cases xs with
  | nil => cases h
  | cons x r =>
    have h : (g.f x c).bind (f r) = some c1 := h
    cases h1 : g.f x c with
    | none =>
      rw [h1] at h
      cases h
    | some c2 =>
      rw [h1] at h
      rw [List.length_cons, hf r c2 c1 h]
/-! ### what is walked -/
structure ItOk (K : KW) (H1 : Hp) (xs : List PyData) (J : It) : Prop where
  go : ∀ i H', i < xs.length → Fz H1 H' → J.go i H'
  yld : ∀ i H' x H2, i < xs.length → Fz H1 H' → J.yld i H' x H2 → Same H' H2 ∧ ∃ y, xs[i]? = some y ∧ Den K H2 y x
  stop : ∀ i H', xs.length ≤ i → Fz H1 H' → J.stop i H'
def tI (G : Gh) (W : WX) (m : Mo (List PyData)) : TI := fun σ H R => ∃ μ c, Rel G μ c σ H ∧ RunAt G W m μ c σ H fun xs _ _ H1 => ∀ J, ItOk G.K H1 xs J → R J H1
abbrev CI (X : Cx) (N : Wn) (tg iter : Expr) (m : Mo (List PyData)) : Prop := PI X tg iter (tI (gh X N) N.W m)
theorem paired_got {α β : Type} {F : α → β → Prop} : ∀ {l1 : List α} {l2 : List β} {i : Nat} {y : β}, Paired F l1 l2 → l2[i]? = some y → ∃ x, l1[i]? = some x ∧ F x y
  | _, _, _, _, .nil, e => by simp at e
  | _, _, 0, _, .cons h _, e => by
    simp at e
    subst e
    exact ⟨_, rfl, h⟩
  | _, _, i + 1, _, .cons _ t, e => paired_got (i := i) t (by simpa using e)
theorem den_key {K : KW} {H : Hp} (k : Key) : Den K H (keyD k) (kV k) := by
  cases k with
  | inl i => exact den_int i
  | inr x => exact den_str x
theorem den_keys {K : KW} {H : Hp} : ∀ ks : List Key, DenL K H (ks.map keyD) (ks.map kV)
  | [] => .nil
  | k :: r => .cons (den_key k) (den_keys r)
/-- a list, a tuple, a text's signs, a dict's keys -/
def vItems (x : CV) : Option (List PyData) := match x with
  | .d (.list xs) => some xs
  | .d (.tuple xs) => some xs
  | .d (.str t) => some (t.cps.toList.map fun k => .str ⟨#[k]⟩)
  | .d (.dict kvs) => some (kvs.map (·.1))
  | _ => none
def mItems (m : Mo CV) : Mo (List PyData) := mBind m fun x => mOpt (vItems x)
theorem ci_of {m : Mo CV} (h : CE X N e m) : CI X N tg e (mItems m) := by
  refine ⟨fun pins s σ H R I q => ?_⟩
  obtain ⟨μ, c, Rl, p⟩ := q
  have p := RunAt.bind p
  -- which kind of thing comes
  cases hm : m c with
  | no =>
    unfold RunAt at p
    rw [hm] at p
    exact p.elim
  | ex x c1 =>
    refine (pi_list h).run pins s σ H R I ⟨μ, c, Rl, ?_⟩
    unfold RunAt at p ⊢
    rw [hm] at p ⊢
    exact p
  | ok x c1 =>
    have p' : ∀ μ1 H1, μ <+: μ1 → Fz H H1 → Rel (gh X N) μ1 c1 σ H1 → ∃ xs, vItems x = some xs ∧ ∀ J, ItOk (kwOf X) H1 xs J → R J H1 := by
      unfold RunAt at p
      rw [hm] at p
      intro μ1 H1 a b r
      obtain ⟨xs, e, q⟩ := RunAt.opt (p μ1 H1 a b r)
      exact ⟨xs, e, q H1 (Fz.refl _) r⟩
    have mk : ∀ {Q : VK}, (∀ μ1 H1 v, Fz H H1 → VDen (kwOf X) H1 μ1 x v → (∃ xs, vItems x = some xs ∧ ∀ J, ItOk (kwOf X) H1 xs J → R J H1) → Q v H1) → tM (gh X N) N.W m σ H Q := fun {Q} f => by
      refine ⟨μ, c, Rl, ?_⟩
      unfold RunAt
      rw [hm]
      exact fun μ1 H1 a b r v d => f μ1 H1 v b d (p' μ1 H1 a b r)
    cases x with
    | r _ => exact (pi_list h).run pins s σ H R I (mk fun μ1 H1 v f d ⟨xs', e, q⟩ => by cases e)
    | o _ => exact (pi_list h).run pins s σ H R I (mk fun μ1 H1 v f d ⟨xs', e, q⟩ => by cases e)
    | d y =>
      cases y with
      | list xs =>
        refine (pi_list h).run pins s σ H R I (mk fun μ1 H1 v f d ⟨xs', e, q⟩ => ?_)
        cases e
        have d : Den (kwOf X) H1 (.list xs) v := d
        simp only [Den] at d
        obtain ⟨a, vs, rfl, sq, dl⟩ := d
        refine ⟨a, rfl, ⟨vs, sq.sq⟩, q _ ⟨fun i H' hi f => ?_, fun i H' x H2 hi f y => ?_, fun i H' hi f => ?_⟩⟩
        · obtain ⟨v, hv, _⟩ := DenL.get dl (List.getElem?_eq_getElem hi)
          exact ⟨vs, v, (f.fzL sq).sq, hv⟩
        · obtain ⟨rfl, g⟩ := y
          obtain ⟨y, hy, dy⟩ := DenL.get' dl (g vs (f.fzL sq).sq)
          exact ⟨Same.refl _, y, hy, Den.mono f _ _ dy⟩
        · exact ⟨vs, (f.fzL sq).sq, by rw [dl.length]; exact hi⟩
      | tuple xs =>
        refine (pi_tup h).run pins s σ H R I (mk fun μ1 H1 v f d ⟨xs', e, q⟩ => ?_)
        cases e
        have d : Den (kwOf X) H1 (.tuple xs) v := d
        simp only [Den] at d
        obtain ⟨a, vs, rfl, sq, dl⟩ := d
        refine ⟨a, rfl, ⟨vs, sq⟩, q _ ⟨fun i H' hi f => ?_, fun i H' x H2 hi f y => ?_, fun i H' hi f => ?_⟩⟩
        · obtain ⟨v, hv, _⟩ := DenL.get dl (List.getElem?_eq_getElem hi)
          exact ⟨vs, v, f.sqT sq, hv⟩
        · obtain ⟨rfl, g⟩ := y
          obtain ⟨y, hy, dy⟩ := DenL.get' dl (g vs (f.sqT sq))
          exact ⟨Same.refl _, y, hy, Den.mono f _ _ dy⟩
        · exact ⟨vs, f.sqT sq, by rw [dl.length]; exact hi⟩
      | str t =>
        refine (pi_str h).run pins s σ H R I (mk fun μ1 H1 v f d ⟨xs', e, q⟩ => ?_)
        cases e
        have d : Den (kwOf X) H1 (.str t) v := d
        simp only [Den] at d
        subst d
        have sz : (t.cps.toList.map fun k => PyData.str ⟨#[k]⟩).length = t.cps.size := by rw [List.length_map, Array.length_toList]
        refine ⟨t, rfl, q _ ⟨fun i H' hi f => by rw [sz] at hi; exact hi, fun i H' x H2 hi f y => ?_, fun i H' hi f => by rw [sz] at hi; exact hi⟩⟩
        obtain ⟨rfl, k, hk, rfl⟩ := y
        refine ⟨Same.refl _, .str ⟨#[k]⟩, ?_, den_str _⟩
        rw [List.getElem?_map, Array.getElem?_toList, hk]
        rfl
      | dict kvs =>
        refine (pi_keyC h).run pins s σ H R I (mk fun μ1 H1 v f d ⟨xs', e, q⟩ => ?_)
        cases e
        obtain ⟨a, o, ho, rfl, hf, dp⟩ := dict_den d
        refine ⟨a, o, rfl, ?_⟩
        rcases dp with ⟨kws, rfl, pr⟩ | ⟨kws, rfl, pr⟩
        · refine .inl ⟨kws, hf, q _ ?_⟩
          have l := Paired.length pr
          refine ⟨fun i H' hi f => ⟨f.f _ _ _ hf, by rw [List.length_map] at hi; omega⟩, fun i H' x H2 hi f y => ?_, fun i H' hi f => ⟨f.f _ _ _ hf, by rw [List.length_map] at hi; omega⟩⟩
          obtain ⟨rfl, k, v, hk, rfl⟩ := y
          obtain ⟨p, hp, e1, _⟩ := paired_got pr hk
          refine ⟨Same.refl _, keyD k, ?_, den_key k⟩
          rw [List.getElem?_map, hp]
          exact congrArg some e1
        · refine .inr ⟨kws, hf, q _ ?_⟩
          have l := Paired.length pr
          refine ⟨fun i H' hi f => ⟨f.f _ _ _ hf, by rw [List.length_map] at hi; omega⟩, fun i H' x H2 hi f y => ?_, fun i H' hi f => ⟨f.f _ _ _ hf, by rw [List.length_map] at hi; omega⟩⟩
          obtain ⟨rfl, row, hk, rfl⟩ := y
          obtain ⟨p, hp, e1, _⟩ := paired_got pr hk
          refine ⟨Same.refl _, p.1, ?_, Den.mono f _ _ e1.2.2⟩
          rw [List.getElem?_map, hp]
          rfl
      | none => exact (pi_list h).run pins s σ H R I (mk fun μ1 H1 v f d ⟨xs', e, q⟩ => by cases e)
      | bool _ => exact (pi_list h).run pins s σ H R I (mk fun μ1 H1 v f d ⟨xs', e, q⟩ => by cases e)
      | int _ => exact (pi_list h).run pins s σ H R I (mk fun μ1 H1 v f d ⟨xs', e, q⟩ => by cases e)
/-- range(n), range(a, b) -/
def rgL (lo : Int) (n : Nat) : List PyData := (List.range n).map fun k => .int (lo + (k : Nat))
def okRg (i : Int) : Bool := decide (-(2 ^ 62) ≤ i) && decide (i < 2 ^ 62)
def mRg1 (m : Mo CV) : Mo (List PyData) := mBind m fun x => mBind (asI x) fun j => if okRg j then mRet (rgL 0 j.toNat) else fun _ => .no
def mRg2 (ma mb : Mo CV) : Mo (List PyData) := mBind ma fun x => mBind mb fun y => mBind (asI x) fun i => mBind (asI y) fun j => if okRg i && okRg j then mRet (rgL i (j - i).toNat) else fun _ => .no
theorem okRg_ok {i : Int} (h : okRg i = true) : -(2 ^ 62) ≤ i ∧ i < 2 ^ 62 := by
  unfold okRg at h
  rw [Bool.and_eq_true, decide_eq_true_eq, decide_eq_true_eq] at h
  exact h
theorem itr_ok {K : KW} {H1 : Hp} {lo : Int} {n : Nat} : ItOk K H1 (rgL lo n) (Itr lo n) := by
  have l : (rgL lo n).length = n := by
    unfold rgL
    rw [List.length_map, List.length_range]
  refine ⟨fun i H' hi _ => by rw [l] at hi; exact hi, fun i H' x H2 hi _ y => ?_, fun i H' hi _ => by rw [l] at hi; exact hi⟩
  obtain ⟨rfl, rfl⟩ := y
  rw [l] at hi
  refine ⟨Same.refl _, .int (lo + (i : Nat)), ?_, den_int _⟩
  unfold rgL
  rw [List.getElem?_map, List.getElem?_range hi]
  rfl
theorem ci_rg1 {m : Mo CV} (hm : X.mg "range" = none) (ha : CE X N a m) (hg : Gl X "range" := by rfl) (hs : starEach [a] X.env = [(false, eval a X.env)] := by rfl) : CI X N tg (.Call (.Name "range" p) [a] [] pos) (mRg1 m) := by
  refine ⟨fun pins s σ H R I h => (pi_range1 hg hm (pa_cons ha pa_nil hs) hs).run pins s σ H R I ?_⟩
  obtain ⟨μ, c, Rl, p⟩ := h
  refine ⟨μ, c, Rl, (RunAt.bind p).imp fun x μ1 c1 H1 a b r q v d => ?_⟩
  obtain ⟨j, ej, q'⟩ := asI_ret q
  subst ej
  obtain rfl := vden_i d
  by_cases hj : okRg j = true
  · rw [if_pos hj] at q'
    exact ⟨j, rfl, (okRg_ok hj).1, (okRg_ok hj).2, q'.ret H1 (Fz.refl _) r _ itr_ok⟩
  · rw [if_neg hj] at q'
    exact q'.elim
theorem ci_rg2 {ma mb : Mo CV} (hm : X.mg "range" = none) (ha : CE X N a ma) (hb : CE X N b mb) (hg : Gl X "range" := by rfl) (hs : starEach [a, b] X.env = [(false, eval a X.env), (false, eval b X.env)] := by rfl) (hs2 : starEach [b] X.env = [(false, eval b X.env)] := by rfl) : CI X N tg (.Call (.Name "range" p) [a, b] [] pos) (mRg2 ma mb) := by
  refine ⟨fun pins s σ H R I h => (pi_range2 hg hm (pa_cons ha (pa_cons hb pa_nil hs2) (by rw [hs, hs2])) hs hs2).run pins s σ H R I ?_⟩
  obtain ⟨μ, c, Rl, p⟩ := h
  refine ⟨μ, c, Rl, (RunAt.bind p).imp fun x μ1 c1 H1 a1 b1 r1 q1 v d => ⟨μ1, c1, r1, (RunAt.bind q1).imp fun y μ2 c2 H2 a2 b2 r2 q2 w d2 => ?_⟩⟩
  obtain ⟨i, ei, q3⟩ := asI_ret q2
  obtain ⟨j, ej, q4⟩ := asI_ret q3
  subst ei ej
  obtain rfl := vden_i d
  obtain rfl := vden_i d2
  by_cases hj : (okRg i && okRg j) = true
  · rw [if_pos hj] at q4
    rw [Bool.and_eq_true] at hj
    exact ⟨i, j, rfl, ⟨(okRg_ok hj.1).1, (okRg_ok hj.1).2, (okRg_ok hj.2).1, (okRg_ok hj.2).2⟩, q4.ret H2 (Fz.refl _) r2 _ itr_ok⟩
  · rw [if_neg hj] at q4
    exact q4.elim
/-! ### for -/
def forL (g : CV → CS → Option CS) (body : MS) : List PyData → MS
  | [], c => .nx c
  | x :: xs, c => match g (.d x) c with
    | none => .no
    | some c1 => match body c1 with
      | .nx c2 => forL g body xs c2
      | .ct c2 => forL g body xs c2
      | .bk c2 => .nx c2
      | .rt y c2 => .rt y c2
      | .ex e c2 => .ex e c2
      | .no => .no
def sFor (mi : Mo (List PyData)) (g : Tg) (body : MS) : MS := sBind mi fun xs => forL g.f body xs
theorem cs_for {body : List Stmt} {mi : Mo (List PyData)} {g : Tg} {mb : MS} (hp : PassesOwn (model X.prog X.w) X.A X.env X.xe) (hc : X.calm = true) (hi : CI X N tg iter mi) (hg : CG X tg g) (hb : CSs X N body mb) (hs : ∀ x, foldedSetIterable iter X.env x = pure x := by intro _; rfl) :
    CS1 X N (.For tg iter body [] pos) (sFor mi g mb) := by
  refine PS.tm (ps_for hp hc hi hg hb hs) fun D σ H ⟨μ, c, R, p⟩ => ⟨μ, c, R, (RunS.bind p).imp fun xs μ1 c1 H1 a b r q J ok => ?_⟩
  refine ⟨fun i m σ' H' => ∃ μ' c', i + m = xs.length ∧ Rel (gh X N) μ' c' σ' H' ∧ μ1 <+: μ' ∧ Fz H1 H' ∧ RunS (gh X N) N.W (forL g.f mb (xs.drop i) c') μ' H' D, ⟨xs.length, μ1, c1, by omega, r, List.prefix_refl _, Fz.refl _, q⟩, ?_⟩
  rintro i m σ' H' ⟨μ', c', em, R', p', f', q'⟩
  by_cases hi : i < xs.length
  · have hd : xs.drop i = xs[i] :: xs.drop (i + 1) := List.drop_eq_getElem_cons hi
    rw [hd] at q'
    refine .inr ⟨ok.go i H' hi f', fun σ2 H2 => ∃ μ2 c2, Rel (gh X N) μ2 c2 σ2 H2 ∧ μ1 <+: μ2 ∧ Fz H1 H2 ∧ RunS (gh X N) N.W (forL g.f mb (xs.drop (i + 1)) c2) μ2 H2 D, ?_, ?_⟩
    · rintro σ2 H2 ⟨μ2, c2, R2, p2, f2, q2⟩
      exact ⟨m - 1, by omega, μ2, c2, by omega, R2, p2, f2, q2⟩
    · intro x H2 y
      obtain ⟨sm, z, hz, dz⟩ := ok.yld i H' x H2 hi f' y
      rw [List.getElem?_eq_getElem hi] at hz
      cases hz
      have R2 := R'.same sm
      have f2 := f'.trans (Fz.same sm)
      unfold forL at q'
      cases hg1 : g.f (.d xs[i]) c' with
      | none =>
        rw [hg1] at q'
        exact q'.elim
      | some c1' =>
        rw [hg1] at q'
        dsimp only at q'
        refine ⟨N.B, N.m0, μ', c', .d xs[i], c1', R2, dz, hg1, fun σ3 o3 R3 => ⟨μ', c1', R3, ?_⟩⟩
        cases hb1 : mb c1' with
        | nx c2 =>
          rw [hb1] at q'
          exact fun μ4 σ4 H4 a4 b4 R4 => ⟨μ4, c2, R4, p'.trans a4, f2.trans b4, RunS.up q' a4 ((Fz.same sm).trans b4)⟩
        | ct c2 =>
          rw [hb1] at q'
          exact fun μ4 σ4 H4 a4 b4 R4 => ⟨μ4, c2, R4, p'.trans a4, f2.trans b4, RunS.up q' a4 ((Fz.same sm).trans b4)⟩
        | bk c2 =>
          rw [hb1] at q'
          exact fun μ4 σ4 H4 a4 b4 R4 => q' μ4 σ4 H4 a4 ((Fz.same sm).trans b4) R4
        | rt y c2 =>
          rw [hb1] at q'
          exact fun μ4 σ4 H4 v a4 b4 R4 => q' μ4 σ4 H4 v a4 ((Fz.same sm).trans b4) R4
        | ex y c2 =>
          rw [hb1] at q'
          exact fun μ4 σ4 cls d H4 a4 b4 R4 => q' μ4 σ4 cls d H4 a4 ((Fz.same sm).trans b4) R4
        | no =>
          rw [hb1] at q'
          exact q'.elim
  · have hd : xs.drop i = [] := List.drop_eq_nil_of_le (by omega)
    rw [hd] at q'
    exact .inl ⟨ok.stop i H' (by omega) f', RunS.nx' q' R'⟩
/-! ### while -/
def whL (ct : Mo Bool) (body : MS) : Nat → MS
  | 0, _ => .no
  | n + 1, c => match ct c with
    | .ok true c1 => match body c1 with
      | .nx c2 => whL ct body n c2
      | .ct c2 => whL ct body n c2
      | .bk c2 => .nx c2
      | .rt y c2 => .rt y c2
      | .ex e c2 => .ex e c2
      | .no => .no
    | .ok false c1 => .nx c1
    | .ex e c1 => .ex e c1
    | .no => .no
theorem cs_while (n : Nat) {c : Expr} {body : List Stmt} {mc : Mo Bool} {mb : MS} (hp : PassesOwn (model X.prog X.w) X.A X.env X.xe) (hc : CT X N c mc) (hb : CSs X N body mb) : CS1 X N (.While c body [] pos) (whL mc mb n) := by
  refine PS.tm (ps_while hp hc hb) fun D σ H ⟨μ, c, R, p⟩ => ?_
  refine ⟨fun m σ' H' => ∃ μ' c', Rel (gh X N) μ' c' σ' H' ∧ RunS (gh X N) N.W (whL mc mb m c') μ' H' D, ⟨n, μ, c, R, p⟩, ?_⟩
  rintro m σ' H' ⟨μ', c', R', q'⟩
  cases m with
  | zero => exact q'.elim
  | succ m =>
    refine ⟨μ', c', R', ?_⟩
    unfold whL at q'
    unfold RunAt
    cases ht : mc c' with
    | ok k c1 =>
      rw [ht] at q'
      intro μ1 H1 p1 f1 R1
      cases k with
      | false => exact iteF (q' μ1 _ H1 p1 f1 R1)
      | true =>
        dsimp only at q'
        refine iteT ⟨fun σ2 H2 => ∃ μ2 c2, Rel (gh X N) μ2 c2 σ2 H2 ∧ RunS (gh X N) N.W (whL mc mb m c2) μ2 H2 D, fun σ2 H2 ⟨μ2, c2, R2, q2⟩ => ⟨m, Nat.lt_succ_self _, μ2, c2, R2, q2⟩, μ1, c1, R1, ?_⟩
        cases hb1 : mb c1 with
        | nx c2 =>
          rw [hb1] at q'
          exact fun μ4 σ4 H4 a4 b4 R4 => ⟨μ4, c2, R4, RunS.up q' (p1.trans a4) (f1.trans b4)⟩
        | ct c2 =>
          rw [hb1] at q'
          exact fun μ4 σ4 H4 a4 b4 R4 => ⟨μ4, c2, R4, RunS.up q' (p1.trans a4) (f1.trans b4)⟩
        | bk c2 =>
          rw [hb1] at q'
          exact fun μ4 σ4 H4 a4 b4 R4 => q' μ4 σ4 H4 (p1.trans a4) (f1.trans b4) R4
        | rt y c2 =>
          rw [hb1] at q'
          exact fun μ4 σ4 H4 v a4 b4 R4 => q' μ4 σ4 H4 v (p1.trans a4) (f1.trans b4) R4
        | ex y c2 =>
          rw [hb1] at q'
          exact fun μ4 σ4 cls d H4 a4 b4 R4 => q' μ4 σ4 cls d H4 (p1.trans a4) (f1.trans b4) R4
        | no =>
          rw [hb1] at q'
          exact q'.elim
    | ex x c1 =>
      rw [ht] at q'
      exact fun μ1 cls d H1 p1 f1 R1 => q' μ1 σ' cls d H1 p1 f1 R1
    | no =>
      rw [ht] at q'
      exact q'.elim
end
end Cl

set_option Elab.async false
set_option maxRecDepth 100000
set_option maxHeartbeats 2000000
namespace Cl
open PySem PySem.Spec PyProof.Rows L2
/-! ### list comprehensions -/
def wipeS (sl : List Sl) : List Nat → List Sl
  | [] => sl
  | v :: vs => (wipeS sl vs).set v .un
def wipeC (vs : List Nat) (c : CS) : CS := { c with sl := wipeS c.sl vs }
/-- behind the block: the names of the block as they were, if they held values -/
def restS (sl0 sl : List Sl) : List Nat → List Sl
  | [] => sl
  | v :: vs => (restS sl0 sl vs).set v (match sl0[v]? with
    | some (.v x) => .v x
    | _ => .un)
def restC (vs : List Nat) (c0 c : CS) : CS := { c with sl := restS c0.sl c.sl vs }
def compL (g : CV → CS → Option CS) (tt : Mo Bool) (te : Mo CV) (vs : List Nat) : List PyData → List PyData → Mo (List PyData)
  | [], acc, c => .ok acc c
  | x :: xs, acc, c => match g (.d x) (wipeC vs c) with
    | none => .no
    | some c1 => match tt c1 with
      | .ok true c2 => match te c2 with
        | .ok (.d y) c3 => if acc.length < 16777216 then compL g tt te vs xs (acc ++ [y]) c3 else .no
        | _ => .no
      | .ok false c2 => compL g tt te vs xs acc c2
      | _ => .no
def mLc (mi : Mo (List PyData)) (g : Tg) (tt : Mo Bool) (te : Mo CV) (vs : List Nat) : Mo (List PyData) := mBind mi fun xs c0 => match compL g.f tt te vs xs [] c0 with
  | .ok acc c => .ok acc (restC vs c0 (wipeC vs c))
  | _ => .no
/-- the readings within a block: whatever the new list holds so far -/
def tMx (K : KW) (mg : Str → Option Value) (m : Mo CV) : TE := fun σ H Q => ∃ B m0, tM ⟨K, mg, B, m0⟩ (fun _ _ _ _ => False) m σ H Q
def tTx (K : KW) (mg : Str → Option Value) (m : Mo Bool) : TT := fun σ H Q => ∃ B m0, tT ⟨K, mg, B, m0⟩ (fun _ _ _ _ => False) m σ H Q
abbrev CEx (X : Cx) (e : Expr) (m : Mo CV) : Prop := ∀ B m0, CE X ⟨B, m0, fun _ _ _ _ => False⟩ e m
abbrev CTx (X : Cx) (e : Expr) (m : Mo Bool) : Prop := ∀ B m0, CT X ⟨B, m0, fun _ _ _ _ => False⟩ e m
theorem cex_pe {X : Cx} {e : Expr} {m : Mo CV} (h : CEx X e m) : PE X e (tMx (kwOf X) X.mg m) := ⟨fun pins s σ H Q I ⟨B, m0, q⟩ => (h B m0).run pins s σ H Q I q⟩
theorem ctx_pt {X : Cx} {e : Expr} {m : Mo Bool} (h : CTx X e m) : PT X e (tTx (kwOf X) X.mg m) := ⟨fun pins s σ H Q I ⟨B, m0, q⟩ => (h B m0).run pins s σ H Q I q⟩
/-- the tests of a clause -/
def mYes : Mo Bool := mRet true
theorem pts_yes {X : Cx} : PTs X [] (tTx (kwOf X) X.mg mYes) := ⟨fun pins s σ H Q I ⟨B, m0, μ, c, R, p⟩ => pts_nil.run pins s σ H Q I (p.ret H (Fz.refl _) R)⟩
theorem pts_c {X : Cx} {e : Expr} {m : Mo Bool} (h : CTx X e m) : PTs X [e] (tTx (kwOf X) X.mg m) := pts_one (ctx_pt h)
theorem wipeS_len (sl : List Sl) : ∀ vs, (wipeS sl vs).length = sl.length
  | [] => rfl
  | v :: vs => by
    unfold wipeS
    rw [List.length_set, wipeS_len sl vs]
section
variable {G : Gh} {μ : List Addr} {c : CS} {σ : LSt} {H : Hp}
theorem Rel.wiped (R : Rel G μ c σ H) : ∀ vs, Rel G μ (wipeC vs c) (wipe σ vs) H
  | [] => R
  | v :: vs => (Rel.wiped R vs).forget (i := v) (t := none)
/-- wiping twice -/
theorem Rel.rewipe {vs : List Nat} {σ2 : LSt} (R : Rel G μ c σ2 H) (e : wipe σ2 vs = wipe σ vs) : Rel G μ (wipeC vs c) (wipe σ vs) H := by
  rw [← e]
  exact R.wiped vs
theorem wipe_out' {σ σ1 : LSt} {ix vs : List Nat} (o : Out ix (wipe σ vs) σ1) (h : ∀ i, i ∈ ix → i ∈ vs) : wipe σ1 vs = wipe σ vs := by
  apply List.ext_getElem?
  intro j
  by_cases hj : j ∈ vs
  · have gone : ∀ (τ : LSt) (us : List Nat), j ∈ us → τ.length = σ.length → (wipe τ us)[j]? = if j < σ.length then some none else none := by
      intro τ us
      induction us with
      | nil => intro h; cases h
      | cons u us ih =>
        intro hu hl
        unfold wipe
        by_cases e : u = j
        · subst e
          by_cases hlt : u < σ.length
          · rw [if_pos hlt, List.getElem?_set_self (by rw [wipe_length, hl]; exact hlt)]
          · rw [if_neg hlt, List.getElem?_eq_none (by rw [List.length_set, wipe_length, hl]; omega)]
        · rw [List.getElem?_set_ne e]
          rcases List.mem_cons.mp hu with z | z
          · exact absurd z.symm e
          · exact ih z hl
    rw [gone σ1 vs hj (by rw [o.1, wipe_length]), gone σ vs hj rfl]
  · rw [wipe_out hj, wipe_out hj]
    have := o.2 j fun z => hj (h j z)
    rw [this, wipe_out hj]
/-- the ground: what is fixed around, with the new list -/
theorem Rel.onD {K : KW} {mg : Str → Option Value} {B : Hp} {m0 : List Addr} {D : Addr} {vs : List V} (R : Rel ⟨K, mg, B, m0⟩ μ c σ H) (hD : H D = none) :
    Rel ⟨K, mg, upd B D (.lst vs), m0⟩ μ c σ (upd H D (.lst vs)) ∧ D ∉ m0 := by
  have f := R.fresh hD
  have R1 := R.same (same_new (o := .lst vs) hD)
  refine ⟨⟨R1.len, R1.vl, fun i s e k => ?_, R1.ap, R1.hl, fun n o e => ?_, R1.nd, R1.pre, fun a h1 h2 => ?_, fun a o h1 h2 => ?_⟩, fun z => f.1 (R.pre.subset z)⟩
  · obtain ⟨a, ho, a1, a2, a3, a4, a5⟩ := R1.ow i s e k
    refine ⟨a, ho, a1, a2, a3, ?_, a5⟩
    obtain ⟨a', ho', b1, b2, _⟩ := R.ow i s e k
    rw [a1] at b1
    cases b1
    show upd B D _ a = none
    rw [upd_ne]
    · exact a4
    · rintro rfl
      rw [hD] at b2
      cases b2
  · obtain ⟨a, ho, a1, a2, a3⟩ := R1.hp n o e
    exact ⟨a, ho, a1, a2, a3.g rfl rfl⟩
  · show upd B D _ a = none
    rw [upd_ne]
    · exact R1.new a h1 h2
    · rintro rfl
      exact f.1 h1
  · have h1 : upd B D _ a = some o := h1
    by_cases ha : a = D
    · subst ha
      rw [upd_same] at h1
      rw [upd_same]
      exact h1
    · rw [upd_ne ha] at h1
      exact R1.fr a o h1 h2
theorem Rel.chD {K : KW} {mg : Str → Option Value} {B : Hp} {m0 : List Addr} {D : Addr} {vs ws : List V} (R : Rel ⟨K, mg, upd B D (.lst vs), m0⟩ μ c σ H) (hm : D ∉ m0) :
    H D = some (.lst vs) ∧ Rel ⟨K, mg, upd B D (.lst ws), m0⟩ μ c σ (upd H D (.lst ws)) ∧ Fz H (upd H D (.lst ws)) := by
  have hD : H D = some (.lst vs) := R.fr D _ (show upd B D (.lst vs) D = _ from upd_same) hm
  have fz : Fz H (upd H D (.lst ws)) := fz_lst hD
  have Dm : D ∉ μ := fun z => by
    have this : upd B D (.lst vs) D = none := R.new D z hm
    rw [upd_same] at this
    cases this
  have ow : ∀ (i : Nat) (s : Sl), c.sl[i]? = some s → s.own = true → ∀ a, σ[i]? = some (some (.ref a)) → a ≠ D := fun i s e k a ha z => by
    obtain ⟨a', ho, a1, a2, a3, a4, a5⟩ := R.ow i s e k
    rw [ha] at a1
    cases a1
    have a4 : upd B D (.lst vs) a = none := a4
    rw [z, upd_same] at a4
    cases a4
  refine ⟨hD, ⟨R.len, fun i x e => ?_, fun i s e k => ?_, R.ap, R.hl, fun n o e => ?_, R.nd, R.pre, fun a h1 h2 => ?_, fun a o h1 h2 => ?_⟩, fz⟩
  · obtain ⟨v, a, b⟩ := R.vl i x e
    exact ⟨v, a, b.mono fz (List.prefix_refl _)⟩
  · obtain ⟨a, ho, a1, a2, a3, a4, a5⟩ := R.ow i s e k
    have ne := ow i s e k a a1
    refine ⟨a, ho, a1, by rw [upd_ne ne]; exact a2, a3.mono fz, ?_, a5⟩
    have a4 : upd B D (.lst vs) a = none := a4
    rw [upd_ne ne] at a4
    show upd B D _ a = none
    rw [upd_ne ne]
    exact a4
  · obtain ⟨a, ho, a1, a2, a3⟩ := R.hp n o e
    refine ⟨a, ho, a1, ?_, (a3.mono fz (List.prefix_refl _)).g rfl rfl⟩
    rw [upd_ne]
    · exact a2
    · rintro rfl
      exact Dm (List.mem_of_getElem? a1)
  · have := R.new a h1 h2
    have h3 : upd B D (.lst vs) a = none := this
    have ne : a ≠ D := fun z => by
      rw [z, upd_same] at h3
      cases h3
    rw [upd_ne ne] at h3
    show upd B D _ a = none
    rw [upd_ne ne]
    exact h3
  · have h1 : upd B D (.lst ws) a = some o := h1
    by_cases ha : a = D
    · subst ha
      rw [upd_same] at h1
      rw [upd_same]
      exact h1
    · rw [upd_ne ha] at h1
      rw [upd_ne ha]
      exact R.fr a o (show upd B D (.lst vs) a = some o by rw [upd_ne ha]; exact h1) h2
/-- without the new list -/
def offD (H : Hp) (D : Addr) : Hp := fun b => if b = D then none else H b
theorem offD_same {H : Hp} {D : Addr} : offD H D D = none := by unfold offD; rw [if_pos rfl]
theorem offD_ne {H : Hp} {D a : Addr} (h : a ≠ D) : offD H D a = H a := by unfold offD; rw [if_neg h]
theorem offD_upd {H : Hp} {D : Addr} {o : HO} (h : H D = some o) : upd (offD H D) D o = H := by
  funext b
  by_cases hb : b = D
  · subst hb
    rw [upd_same, h]
  · rw [upd_ne hb, offD_ne hb]
theorem offD_fz {H : Hp} {D : Addr} {vs : List V} (h : H D = some (.lst vs)) : Fz H (offD H D) := by
  refine ⟨fun a xs e => ?_, fun a o u e => ?_⟩
  · rw [offD_ne]
    · exact e
    · rintro rfl
      rw [h] at e
      cases e
  · rw [offD_ne]
    · exact e
    · rintro rfl
      rw [h] at e
      cases e
theorem Rel.offD {K : KW} {mg : Str → Option Value} {B : Hp} {m0 : List Addr} {D : Addr} {vs : List V} (R : Rel ⟨K, mg, upd B D (.lst vs), m0⟩ μ c σ H) (hm : D ∉ m0) (hB : B D = none) :
    H D = some (.lst vs) ∧ Rel ⟨K, mg, B, m0⟩ μ c σ (offD H D) := by
  have hD : H D = some (.lst vs) := R.fr D _ (show upd B D (.lst vs) D = _ from upd_same) hm
  have fz := offD_fz hD
  have Dm : D ∉ μ := fun z => by
    have this : upd B D (.lst vs) D = none := R.new D z hm
    rw [upd_same] at this
    cases this
  refine ⟨hD, ⟨R.len, fun i x e => ?_, fun i s e k => ?_, R.ap, R.hl, fun n o e => ?_, R.nd, R.pre, fun a h1 h2 => ?_, fun a o h1 h2 => ?_⟩⟩
  · obtain ⟨v, a, b⟩ := R.vl i x e
    exact ⟨v, a, b.mono fz (List.prefix_refl _)⟩
  · obtain ⟨a, ho, a1, a2, a3, a4, a5⟩ := R.ow i s e k
    have a4 : upd B D (.lst vs) a = none := a4
    have ne : a ≠ D := fun z => by
      rw [z, upd_same] at a4
      cases a4
    rw [upd_ne ne] at a4
    exact ⟨a, ho, a1, by rw [offD_ne ne]; exact a2, a3.mono fz, a4, a5⟩
  · obtain ⟨a, ho, a1, a2, a3⟩ := R.hp n o e
    refine ⟨a, ho, a1, ?_, (a3.mono fz (List.prefix_refl _)).g rfl rfl⟩
    rw [offD_ne]
    · exact a2
    · rintro rfl
      exact Dm (List.mem_of_getElem? a1)
  · have h3 : upd B D (.lst vs) a = none := R.new a h1 h2
    have ne : a ≠ D := fun z => by
      rw [z, upd_same] at h3
      cases h3
    rw [upd_ne ne] at h3
    exact h3
  · have ne : a ≠ D := fun z => by
      rw [z] at h1
      have h1 : B D = some o := h1
      rw [hB] at h1
      cases h1
    rw [offD_ne ne]
    exact R.fr a o (show upd B D (.lst vs) a = some o by rw [upd_ne ne]; exact h1) h2
/-- back behind the block -/
theorem Rel.back {vs : List Nat} {c0 : CS} (R : Rel G μ c (wipe σ vs) H) (hl : c0.sl.length = σ.length) (h0 : ∀ (i : Nat) (x : CV), c0.sl[i]? = some (.v x) → ∃ v, σ[i]? = some (some v) ∧ VDen G.K H μ x v) : Rel G μ (restC vs c0 c) σ H := by
  have hL : c.sl.length = σ.length := by rw [R.len, wipe_length]
  have key : ∀ (us : List Nat) (j : Nat), (restS c0.sl c.sl us).length = σ.length ∧ (j ∉ us → (restS c0.sl c.sl us)[j]? = c.sl[j]?) ∧ (j ∈ us → ∀ s, (restS c0.sl c.sl us)[j]? = some s → (∃ x, s = .v x ∧ c0.sl[j]? = some (.v x)) ∨ s = .un) := by
    intro us
    induction us with
    | nil => exact fun j => ⟨hL, fun _ => rfl, fun h => by cases h⟩
    | cons u us ih =>
      intro j
      obtain ⟨i1, i2, i3⟩ := ih j
      refine ⟨by unfold restS; rw [List.length_set]; exact i1, fun h => ?_, fun h s e => ?_⟩
      · rw [List.mem_cons, not_or] at h
        unfold restS
        rw [List.getElem?_set_ne (fun z => h.1 z.symm)]
        exact i2 h.2
      · unfold restS at e
        by_cases hu : u = j
        · subst hu
          have hlt : u < (restS c0.sl c.sl us).length := by
            have := (List.getElem?_eq_some_iff.mp e).1
            rwa [List.length_set] at this
          rw [List.getElem?_set_self hlt] at e
          cases h1 : c0.sl[u]? with
          | none =>
            rw [h1] at e
            cases e
            exact .inr rfl
          | some s0 =>
            rw [h1] at e
            cases s0 with
            | v x =>
              cases e
              exact .inl ⟨x, rfl, rfl⟩
            | un =>
              cases e
              exact .inr rfl
            | ol _ =>
              cases e
              exact .inr rfl
            | od _ =>
              cases e
              exact .inr rfl
        · rw [List.getElem?_set_ne hu] at e
          rcases List.mem_cons.mp h with z | z
          · exact absurd z.symm hu
          · exact i3 z s e
  have k := key vs
  have own_out : ∀ (i : Nat) (s : Sl), (restS c0.sl c.sl vs)[i]? = some s → s.own = true → i ∉ vs ∧ c.sl[i]? = some s ∧ (wipe σ vs)[i]? = σ[i]? := fun i s e o => by
    by_cases hi : i ∈ vs
    · rcases (k i).2.2 hi s e with ⟨x, rfl, _⟩ | rfl <;> cases o
    · exact ⟨hi, by rw [← (k i).2.1 hi]; exact e, wipe_out hi⟩
  refine ⟨(k 0).1, fun i x e => ?_, fun i s e o => ?_, fun i j s t a n e1 o1 e2 o2 => ?_, R.hl, R.hp, R.nd, R.pre, R.new, R.fr⟩
  · have e : (restS c0.sl c.sl vs)[i]? = some (.v x) := e
    by_cases hi : i ∈ vs
    · rcases (k i).2.2 hi _ e with ⟨y, e1, e2⟩ | e1
      · cases e1
        exact h0 i x e2
      · cases e1
    · rw [(k i).2.1 hi] at e
      obtain ⟨v, a, b⟩ := R.vl i x e
      rw [wipe_out hi] at a
      exact ⟨v, a, b⟩
  · obtain ⟨h1, h2, h3⟩ := own_out i s e o
    rw [← h3]
    exact R.ow i s h2 o
  · obtain ⟨h1, h2, h3⟩ := own_out i s e1 o1
    obtain ⟨g1, g2, g3⟩ := own_out j t e2 o2
    rw [← h3, ← g3]
    exact R.ap i j s t a n h2 o1 g2 o2
end
section
variable {X : Cx} {N : Wn} {elt tg iter : Expr} {ifs : List Expr} {scope : Scope} {own : List (Str × Nat)} {pos : Pos} {mi : Mo (List PyData)} {g : Tg} {tt : Mo Bool} {te : Mo CV}
theorem lc_tm {vs : List Nat} (hix : ∀ i, i ∈ g.ix → i ∈ vs) {σ : LSt} {H : Hp} {Q : VK} (h : tF (gh X N) N.W (mLc mi g tt te vs) σ H Q) :
    tLc (tI (gh X N) N.W mi) (tG (kwOf X) X.mg g) (tTx (kwOf X) X.mg tt) (tMx (kwOf X) X.mg te) vs σ H Q := by
  obtain ⟨μ, c, R, p⟩ := h
  refine ⟨μ, c, R, (RunAt.bind p).imp fun xs μ1 c1 H1 a b r q J ok D hD => ?_⟩
  obtain ⟨rD, Dm⟩ := r.onD (vs := []) hD
  have BD : N.B D = none := (r.fresh hD).2
  -- what the whole gives
  obtain ⟨acc, c9, e9, q⟩ : ∃ acc c9, compL g.f tt te vs xs [] c1 = .ok acc c9 ∧ ∀ μ2 H2, μ1 <+: μ2 → Fz H1 H2 → Rel (gh X N) μ2 (restC vs c1 (wipeC vs c9)) σ H2 → ∀ p ws, H2 p = none → DenL (kwOf X) H2 acc ws → Q (.ref p) (upd H2 p (.lst ws)) := by
    unfold RunAt at q
    dsimp only at q
    cases e : compL g.f tt te vs xs [] c1 with
    | ok acc c9 =>
      rw [e] at q
      exact ⟨acc, c9, rfl, q⟩
    | ex _ _ =>
      rw [e] at q
      exact q.elim
    | no =>
      rw [e] at q
      exact q.elim
  refine ⟨fun i m H' => ∃ ys ws μ' c', i + m = xs.length ∧ Rel ⟨(kwOf X), X.mg, upd N.B D (.lst ws), N.m0⟩ μ' (wipeC vs c') (wipe σ vs) H' ∧ μ1 <+: μ' ∧ Fz H1 H' ∧ DenL (kwOf X) H' ys ws ∧ compL g.f tt te vs (xs.drop i) ys c' = .ok acc c9,
    ⟨xs.length, [], [], μ1, c1, by omega, rD.wiped vs, List.prefix_refl _, Fz.same (same_new hD), .nil, e9⟩, ?_⟩
  rintro i m H' ⟨ys, ws, μ', c', em, R', p', f', dl, e'⟩
  by_cases hi : i < xs.length
  · have hd : xs.drop i = xs[i] :: xs.drop (i + 1) := List.drop_eq_getElem_cons hi
    rw [hd] at e'
    refine .inr ⟨ok.go i H' hi f', fun H2 => ∃ ys ws μ' c', Rel ⟨(kwOf X), X.mg, upd N.B D (.lst ws), N.m0⟩ μ' (wipeC vs c') (wipe σ vs) H2 ∧ μ1 <+: μ' ∧ Fz H1 H2 ∧ DenL (kwOf X) H2 ys ws ∧ compL g.f tt te vs (xs.drop (i + 1)) ys c' = .ok acc c9, ?_, fun x H2 y => ?_⟩
    · rintro H2 ⟨ys, ws, μ2, c2, R2, p2, f2, d2, e2⟩
      exact ⟨m - 1, by omega, ys, ws, μ2, c2, by omega, R2, p2, f2, d2, e2⟩
    · obtain ⟨sm, z, hz, dz⟩ := ok.yld i H' x H2 hi f' y
      rw [List.getElem?_eq_getElem hi] at hz
      cases hz
      have R2 := R'.same sm
      have f2 := f'.trans (Fz.same sm)
      have dl2 := DenL.mono (Fz.same sm) _ _ dl
      unfold compL at e'
      cases hg1 : g.f (.d xs[i]) (wipeC vs c') with
      | none =>
        rw [hg1] at e'
        cases e'
      | some c1' =>
        rw [hg1] at e'
        dsimp only at e'
        refine ⟨upd N.B D (.lst ws), N.m0, μ', wipeC vs c', .d xs[i], c1', R2, dz, hg1, fun σ3 o3 R3 => ?_⟩
        have hw := wipe_out' o3 hix
        refine ⟨hw, upd N.B D (.lst ws), N.m0, μ', c1', R3, ?_⟩
        unfold RunAt
        cases ht : tt c1' with
        | ex _ _ =>
          rw [ht] at e'
          cases e'
        | no =>
          rw [ht] at e'
          cases e'
        | ok k c2 =>
          rw [ht] at e'
          intro μ4 H4 a4 b4 R4
          have dl4 := DenL.mono b4 _ _ dl2
          cases k with
          | false =>
            refine iteF ⟨ys, ws, μ4, c2, ?_, p'.trans a4, f2.trans b4, dl4, e'⟩
            exact R4.rewipe hw
          | true =>
            refine iteT ⟨upd N.B D (.lst ws), N.m0, μ4, c2, R4, ?_⟩
            unfold RunAt
            dsimp only at e'
            cases h5 : te c2 with
            | ex _ _ =>
              rw [h5] at e'
              cases e'
            | no =>
              rw [h5] at e'
              cases e'
            | ok y5 c5 =>
              rw [h5] at e'
              intro μ5 H5 a5 b5 R5 v5 d5
              cases y5 with
              | r _ => cases e'
              | o _ => cases e'
              | d y5 =>
                dsimp only at e'
                by_cases hl : ys.length < 16777216
                · rw [if_pos hl] at e'
                  have dl5 := DenL.mono b5 _ _ dl4
                  obtain ⟨hD5, R6, f6⟩ := R5.chD (ws := ws ++ [v5]) Dm
                  refine ⟨ws, hD5, by rw [dl5.length, sizeLine_eq]; exact hl, ys ++ [y5], ws ++ [v5], μ5, c5, R6.rewipe hw, p'.trans (a4.trans a5), (f2.trans (b4.trans b5)).trans f6, ?_, e'⟩
                  exact DenL.append (DenL.mono f6 _ _ dl5) (.cons (Den.mono f6 _ _ d5) .nil)
                · rw [if_neg hl] at e'
                  cases e'
  · have hd : xs.drop i = [] := List.drop_eq_nil_of_le (by omega)
    rw [hd] at e'
    cases e'
    refine .inl ⟨ok.stop i H' (by omega) f', ?_⟩
    obtain ⟨hD', R2⟩ := R'.offD Dm BD
    have f0 : Fz H1 (Cl.offD H' D) := f'.trans (offD_fz hD')
    have R3 : Rel (gh X N) μ' (restC vs c1 (wipeC vs c9)) σ (Cl.offD H' D) := R2.back r.len fun i x e => by
      obtain ⟨v, h1, h2⟩ := r.vl i x e
      exact ⟨v, h1, h2.mono f0 p'⟩
    have fin := q μ' (Cl.offD H' D) p' f0 R3 D ws offD_same (DenL.mono (offD_fz hD') _ _ dl)
    rw [offD_upd hD'] at fin
    exact fin
theorem cf_lc (hc : X.calm = true) (hN : X.N.Nodup) (hi : CI X N tg iter mi) (ok : BlkOk X.N X.env.scope scope own) (hix : ∀ i, i ∈ g.ix → i ∈ own.map (·.2))
    (hg : ∀ (s : Shared) (H : Hp) (C : Addr) (cl : List (Str × Addr)) (fp : List Addr), CG (X.blk s H scope (compEnvC scope cl C X.env) fp) tg g)
    (ht : ∀ (s : Shared) (H : Hp) (C : Addr) (cl : List (Str × Addr)) (fp : List Addr), PTs (X.blk s H scope (compEnvC scope cl C X.env) fp) ifs (tTx (kwOf X) X.mg tt))
    (he : ∀ (s : Shared) (H : Hp) (C : Addr) (cl : List (Str × Addr)) (fp : List Addr), CEx (X.blk s H scope (compEnvC scope cl C X.env) fp) elt te)
    (hs : ∀ x, foldedSetIterable iter X.env x = pure x := by intro _; rfl) : CF X N (.ListComp elt [⟨tg, iter, ifs, 0⟩] scope pos) (mLc mi g tt te (own.map (·.2))) :=
  PE.tm (pe_lc hc hN hi ok hg ht (fun s H C cl fp => cex_pe (he s H C cl fp)) hs) fun σ H Q => lc_tm hix
/-- name = [..] on one line, the name a local -/
theorem cs_lcOwn (i : Nat) {y : Str} {py spos : Pos} (hc : X.calm = true) (hN : X.N.Nodup) (hi : CI X N tg iter mi) (ok : BlkOk X.N X.env.scope scope own) (hix : ∀ i, i ∈ g.ix → i ∈ own.map (·.2))
    (hg : ∀ (s : Shared) (H : Hp) (C : Addr) (cl : List (Str × Addr)) (fp : List Addr), CG (X.blk s H scope (compEnvC scope cl C X.env) fp) tg g)
    (ht : ∀ (s : Shared) (H : Hp) (C : Addr) (cl : List (Str × Addr)) (fp : List Addr), PTs (X.blk s H scope (compEnvC scope cl C X.env) fp) ifs (tTx (kwOf X) X.mg tt))
    (he : ∀ (s : Shared) (H : Hp) (C : Addr) (cl : List (Str × Addr)) (fp : List Addr), CEx (X.blk s H scope (compEnvC scope cl C X.env) fp) elt te)
    (hsw : swapsWith (.ListComp elt [⟨tg, iter, ifs, 0⟩] scope pos) (some (.Name y py)) spos.line X.env = pure true) (hy : X.N[i]? = some y := by rfl) (hyl : X.env.scope.names.lookup y = some .local := by rfl)
    (hs : ∀ x, foldedSetIterable iter X.env x = pure x := by intro _; rfl) : CS1 X N (.Assign [.Name y py] (.ListComp elt [⟨tg, iter, ifs, 0⟩] scope pos) spos) (sOwn i (mLc mi g tt te (own.map (·.2)))) :=
  PS.tm (ps_setLc (i := i) hc hN hy hyl hsw hi ok hg ht (fun s H C cl fp => cex_pe (he s H C cl fp)) hs) fun D σ H h => lc_tm hix (own_tm D σ H h)
end
end Cl

set_option Elab.async false
set_option maxRecDepth 100000
set_option maxHeartbeats 2000000
/-! Built-in functions of one argument. -/
namespace Cl
open PySem PySem.Spec PyProof.Rows L2
section
variable {X : Cx} {N : Wn} {e a b : Expr} {es : List Expr} {pos p : Pos}
/-- what a call of one argument, read on the spot, must allow -/
def Ans (X : Cx) (N : Wn) (r : List V → Hp → VK → Prop) (g : BV → Mo CV) : Prop := ∀ (y : BV) (v : V) (μ : List Addr) (c : CS) (σ : LSt) (H : Hp) (Q : VK), Rel (gh X N) μ c σ H → BDen (kwOf X) H μ y v →
  RunAt (gh X N) N.W (g y) μ c σ H (fun z μ1 _ H1 => ∀ w, VDen (kwOf X) H1 μ1 z w → Q w H1) → r [v] H Q
def AnsF (X : Cx) (N : Wn) (r : List V → Hp → VK → Prop) (g : BV → Mo (List PyData)) : Prop := ∀ (y : BV) (v : V) (μ : List Addr) (c : CS) (σ : LSt) (H : Hp) (Q : VK), Rel (gh X N) μ c σ H → BDen (kwOf X) H μ y v →
  RunAt (gh X N) N.W (g y) μ c σ H (fun xs _ _ H1 => ∀ q vs, H1 q = none → DenL (kwOf X) H1 xs vs → Q (.ref q) (upd H1 q (.lst vs))) → r [v] H Q
theorem call1 {r : List V → Hp → VK → Prop} {g : BV → Mo CV} {m : Mo BV} {call : Expr} (hP : ∀ {t : TA}, PA X [e] t → PE X call (tCB r t)) (hb : CB X N e m) (h : Ans X N r g)
    (hs : starEach [e] X.env = (false, eval e X.env) :: starEach [] X.env := by rfl) : CE X N call (mBind m g) :=
  PE.tm (hP (pa_cons hb pa_nil hs)) fun σ H Q ⟨μ, c, R, p⟩ => ⟨μ, c, R, (RunAt.bind p).imp fun y μ1 c1 H1 a b r1 q v d => h y v μ1 c1 σ H1 Q r1 d q⟩
theorem call1f {r : List V → Hp → VK → Prop} {g : BV → Mo (List PyData)} {m : Mo BV} {call : Expr} (hP : ∀ {t : TA}, PA X [e] t → PE X call (tCB r t)) (hb : CB X N e m) (h : AnsF X N r g)
    (hs : starEach [e] X.env = (false, eval e X.env) :: starEach [] X.env := by rfl) : CF X N call (mBind m g) :=
  PE.tm (hP (pa_cons hb pa_nil hs)) fun σ H Q ⟨μ, c, R, p⟩ => ⟨μ, c, R, (RunAt.bind p).imp fun y μ1 c1 H1 a b r1 q v d => h y v μ1 c1 σ H1 Q r1 d q⟩
/-! ### the items of what is read -/
def asDs : List CV → Option (List PyData)
  | [] => some []
  | .d x :: t => (asDs t).map (x :: ·)
  | _ => none
theorem asDs_den {K : KW} {H : Hp} {μ : List Addr} : ∀ {xs : List CV} {ys : List PyData} {vs : List V}, asDs xs = some ys → VDenL K H μ xs vs → DenL K H ys vs
  | [], ys, _, e, .nil => by
    cases e
    exact .nil
  | .d x :: t, ys, _, e, .cons h r => by
    unfold asDs at e
    cases q : asDs t with
    | none =>
      rw [q] at e
      cases e
    | some zs =>
      rw [q] at e
      cases e
      exact .cons h (asDs_den q r)
  | .r _ :: _, _, _, e, _ => by cases e
  | .o _ :: _, _, _, e, _ => by cases e
/-- a list's -/
def bLst (y : BV) (hp : List CO) : Option (List PyData) := match y with
  | .c (.d (.list xs)) => some xs
  | .l xs => some xs
  | .c (.r n) => match hp[n]? with
    | some (.lst xs) => asDs xs
    | _ => none
  | _ => none
theorem bLst_ok {G : Gh} {y : BV} {μ : List Addr} {c : CS} {σ : LSt} {H : Hp} {w : V} {xs : List PyData} (R : Rel G μ c σ H) (d : BDen G.K H μ y w) (e : bLst y c.hp = some xs) : ∃ l vs, w = .ref l ∧ SqL G.K.K H l vs ∧ DenL G.K H xs vs := by
  cases y with
  | k _ => cases e
  | l ys =>
    cases e
    obtain ⟨l, vs, e1, e2, e3⟩ := d
    exact ⟨l, vs, e1, SqL.of e2, e3⟩
  | c x =>
    cases x with
    | o _ => cases e
    | r n =>
      unfold bLst at e
      dsimp only at e
      cases hn : c.hp[n]? with
      | none =>
        rw [hn] at e
        cases e
      | some ob =>
        rw [hn] at e
        cases ob with
        | dic _ => cases e
        | ins _ _ => cases e
        | lst zs =>
          obtain ⟨l, el, rfl⟩ := d
          obtain ⟨l', ho, e1, e2, vs, rfl, dl⟩ := R.hp n _ hn
          rw [el] at e1
          cases e1
          exact ⟨l, vs, rfl, SqL.of e2, asDs_den e dl⟩
    | d x =>
      cases x with
      | list ys =>
        cases e
        have d : Den G.K H (.list xs) w := d
        simp only [Den] at d
        obtain ⟨l, vs, e1, e2, e3⟩ := d
        exact ⟨l, vs, e1, e2.sq, e3⟩
      | none => cases e
      | bool _ => cases e
      | int _ => cases e
      | str _ => cases e
      | tuple _ => cases e
      | dict _ => cases e
/-- a list's or tuple's -/
def bSeq (y : BV) (hp : List CO) : Option (List PyData) := match y with
  | .c (.d (.tuple xs)) => some xs
  | y => bLst y hp
theorem bSeq_ok {G : Gh} {y : BV} {μ : List Addr} {c : CS} {σ : LSt} {H : Hp} {w : V} {xs : List PyData} (R : Rel G μ c σ H) (d : BDen G.K H μ y w) (e : bSeq y c.hp = some xs) : ∃ l vs, w = .ref l ∧ (SqL G.K.K H l vs ∨ SqT G.K.K H l vs) ∧ DenL G.K H xs vs := by
  have lst : bLst y c.hp = some xs → ∃ l vs, w = .ref l ∧ (SqL G.K.K H l vs ∨ SqT G.K.K H l vs) ∧ DenL G.K H xs vs := fun e => by
    obtain ⟨l, vs, e1, e2, e3⟩ := bLst_ok R d e
    exact ⟨l, vs, e1, .inl e2, e3⟩
  cases y with
  | k _ => exact lst e
  | l _ => exact lst e
  | c x =>
    cases x with
    | o _ => exact lst e
    | r _ => exact lst e
    | d x =>
      cases x with
      | tuple ys =>
        cases e
        have d : Den G.K H (.tuple xs) w := d
        simp only [Den] at d
        obtain ⟨l, vs, e1, e2, e3⟩ := d
        exact ⟨l, vs, e1, .inr e2, e3⟩
      | none => exact lst e
      | bool _ => exact lst e
      | int _ => exact lst e
      | str _ => exact lst e
      | list _ => exact lst e
      | dict _ => exact lst e
/-! ### len -/
def lenB (y : BV) (hp : List CO) : Option Nat := match y with
  | .c (.d (.tuple xs)) => some xs.length
  | .c (.d (.list xs)) => some xs.length
  | .c (.d (.str t)) => if t.length ≤ 16777216 then some t.length else none
  | .l xs => some xs.length
  | .c (.r n) => match hp[n]? with
    | some (.lst xs) => some xs.length
    | _ => none
  | _ => none
def gO {α : Type} (f : BV → List CO → Option α) (g : α → β) (y : BV) : Mo β := fun c => match f y c.hp with
  | some z => .ok (g z) c
  | none => .no
theorem gO_ok {α β : Type} {f : BV → List CO → Option α} {g : α → β} {y : BV} {G : Gh} {W : WX} {μ : List Addr} {c : CS} {σ : LSt} {H : Hp} {P : β → List Addr → CS → Hp → Prop} (p : RunAt G W (gO f g y) μ c σ H P) :
    ∃ z, f y c.hp = some z ∧ ∀ H1, Fz H H1 → Rel G μ c σ H1 → P (g z) μ c H1 := by
  unfold RunAt gO at p
  cases h : f y c.hp with
  | none =>
    rw [h] at p
    exact p.elim
  | some z =>
    rw [h] at p
    exact ⟨z, rfl, fun H1 a b => p μ H1 (List.prefix_refl _) a b⟩
def gLen : BV → Mo CV := gO lenB fun n => .d (.int n)
theorem ans_len : Ans X N (fun xs H Q => ∃ x n, xs = [x] ∧ LenV X.K x H n ∧ Q (.int n) H) gLen := by
  intro y v μ c σ H Q R d p
  obtain ⟨n, e, q⟩ := gO_ok p
  refine ⟨v, n, rfl, ?_, q H (Fz.refl _) R _ (vden_int _)⟩
  have seq : ∀ {l : Addr} {vs : List V}, (SqL X.K H l vs ∨ SqT X.K H l vs) → n = vs.length → LenV X.K (.ref l) H n := fun h e => by
    rcases h with h | h
    · exact .inl ⟨_, h, e⟩
    · exact .inr ⟨_, h, e⟩
  have viaS : ∀ xs, bSeq y c.hp = some xs → n = xs.length → LenV X.K v H n := fun xs h1 h2 => by
    obtain ⟨l, vs, rfl, s, dl⟩ := bSeq_ok R d h1
    exact seq s (by rw [h2, dl.length])
  cases y with
  | k _ => cases e
  | l xs =>
    cases e
    exact viaS xs rfl rfl
  | c x =>
    cases x with
    | o _ => cases e
    | r i =>
      unfold lenB at e
      dsimp only at e
      cases hn : c.hp[i]? with
      | none =>
        rw [hn] at e
        cases e
      | some ob =>
        rw [hn] at e
        cases ob with
        | dic _ => cases e
        | ins _ _ => cases e
        | lst zs =>
          cases e
          obtain ⟨l, el, rfl⟩ := d
          obtain ⟨l', ho, e1, e2, vs, rfl, dl⟩ := R.hp i _ hn
          rw [el] at e1
          cases e1
          exact .inl ⟨vs, SqL.of e2, Paired.length dl⟩
    | d x =>
      cases x with
      | tuple xs =>
        cases e
        exact viaS xs rfl rfl
      | list xs =>
        cases e
        exact viaS xs rfl rfl
      | str t =>
        have d : Den (kwOf X) H (.str t) v := d
        simp only [Den] at d
        subst d
        unfold lenB at e
        dsimp only at e
        by_cases h : t.length ≤ 16777216
        · rw [if_pos h] at e
          cases e
          exact ⟨by rw [sizeLine_eq]; exact h, rfl⟩
        · rw [if_neg h] at e
          cases e
      | none => cases e
      | bool _ => cases e
      | int _ => cases e
      | dict _ => cases e
theorem ce_len {m : Mo BV} (hb : CB X N e m) (hm : X.mg "len" = none) (hg : Gl X "len" := by rfl) (hs : starEach [e] X.env = (false, eval e X.env) :: starEach [] X.env := by rfl) :
    CE X N (.Call (.Name "len" p) [e] [] pos) (mBind m gLen) :=
  call1 (fun ha => pe_callB call_len hg hm boot_len ha (he := hs)) hb ans_len hs
/-! ### all, any -/
def asBs : List PyData → Option (List Bool)
  | [] => some []
  | .bool x :: t => (asBs t).map (x :: ·)
  | _ => none
theorem asBs_den {K : KW} {H : Hp} : ∀ {xs : List PyData} {ys : List Bool} {vs : List V}, asBs xs = some ys → DenL K H xs vs → vs = ys.map V.bl
  | [], ys, vs, e, h => by
    cases e
    simp only [DenL] at h
    subst h
    rfl
  | .bool x :: t, ys, vs, e, h => by
    unfold asBs at e
    simp only [DenL, Den] at h
    obtain ⟨v, r, rfl, rfl, h⟩ := h
    cases q : asBs t with
    | none =>
      rw [q] at e
      cases e
    | some zs =>
      rw [q] at e
      cases e
      rw [asBs_den q h]
      rfl
  | .none :: _, _, _, e, _ => by cases e
  | .int _ :: _, _, _, e, _ => by cases e
  | .str _ :: _, _, _, e, _ => by cases e
  | .list _ :: _, _, _, e, _ => by cases e
  | .tuple _ :: _, _, _, e, _ => by cases e
  | .dict _ :: _, _, _, e, _ => by cases e
def bBs (y : BV) (hp : List CO) : Option (List Bool) := (bLst y hp).bind asBs
def gAll : BV → Mo CV := gO bBs fun bs => .d (.bool (bs.all id))
def gAny : BV → Mo CV := gO bBs fun bs => .d (.bool (bs.any id))
theorem bBs_ok {G : Gh} {y : BV} {μ : List Addr} {c : CS} {σ : LSt} {H : Hp} {w : V} {bs : List Bool} (R : Rel G μ c σ H) (d : BDen G.K H μ y w) (e : bBs y c.hp = some bs) : ∃ l, w = .ref l ∧ SqL G.K.K H l (bs.map V.bl) := by
  unfold bBs at e
  cases h : bLst y c.hp with
  | none =>
    rw [h] at e
    cases e
  | some xs =>
    rw [h] at e
    obtain ⟨l, vs, e1, e2, e3⟩ := bLst_ok R d h
    have := asBs_den e e3
    subst this
    exact ⟨l, e1, e2⟩
theorem ans_all : Ans X N (rAll X.K) gAll := by
  intro y v μ c σ H Q R d p
  obtain ⟨bs, e, q⟩ := gO_ok p
  obtain ⟨l, rfl, s⟩ := bBs_ok R d e
  exact ⟨l, bs, rfl, s, q H (Fz.refl _) R _ (vden_bool _)⟩
theorem ans_any : Ans X N (rAny X.K) gAny := by
  intro y v μ c σ H Q R d p
  obtain ⟨bs, e, q⟩ := gO_ok p
  obtain ⟨l, rfl, s⟩ := bBs_ok R d e
  exact ⟨l, bs, rfl, s, q H (Fz.refl _) R _ (vden_bool _)⟩
theorem ce_all {m : Mo BV} (hc : X.calm = true) (hb : CB X N e m) (hm : X.mg "all" = none) (hg : Gl X "all" := by rfl) (hs : starEach [e] X.env = (false, eval e X.env) :: starEach [] X.env := by rfl) :
    CE X N (.Call (.Name "all" p) [e] [] pos) (mBind m gAll) :=
  call1 (fun ha => pe_callB (cr_all hc) hg hm (by rfl) ha (he := hs)) hb ans_all hs
theorem ce_any {m : Mo BV} (hc : X.calm = true) (hb : CB X N e m) (hm : X.mg "any" = none) (hg : Gl X "any" := by rfl) (hs : starEach [e] X.env = (false, eval e X.env) :: starEach [] X.env := by rfl) :
    CE X N (.Call (.Name "any" p) [e] [] pos) (mBind m gAny) :=
  call1 (fun ha => pe_callB (cr_any hc) hg hm (by rfl) ha (he := hs)) hb ans_any hs
/-! ### sum, abs, int -/
def asIs : List PyData → Option (List Int)
  | [] => some []
  | .int x :: t => (asIs t).map (x :: ·)
  | _ => none
theorem asIs_den {K : KW} {H : Hp} : ∀ {xs : List PyData} {ys : List Int} {vs : List V}, asIs xs = some ys → DenL K H xs vs → vs = ys.map V.int
  | [], ys, vs, e, h => by
    cases e
    simp only [DenL] at h
    subst h
    rfl
  | .int x :: t, ys, vs, e, h => by
    unfold asIs at e
    simp only [DenL, Den] at h
    obtain ⟨v, r, rfl, rfl, h⟩ := h
    cases q : asIs t with
    | none =>
      rw [q] at e
      cases e
    | some zs =>
      rw [q] at e
      cases e
      rw [asIs_den q h]
      rfl
  | .none :: _, _, _, e, _ => by cases e
  | .bool _ :: _, _, _, e, _ => by cases e
  | .str _ :: _, _, _, e, _ => by cases e
  | .list _ :: _, _, _, e, _ => by cases e
  | .tuple _ :: _, _, _, e, _ => by cases e
  | .dict _ :: _, _, _, e, _ => by cases e
def bIs (y : BV) (hp : List CO) : Option (List Int) := (bLst y hp).bind asIs
theorem bIs_ok {G : Gh} {y : BV} {μ : List Addr} {c : CS} {σ : LSt} {H : Hp} {w : V} {bs : List Int} (R : Rel G μ c σ H) (d : BDen G.K H μ y w) (e : bIs y c.hp = some bs) : ∃ l, w = .ref l ∧ SqL G.K.K H l (bs.map V.int) := by
  unfold bIs at e
  cases h : bLst y c.hp with
  | none =>
    rw [h] at e
    cases e
  | some xs =>
    rw [h] at e
    obtain ⟨l, vs, e1, e2, e3⟩ := bLst_ok R d h
    have := asIs_den e e3
    subst this
    exact ⟨l, e1, e2⟩
def gSum : BV → Mo CV := gO bIs fun bs => .d (.int bs.sum)
theorem ans_sum : Ans X N (rSum X.K) gSum := by
  intro y v μ c σ H Q R d p
  obtain ⟨bs, e, q⟩ := gO_ok p
  obtain ⟨l, rfl, s⟩ := bIs_ok R d e
  exact ⟨l, bs, rfl, s, q H (Fz.refl _) R _ (vden_int _)⟩
theorem ce_sum {m : Mo BV} (hc : X.calm = true) (hb : CB X N e m) (hm : X.mg "sum" = none) (hg : Gl X "sum" := by rfl) (hs : starEach [e] X.env = (false, eval e X.env) :: starEach [] X.env := by rfl) :
    CE X N (.Call (.Name "sum" p) [e] [] pos) (mBind m gSum) :=
  call1 (fun ha => pe_callB (cr_sum hc) hg hm (by rfl) ha (he := hs)) hb ans_sum hs
def bInt (y : BV) (_ : List CO) : Option Int := match y with
  | .c (.d (.int i)) => some i
  | _ => none
def bIntB (y : BV) (_ : List CO) : Option Int := match y with
  | .c (.d (.int i)) => some i
  | .c (.d (.bool b)) => some (if b then 1 else 0)
  | _ => none
theorem bInt_ok {K : KW} {H : Hp} {μ : List Addr} {y : BV} {v : V} {i : Int} {hp : List CO} (d : BDen K H μ y v) (e : bInt y hp = some i) : v = .int i := by
  cases y with
  | k _ => cases e
  | l _ => cases e
  | c x =>
    cases x with
    | o _ => cases e
    | r _ => cases e
    | d x =>
      cases x with
      | int j =>
        cases e
        have d : Den K H (.int i) v := d
        simpa only [Den] using d
      | none => cases e
      | bool _ => cases e
      | str _ => cases e
      | list _ => cases e
      | tuple _ => cases e
      | dict _ => cases e
def gAbs : BV → Mo CV := gO bInt fun i => .d (.int (if i < 0 then -i else i))
theorem ans_abs : Ans X N (fun xs H Q => ∃ i, xs = [.int i] ∧ Q (.int (if i < 0 then -i else i)) H) gAbs := by
  intro y v μ c σ H Q R d p
  obtain ⟨i, e, q⟩ := gO_ok p
  cases bInt_ok d e
  exact ⟨i, rfl, q H (Fz.refl _) R _ (vden_int _)⟩
theorem ce_abs {m : Mo BV} (hb : CB X N e m) (hm : X.mg "abs" = none) (hg : Gl X "abs" := by rfl) (hs : starEach [e] X.env = (false, eval e X.env) :: starEach [] X.env := by rfl) :
    CE X N (.Call (.Name "abs" p) [e] [] pos) (mBind m gAbs) :=
  call1 (fun ha => pe_callB call_abs hg hm (by rfl) ha (he := hs)) hb ans_abs hs
def gInt : BV → Mo CV := gO bIntB fun i => .d (.int i)
theorem ans_int : Ans X N (fun xs H Q => (∃ i, xs = [.int i] ∧ Q (.int i) H) ∨ ∃ k, xs = [.bl k] ∧ Q (.int (if k then 1 else 0)) H) gInt := by
  intro y v μ c σ H Q R d p
  obtain ⟨i, e, q⟩ := gO_ok p
  have q := q H (Fz.refl _) R _ (vden_int _)
  cases y with
  | k _ => cases e
  | l _ => cases e
  | c x =>
    cases x with
    | o _ => cases e
    | r _ => cases e
    | d x =>
      cases x with
      | int j =>
        cases e
        have d : Den (kwOf X) H (.int i) v := d
        simp only [Den] at d
        exact .inl ⟨i, by rw [d], q⟩
      | bool k =>
        cases e
        have d : Den (kwOf X) H (.bool k) v := d
        simp only [Den] at d
        exact .inr ⟨k, by rw [d], q⟩
      | none => cases e
      | str _ => cases e
      | list _ => cases e
      | tuple _ => cases e
      | dict _ => cases e
theorem ce_intc {m : Mo BV} (hb : CB X N e m) (hm : X.mg "int" = none) (hg : Gl X "int" := by rfl) (hs : starEach [e] X.env = (false, eval e X.env) :: starEach [] X.env := by rfl) :
    CE X N (.Call (.Name "int" p) [e] [] pos) (mBind m gInt) :=
  call1 (fun ha => pe_callTy call_int1 hg hm (by rfl) ha (he := hs)) hb ans_int hs
/-! ### tuple, list -/
def gTupc : BV → Mo CV := gO bSeq fun xs => .d (.tuple xs)
theorem ans_tup : Ans X N (fun xs H Q => ∃ p ys, xs = [.ref p] ∧ ((SqL X.K H p ys ∧ ∀ l, H l = none → Q (.ref l) (upd H l (.tup ys))) ∨ (SqT X.K H p ys ∧ Q (.ref p) H))) gTupc := by
  intro y v μ c σ H Q R d p
  obtain ⟨xs, e, q⟩ := gO_ok p
  obtain ⟨l, vs, rfl, s, dl⟩ := bSeq_ok R d e
  refine ⟨l, vs, rfl, ?_⟩
  rcases s with s | s
  · refine .inl ⟨s, fun t ht => ?_⟩
    have sm : Same H (upd H t (.tup vs)) := same_new ht
    refine q _ (Fz.same sm) (R.same sm) _ ?_
    show Den (kwOf X) _ (.tuple xs) _
    simp only [Den]
    exact ⟨t, vs, rfl, .inl (.inl upd_same), DenL.mono (Fz.same sm) _ _ dl⟩
  · refine .inr ⟨s, q H (Fz.refl _) R _ ?_⟩
    show Den (kwOf X) _ (.tuple xs) _
    simp only [Den]
    exact ⟨l, vs, rfl, s, dl⟩
theorem ce_tupc {m : Mo BV} (hb : CB X N e m) (hm : X.mg "tuple" = none) (hg : Gl X "tuple" := by rfl) (hs : starEach [e] X.env = (false, eval e X.env) :: starEach [] X.env := by rfl) :
    CE X N (.Call (.Name "tuple" p) [e] [] pos) (mBind m gTupc) :=
  call1 (fun ha => pe_callTy call_tuple_of hg hm (by rfl) ha (he := hs)) hb ans_tup hs
def gLst : BV → Mo (List PyData) := gO bSeq id
theorem ans_lst : AnsF X N (fun xs H Q => ∃ p ys, xs = [.ref p] ∧ (SqL X.K H p ys ∨ SqT X.K H p ys) ∧ ∀ l, H l = none → Q (.ref l) (upd H l (.lst ys))) gLst := by
  intro y v μ c σ H Q R d p
  obtain ⟨xs, e, q⟩ := gO_ok p
  obtain ⟨l, vs, rfl, s, dl⟩ := bSeq_ok R d e
  exact ⟨l, vs, rfl, s, fun t ht => q H (Fz.refl _) R t vs ht dl⟩
theorem cf_lstc {m : Mo BV} (hb : CB X N e m) (hm : X.mg "list" = none) (hg : Gl X "list" := by rfl) (hs : starEach [e] X.env = (false, eval e X.env) :: starEach [] X.env := by rfl) :
    CF X N (.Call (.Name "list" p) [e] [] pos) (mBind m gLst) :=
  call1f (fun ha => pe_callTy call_list_of hg hm (by rfl) ha (he := hs)) hb ans_lst hs
/-! ### repr -/
def bRep (y : BV) (_ : List CO) : Option Str := match y with
  | .c (.d x) => if x.plain = true ∧ x.showable = true ∧ x.depth ≤ 60 ∧ x.shown.length ≤ 16777216 then some x.shown else none
  | .l xs => if PyData.plainAll xs = true ∧ PyData.showableAll xs = true ∧ PyData.depthAll xs ≤ 59 ∧ (PyData.list xs).shown.length ≤ 16777216 then some (PyData.list xs).shown else none
  | _ => none
def gRep : BV → Mo CV := gO bRep fun x => .d (.str x)
mutual
theorem hasDict_plain : ∀ x : PyData, x.plain = true → x.hasDict = false
  | .none, _ => by simp only [PyData.hasDict]
  | .bool _, _ => by simp only [PyData.hasDict]
  | .int _, _ => by simp only [PyData.hasDict]
  | .str _, _ => by simp only [PyData.hasDict]
  | .list xs, h => by
    simp only [PyData.hasDict]
    exact hasDict_plainAll xs (by simpa [PyData.plain] using h)
  | .tuple xs, h => by
    simp only [PyData.hasDict]
    exact hasDict_plainAll xs (by simpa [PyData.plain] using h)
  | .dict _, h => by simp [PyData.plain] at h
theorem hasDict_plainAll : ∀ xs : List PyData, PyData.plainAll xs = true → PyData.hasDictAll xs = false
  | [], _ => by simp only [PyData.hasDictAll]
  | x :: xs, h => by
    have h' : x.plain = true ∧ PyData.plainAll xs = true := by simpa [PyData.plainAll] using h
    simp only [PyData.hasDictAll, hasDict_plain x h'.1, hasDict_plainAll xs h'.2, Bool.or_self]
end
def rRep (K : KW) : List V → Hp → VK → Prop := fun xs H Q => ∃ v x, xs = [v] ∧ x.plain = true ∧ x.showable = true ∧ x.depth ≤ 60 ∧ x.shown.length ≤ 16777216 ∧
  (Den K H x v ∨ ∃ l vs ys, x = .list ys ∧ v = .ref l ∧ SqL K.K H l vs ∧ DenL K H ys vs) ∧ Q (.str x.shown) H
theorem cr_repr (hg : X.A.guards = some []) (hu : X.A.units + 100 < cLine) : CallR X (.builtin "repr") (rRep (kwOf X)) := by
  intro pins s σ H xs us Q I r h
  obtain ⟨v, x, rfl, h1, h2, h3, h4, hd, q⟩ := h
  obtain ⟨u, rfl, rx⟩ := vals1 r
  have hr : ∃ as, Reads s.heap u x as := by
    rcases hd with hd | ⟨l, vs, ys, rfl, rfl, hs, hd⟩
    · exact hd.reads I _ _ _ h1 rx
    · obtain rfl : u = Value.ref l := rx
      obtain ⟨its, rv, ⟨o, n, ho, hc, _, ht⟩, _⟩ := I.list hs
      obtain ⟨as, ra⟩ := DenL.reads I ys vs its (by simpa [PyData.plain] using h1) hd rv
      exact ⟨_, .list ho hc ht (by simpa using ra)⟩
  obtain ⟨as, hr⟩ := hr
  have fin : ∀ (h' : Heap) (u : Tok) (tk : Nat), (∀ b o, s.heap.get? b = some o → h'.get? b = some o) → EP X pins σ Q (.str x.shown u) { s with heap := h', toks := tk } := fun h' u tk k => ⟨.str x.shown, H, I.kept k, ⟨_, rfl⟩, q⟩
  have big : ∀ a, u = .ref a → wpAny (model X.prog X.w) X.A (call (.builtin "repr") [u]) (EP X pins σ Q) X.xe s := fun a e => by
    subst e
    exact repr_of_reads' hr h2 (fun z => by rw [hasDict_plain x h1] at z; cases z) hg (by omega) (fun _ _ z => z) fin (by rw [sizeLine_eq]; exact h4)
  cases x with
  | none =>
    cases hr
    exact PySem.P.repr_of_none (fin s.heap _ _ fun _ _ z => z)
  | bool k =>
    cases hr
    refine PySem.P.repr_of_bool ?_
    have := fin s.heap s.toks (s.toks + 1) fun _ _ z => z
    exact this
  | int i =>
    cases hr
    exact PySem.P.repr_of_int (by simpa [PyData.showable] using h2) (fin s.heap _ _ fun _ _ z => z)
  | str t =>
    cases hr
    exact PySem.P.repr_of_str (fin s.heap _ _ fun _ _ z => z) (by rw [sizeLine_eq]; exact h4)
  | list ys =>
    cases hr with
    | list _ _ _ _ => exact big _ rfl
  | tuple ys =>
    cases hr with
    | tuple _ _ _ _ => exact big _ rfl
  | dict _ => cases h1
theorem ans_rep : Ans X N (rRep (kwOf X)) gRep := by
  intro y v μ c σ H Q R d p
  obtain ⟨t, e, q⟩ := gO_ok p
  have q := q H (Fz.refl _) R _ (vden_str _)
  cases y with
  | k _ => cases e
  | l xs =>
    unfold bRep at e
    dsimp only at e
    by_cases h : PyData.plainAll xs = true ∧ PyData.showableAll xs = true ∧ PyData.depthAll xs ≤ 59 ∧ (PyData.list xs).shown.length ≤ 16777216
    · rw [if_pos h] at e
      cases e
      obtain ⟨l, vs, e1, e2, e3⟩ := d
      exact ⟨v, .list xs, rfl, by simpa [PyData.plain] using h.1, by simpa [PyData.showable] using h.2.1, by have := h.2.2.1; simp only [PyData.depth]; omega, h.2.2.2, .inr ⟨l, vs, xs, rfl, e1, SqL.of e2, e3⟩, q⟩
    · rw [if_neg h] at e
      cases e
  | c x =>
    cases x with
    | o _ => cases e
    | r _ => cases e
    | d x =>
      unfold bRep at e
      dsimp only at e
      by_cases h : x.plain = true ∧ x.showable = true ∧ x.depth ≤ 60 ∧ x.shown.length ≤ 16777216
      · rw [if_pos h] at e
        cases e
        exact ⟨v, x, rfl, h.1, h.2.1, h.2.2.1, h.2.2.2, .inl d, q⟩
      · rw [if_neg h] at e
        cases e
theorem ce_repr {m : Mo BV} (hgd : X.A.guards = some []) (hu : X.A.units + 100 < cLine) (hb : CB X N e m) (hm : X.mg "repr" = none) (hg : Gl X "repr" := by rfl) (hs : starEach [e] X.env = (false, eval e X.env) :: starEach [] X.env := by rfl) :
    CE X N (.Call (.Name "repr" p) [e] [] pos) (mBind m gRep) :=
  call1 (fun ha => pe_callB (cr_repr hgd hu) hg hm (by rfl) ha (he := hs)) hb ans_rep hs
end
end Cl

set_option Elab.async false
set_option maxRecDepth 100000
set_option maxHeartbeats 2000000
/-! sorted(xs) of data. -/
namespace Cl
open PySem PySem.Spec PyProof.Rows L2
def dLe (a b : PyData) : Bool := PySem.W.dataLe false (fun x : PyData => x) a b
def sortD (xs : List PyData) : List PyData := xs.mergeSort dLe
def isTup : PyData → Bool
  | .tuple _ => true
  | _ => false
def isTupC : PyData → Bool
  | .tuple (_ :: _) => true
  | _ => false
def isNone : PyData → Bool
  | .none => true
  | _ => false
/-- all alike, all tuples with an item or no tuples at all or at most one -/
def sortOk (xs : List PyData) : Bool := PyData.plainAll xs && decide (PyData.depthAll xs ≤ 60) && decide (xs.length ≤ 16777216) && (xs.all fun x => xs.all fun y => PySem.W.alike x y) &&
  (xs.all isTupC || (xs.all fun x => !isNone x) && (decide (xs.length ≤ 1) || xs.all fun x => !isTup x))
theorem depth_of_all : ∀ {xs : List PyData} {n : Nat}, PyData.depthAll xs ≤ n → ∀ x ∈ xs, x.depth ≤ n
  | [], _, _, _, h => by cases h
  | x :: xs, n, h, y, hy => by
    simp only [PyData.depthAll] at h
    rcases List.mem_cons.mp hy with rfl | hy
    · omega
    · exact depth_of_all (xs := xs) (by omega) y hy
theorem plain_of_all : ∀ {xs : List PyData}, PyData.plainAll xs = true → ∀ x ∈ xs, x.plain = true
  | [], _, _, h => by cases h
  | x :: xs, h, y, hy => by
    have h' : x.plain = true ∧ PyData.plainAll xs = true := by simpa [PyData.plainAll] using h
    rcases List.mem_cons.mp hy with rfl | hy
    · exact h'.1
    · exact plain_of_all h'.2 y hy
section
variable {prog : Program} {w : World} {A : Around} {s : Shared}
/-- one alone -/
theorem sortsAt_one {vs : List Value} {ds : List PyData} (e : PySem.W.EachIs (fun v d => ∃ as, Reads s.heap v d as) vs ds) (hal : PySem.W.AllAlike ds) (hn : ∀ d ∈ ds, d ≠ .none) (h1 : vs.length ≤ 1) (hu : ∀ d, d ∈ ds → A.units + d.depth < cLine) :
    PySem.W.SortsAt prog w A s (PySem.W.dataKind s.heap ds) vs := by
  refine ⟨fun v hv => ?_, general', ?_, fun h2 => absurd h2 (by omega)⟩
  · obtain ⟨d, hd, as, r⟩ := e.left v hv
    exact ⟨_, PySem.W.dataKind_some hal hd r⟩
  · intro E x y a b Q ha hb hq
    obtain ⟨d, as, hd, ra, rfl⟩ := PySem.W.dataKind_inv ha
    obtain ⟨d', as', hd', rb, rfl⟩ := PySem.W.dataKind_inv hb
    exact PySem.W.oneLt_alike (f := false) (fun z => by cases z) ra rb (hal d hd d' hd') (hn d hd) (Nat.lt_of_le_of_lt (Nat.add_le_add_left (Nat.min_le_left _ _) _) (hu d hd)) hq
end
section
variable {X : Cx} {N : Wn} {e : Expr} {pos p : Pos}
def rSortD (K : KW) : List V → Hp → VK → Prop := fun vs H Q => ∃ (a : Addr) (xs : List PyData) (ws : List V), vs = [V.ref a] ∧ SqL K.K H a ws ∧ DenL K H xs ws ∧ sortOk xs = true ∧
  ∀ (p : Addr) (us : List V), H p = none → DenL K H (sortD xs) us → Q (.ref p) (upd H p (.lst us))
theorem each_den {K : KW} {H : Hp} : ∀ {xs : List PyData} {vs : List V} {us : List Value}, DenL K H xs vs → Vals vs us → PySem.W.EachIs (fun u x => ∃ v, RelV v u ∧ Den K H x v) us xs
  | [], vs, us, h, r => by
    simp only [DenL] at h
    subst h
    cases r
    exact .nil
  | x :: xs, vs, us, h, r => by
    simp only [DenL] at h
    obtain ⟨v, w, rfl, d, t⟩ := h
    cases r with
    | cons r1 r2 => exact .cons ⟨v, r1, d⟩ (each_den t r2)
theorem den_each {K : KW} {H : Hp} : ∀ {us : List Value} {xs : List PyData}, PySem.W.EachIs (fun u x => ∃ v, RelV v u ∧ Den K H x v) us xs → ∃ vs, Vals vs us ∧ DenL K H xs vs
  | _, _, .nil => ⟨[], .nil, .nil⟩
  | _, _, .cons ⟨v, r, d⟩ t => by
    obtain ⟨vs, a, b⟩ := den_each t
    exact ⟨v :: vs, .cons r a, .cons d b⟩
theorem each_reads {pins : List (Addr × Obj)} {σ : LSt} {H : Hp} {s : Shared} (I : Inv X pins σ H s) : ∀ {us : List Value} {xs : List PyData}, PyData.plainAll xs = true → PySem.W.EachIs (fun u x => ∃ v, RelV v u ∧ Den (kwOf X) H x v) us xs → PySem.W.EachIs (fun u x => ∃ as, Reads s.heap u x as) us xs
  | _, _, _, .nil => .nil
  | _, x :: xs, h, .cons ⟨v, r, d⟩ t => by
    have h' : x.plain = true ∧ PyData.plainAll xs = true := by simpa [PyData.plainAll] using h
    exact .cons (d.reads I _ _ _ h'.1 r) (each_reads I h'.2 t)
theorem cr_sortD (hu : X.A.units + 100 < cLine) : CallR X (.builtin "sorted") (rSortD (kwOf X)) := by
  intro pins s σ H vs us Q I r h
  obtain ⟨a, xs, ws, rfl, hs, dl, ok, q⟩ := h
  obtain ⟨its, rv, hl, _⟩ := I.list hs
  rw [Vals.ref1 r]
  unfold sortOk at ok
  simp only [Bool.and_eq_true, decide_eq_true_eq] at ok
  obtain ⟨⟨⟨⟨o1, o2⟩, o3⟩, o4⟩, o5⟩ := ok
  have ec := each_den dl rv
  have er := each_reads I o1 ec
  have hal : PySem.W.AllAlike (xs.map fun x => x) := by
    rw [List.map_id']
    intro d hd d' hd'
    exact List.all_eq_true.mp (List.all_eq_true.mp o4 d hd) d' hd'
  have hlen : its.length ≤ sizeLine := by rw [ec.length, sizeLine_eq]; exact o3
  have fin : ∀ out : List Value, out.length = xs.length → PySem.W.EachIs (fun u x => ∃ v, RelV v u ∧ Den (kwOf X) H x v) out (sortD xs) → EP X pins σ Q (.ref (s.heap.objs.size + 1)) { s with heap := sortedAll s.heap its out.toArray } := fun out h1 h2 => by
    obtain ⟨zs, z1, z2⟩ := den_each h2
    obtain ⟨ep, he'⟩ := PyProof.Rows.sortedAll_at s.heap its out.toArray
    have hlen : zs.length ≤ sizeLine := by rw [z1.length, h1, sizeLine_eq]; exact o3
    exact ⟨.ref _, upd H (s.heap.objs.size + 1) (.lst zs), I.laid (t' := s.toks) (fun _ _ => PyProof.Rows.sortedAll_old) (Nat.le_succ _) ⟨hlen, out, ep, z1, he'⟩, rfl, q _ zs (I.hok.fresh (Nat.le_succ _)) z2⟩
  have hd : ∀ b ∈ xs, X.A.units + 2 + b.depth < cLine := fun b hb => by have := depth_of_all o2 b hb; omega
  have wide : PySem.W.Sortable (xs.map fun x => x) → wpAny (model X.prog X.w) X.A (call (.builtin "sorted") [.ref a]) (EP X pins σ Q) X.xe s := fun hk =>
    PySem.W.sorted_data (enc := fun x => x) hl.isList ec er hal hk (by rw [sizeLine_eq]; exact o3) hd fun out h1 h2 => fin out h1 h2
  rw [Bool.or_eq_true, Bool.and_eq_true, Bool.or_eq_true] at o5
  rcases o5 with o5 | ⟨o6, o5 | o5⟩
  · refine wide (.inl fun d hd => ?_)
    rw [List.map_id'] at hd
    have := List.all_eq_true.mp o5 d hd
    cases d with
    | tuple ys =>
      cases ys with
      | nil => cases this
      | cons y ys => exact ⟨y, ys, rfl⟩
    | none => cases this
    | bool _ => cases this
    | int _ => cases this
    | str _ => cases this
    | list _ => cases this
    | dict _ => cases this
  · have one := of_decide_eq_true o5
    have er' : PySem.W.EachIs (fun v b => ∃ as, Reads (PySem.W.sortingHeap (PySem.W.copyHeap s.heap its) (s.heap.objs.size + 1) its) v b as) its xs := er.mono fun _ _ ⟨as, r⟩ => ⟨as, PyProof.Rows.Reads.keeps (fun _ _ => PySem.W.sorting_copy_old) r⟩
    have hal' : PySem.W.AllAlike xs := by
      rw [List.map_id'] at hal
      exact hal
    refine PySem.W.sorted_vals (κ := PySem.W.dataKind _ xs) hl.isList (sortsAt_one (s := { s with heap := PySem.W.sortingHeap (PySem.W.copyHeap s.heap its) (s.heap.objs.size + 1) its }) er' hal' (fun d hd => ?_) (by rw [ec.length]; exact one) (fun d hd' => ?_)) hlen (fin _ ?_ ?_)
    · have := List.all_eq_true.mp o6 d hd
      rintro rfl
      cases this
    · have := hd d hd'
      show X.A.units + 1 + 1 + d.depth < cLine
      omega
    · rw [PySem.W.sortVals_length false rfl]
      exact ec.length
    · have := PySem.W.sortVals_data (enc := fun x : PyData => x) false ec er' hal
      rw [List.map_id'] at this
      exact this
  · refine wide (.inr fun d hd => ?_)
    rw [List.map_id'] at hd
    have h1 := List.all_eq_true.mp o6 d hd
    have h2 := List.all_eq_true.mp o5 d hd
    refine ⟨?_, fun xs => ?_⟩
    · rintro rfl
      cases h1
    · rintro rfl
      cases h2
def bSort (y : BV) (hp : List CO) : Option (List PyData) := (bLst y hp).bind fun xs => if sortOk xs = true then some (sortD xs) else none
def gSort : BV → Mo (List PyData) := gO bSort id
theorem ans_sort : AnsF X N (rSortD (kwOf X)) gSort := by
  intro y v μ c σ H Q R d p
  obtain ⟨ys, e, q⟩ := gO_ok p
  unfold bSort at e
  cases h : bLst y c.hp with
  | none =>
    rw [h] at e
    cases e
  | some xs =>
    rw [h] at e
    simp only [Option.bind_some] at e
    by_cases ok : sortOk xs = true
    · rw [if_pos ok] at e
      cases e
      obtain ⟨l, ws, rfl, s, dl⟩ := bLst_ok R d h
      exact ⟨l, xs, ws, rfl, s, dl, ok, fun p us hp du => q H (Fz.refl _) R p us hp du⟩
    · rw [if_neg ok] at e
      cases e
theorem cf_sort {m : Mo BV} (hu : X.A.units + 100 < cLine) (hb : CB X N e m) (hm : X.mg "sorted" = none) (hg : Gl X "sorted" := by rfl) (hs : starEach [e] X.env = (false, eval e X.env) :: starEach [] X.env := by rfl) :
    CF X N (.Call (.Name "sorted" p) [e] [] pos) (mBind m gSort) :=
  call1f (fun ha => pe_callB (cr_sortD hu) hg hm (by rfl) ha (he := hs)) hb ans_sort hs
end
end Cl

set_option Elab.async false
set_option maxRecDepth 100000
set_option maxHeartbeats 3000000
/-! set(xs) of ints or texts, whose table may be walked; sorted(set(xs)), len(set(xs)). -/
namespace Cl
open PySem PySem.Spec PyProof.Rows L2
def kO : Value → Key
  | .int k _ => .inl k
  | .str x _ => .inr x
  | _ => .inl 0
abbrev Ent := Int × Value
def keyM (e : Ent) : Key := kO e.2
def GoodM (P : Program) (w : World) (e : Ent) : Prop := ∃ k : Key, keyIs k e.2 = true ∧ e.1 = (mixKind P w).hash k
theorem kO_of {k : Key} {v : Value} (h : keyIs k v = true) : kO v = k := by
  rcases keyIs_shape h with ⟨i, t, rfl, rfl⟩ | ⟨x, t, rfl, rfl⟩ <;> rfl
theorem scan_key {k : Key} {v : Value} (h : keyIs k v = true) : v.scannable = true := by
  rcases keyIs_shape h with ⟨i, t, rfl, rfl⟩ | ⟨x, t, rfl, rfl⟩ <;> rfl
theorem GoodM.is {P : Program} {w : World} {e : Ent} (g : GoodM P w e) : keyIs (keyM e) e.2 = true := by
  obtain ⟨k, h, _⟩ := g
  unfold keyM
  rw [kO_of h]
  exact h
/-- a table that may be walked -/
structure TabF (w : World) (n : Nat) (t : SetTable) : Prop where
  fit : t.fits n = true
  ris : Ris t.place.toList
  led : w.params.followText "set-order" = true ∨ t.led = true
/-- the rows of a set of the keys ks -/
structure RowsM (P : Program) (w : World) (es : Array Ent) (ks : List Key) : Prop where
  good : ∀ e ∈ es.toList, GoodM P w e
  keys : (es.toList.map keyM).Perm ks
  nd : ks.Nodup
theorem RowsM.size {P : Program} {w : World} {es : Array Ent} {ks : List Key} (R : RowsM P w es ks) : es.size = ks.length := by
  have := R.keys.length_eq
  rwa [List.length_map, Array.length_toList] at this
theorem RowsM.perm {P : Program} {w : World} {es fs : Array Ent} {ks : List Key} (R : RowsM P w es ks) (p : fs.toList.Perm es.toList) : RowsM P w fs ks :=
  ⟨fun e h => R.good e (p.mem_iff.mp h), (p.map keyM).trans R.keys, R.nd⟩
theorem RowsM.elems {P : Program} {w : World} {es : Array Ent} {ks : List Key} (R : RowsM P w es ks) : ElemsOf (mixKind P w) es.toList := fun e h => by
  obtain ⟨k, a, b⟩ := R.good e h
  exact ⟨⟨k, a, b⟩, scan_key a⟩
theorem RowsM.cons {P : Program} {w : World} {es fs : Array Ent} {ks : List Key} {k : Key} {v : Value} (R : RowsM P w es ks) (hk : keyIs k v = true) (hn : k ∉ ks) (p : fs.toList.Perm (es.push ((mixKind P w).hash k, v)).toList) : RowsM P w fs (k :: ks) := by
  rw [Array.toList_push] at p
  have p := p.trans (List.perm_append_singleton _ _)
  refine ⟨fun e h => ?_, ?_, List.nodup_cons.mpr ⟨hn, R.nd⟩⟩
  · rcases List.mem_cons.mp (p.mem_iff.mp h) with rfl | h
    · exact ⟨k, hk, rfl⟩
    · exact R.good e h
  · have q := p.map keyM
    rw [List.map_cons] at q
    have e1 : keyM ((mixKind P w).hash k, v) = k := kO_of hk
    rw [e1] at q
    exact q.trans (.cons k R.keys)
theorem RowsM.found {P : Program} {w : World} {es : Array Ent} {ks : List Key} {k : Key} (R : RowsM P w es ks) : k ∈ ks ↔ ∃ e ∈ es.toList, (mixKind P w).is k e.2 = true := by
  rw [← R.keys.mem_iff, List.mem_map]
  constructor
  · rintro ⟨e, h, rfl⟩
    exact ⟨e, h, (R.good e h).is⟩
  · rintro ⟨e, h, q⟩
    exact ⟨e, h, kO_of q⟩
/-- the set of the keys ks at a -/
def SetM (P : Program) (w : World) (h : Heap) (a : Addr) (ks : List Key) : Prop :=
  ∃ o es ep t, h.get? a = some o ∧ o.ExactSet ∧ o.data = .set es ep t ∧ RowsM P w es ks ∧ es.size < scanBound ∧ TabF w es.size t
theorem SetM.at {P : Program} {w : World} {h h' : Heap} {a : Addr} {ks : List Key} (R : SetM P w h a ks) (k : ∀ o, h.get? a = some o → h'.get? a = some o) : SetM P w h' a ks := by
  obtain ⟨o, es, ep, t, ho, r⟩ := R
  exact ⟨o, es, ep, t, k o ho, r⟩
/-- with k -/
def insK (k : Key) (ks : List Key) : List Key := if ks.any (fun j => decide (j = k)) then ks else k :: ks
theorem insK_yes {k : Key} {ks : List Key} (h : k ∈ ks) : insK k ks = ks := by
  unfold insK
  rw [if_pos (List.any_eq_true.mpr ⟨k, h, by simp⟩)]
theorem insK_no {k : Key} {ks : List Key} (h : k ∉ ks) : insK k ks = k :: ks := by
  unfold insK
  rw [if_neg fun q => by
    obtain ⟨j, hj, e⟩ := List.any_eq_true.mp q
    exact h (of_decide_eq_true e ▸ hj)]
theorem insK_len {k : Key} {ks : List Key} : (insK k ks).length ≤ ks.length + 1 := by
  unfold insK
  split
  · exact Nat.le_succ _
  · exact Nat.le_refl _
section
variable {P : Program} {w : World} {A : Around} {E : Value → Shared → Prop} {s : Shared} {a : Addr} {ks : List Key}
/-- the end of an add: the rows are stored, the table is laid anew where it is too full -/
theorem setM_store {note : Bool → Sem Unit} (hn : ∀ (b : Bool) (z : Shared) (Q : Unit → Shared → Prop), Q () z → wpAny (model P w) A (note b) Q E z) {o : Obj} {es fs : Array Ent} {ep : Nat} {t u : SetTable} {ls : List Key} (ho : s.heap.get? a = some o) (hx : o.ExactSet)
    (hd : o.data = .set es ep t) (rw' : RowsM P w fs ls) (hb : fs.size < scanBound) (tf : TabF w fs.size u) {wasDummy : Bool} {R : Option Bool → Shared → Prop} (hR : ∀ h', Heap.SameBut a s.heap h' → SetM P w h' a ls → R (some true) { s with heap := h' }) :
    wpAny (model P w) A (do
        storeSet a fs u
        if (!wasDummy && u.tooFull) = true then do
            note (relayAll u fs (SetTable.grown fs.size)).2.2
            storeSet a (relayAll u fs (SetTable.grown fs.size)).1 (relayAll u fs (SetTable.grown fs.size)).2.1
            pure (some true)
          else pure (some true)) R E s := by
  have o1 := store_at (es' := fs) (t' := u) ho hd
  have b1 := Heap.SameBut.update s.heap a (Obj.putSet fs u)
  refine wpAny_bind (wpAny_storeSet_of ho hd ?_ (fits_of_scanBound hb))
  by_cases full : (!wasDummy && u.tooFull) = true
  · rw [if_pos full]
    have q1 := relayAll_perm u fs (SetTable.grown fs.size)
    have q2 : TabF w (relayAll u fs (SetTable.grown fs.size)).1.size (relayAll u fs (SetTable.grown fs.size)).2.1 :=
      ⟨relayAll_fits u fs (SetTable.grown fs.size), relayAll_ris u fs (SetTable.grown fs.size), tf.led.imp id fun z => by rw [relayAll_led]; exact z⟩
    revert q1 q2
    generalize relayAll u fs (SetTable.grown fs.size) = Z
    obtain ⟨gs, u2, gave⟩ := Z
    intro q1 q2
    have rg := rw'.perm q1
    have hb2 : gs.size < scanBound := by rw [rg.size, ← rw'.size]; exact hb
    refine wpAny_bind (hn _ _ _ (wpAny_bind (wpAny_storeSet_of o1 rfl (wpAny_pure (hR _ (b1.trans (Heap.SameBut.update _ a _)) ?_)) (fits_of_scanBound hb2))))
    exact ⟨_, gs, _, u2, store_at (es' := gs) (t' := u2) o1 rfl, hx, rfl, rg, hb2, q2⟩
  · rw [if_neg full]
    exact wpAny_pure (hR _ b1 ⟨_, fs, _, u, o1, hx, rfl, rw', hb, tf⟩)
theorem setM_add {k : Key} {v : Value} {Q : Bool → Shared → Prop} (hk : keyIs k v = true) (R : SetM P w s.heap a ks) (room : ks.length + 1 < scanBound)
    (hQ : ∀ b h', Heap.SameBut a s.heap h' → SetM P w h' a (insK k ks) → Q b { s with heap := h' }) : wpAny (model P w) A (setAddHashed a v ((mixKind P w).hash k)) Q E s := by
  obtain ⟨o, es, ep, t, ho, hx, hd, rs, hb, tf⟩ := R
  have sc := scan_key hk
  unfold setAddHashed setAddHashedIn
  refine wpAny_holding (wpAny_bind (wpAny_setState_of ho hd tf.fit ?_))
  dsimp only
  rw [byScan_of sc hb rs.elems, if_pos rfl]
  unfold setAddByScan
  refine wpAny_bind (wpAny_bind (wpAny_rule (wpAny_bind (wpAny_setScan_of (knd := mixKind P w) (k := k) (x := v) hk ho hd tf.fit rs.elems ?_))))
  by_cases hm : k ∈ ks
  · obtain ⟨e, he, q⟩ := rs.found.mp hm
    cases hf : List.findIdx? (fun e => (mixKind P w).is k e.2) es.toList with
    | none => exact absurd q (by simpa using List.findIdx?_eq_none_iff.mp hf e he)
    | some j =>
      refine wpAny_pure (wpAny_pure (hQ _ s.heap (Heap.SameBut.refl a s.heap) ?_))
      rw [insK_yes hm]
      exact ⟨o, es, ep, t, ho, hx, hd, rs, hb, tf⟩
  · have hf : List.findIdx? (fun e => (mixKind P w).is k e.2) es.toList = none := List.findIdx?_eq_none_iff.mpr fun e he => by
      cases q : (mixKind P w).is k e.2 with
      | false => rfl
      | true => exact absurd (rs.found.mpr ⟨e, he, q⟩) hm
    rw [hf]
    dsimp only
    have nt : ∀ (b : Bool) (z : Shared) (Q' : Unit → Shared → Prop), Q' () z → wpAny (model P w) A (match b with | true => rule "set.scan.the-table-gave-way" | false => pure ()) Q' E z := fun b z Q' q => by
      cases b
      · exact wpAny_pure q
      · exact wpAny_rule q
    have q1 := layNew_perm t es ((mixKind P w).hash k) v
    have q2 := layNew_fits t es ((mixKind P w).hash k) v
    have q3 := layNew_ris t es ((mixKind P w).hash k) v tf.ris
    have q4 := layNew_led t es ((mixKind P w).hash k) v
    revert q1 q2 q3 q4
    generalize layNew t es ((mixKind P w).hash k) v = Z
    obtain ⟨fs, u, wasDummy, gave⟩ := Z
    intro q1 q2 q3 q4
    have rf := rs.cons hk hm q1
    have hb1 : fs.size < scanBound := by
      rw [rf.size]
      exact room
    have tu : TabF w fs.size u := ⟨q2, q3, tf.led.imp id fun z => by rw [q4]; exact z⟩
    have fin : ∀ h', Heap.SameBut a s.heap h' → SetM P w h' a (k :: ks) → Q true { s with heap := h' } := fun h' b r => hQ _ h' b (by rw [insK_no hm]; exact r)
    refine wpAny_bind (nt _ _ _ ?_)
    split
    · refine wpAny_bind ?_
      rw [hashByValue_scannable 8 sc]
      refine wpAny_pure (setM_store (fun b z Q' q => ?_) ho hx hd rf hb1 ?_ fun h' b r => ?_)
      · cases b
        · exact wpAny_pure q
        · exact wpAny_rule q
      · first
          | exact tu
          | (split
             · first | exact tu | exact ⟨SetTable.fits_plain_off q2, q3, tu.led⟩
             · first | exact tu | exact ⟨SetTable.fits_plain_off q2, q3, tu.led⟩)
      · exact wpAny_pure (fin h' b r)
    · refine wpAny_bind (wpAny_pure ?_)
      simp only [↓reduceIte]
      refine setM_store (fun b z Q' q => ?_) ho hx hd rf hb1 tu fun h' b r => wpAny_pure (fin h' b r)
      cases b
      · exact wpAny_pure q
      · exact wpAny_rule q
end
end Cl

set_option Elab.async false
set_option maxRecDepth 100000
set_option maxHeartbeats 4000000
/-! set(xs), called. -/
namespace Cl
open PySem PySem.Spec PyProof.Rows L2
inductive KeysAre : List Value → List Key → Prop
  | nil : KeysAre [] []
  | cons {v : Value} {k : Key} {vs : List Value} {ks : List Key} (h : keyIs k v = true) (t : KeysAre vs ks) : KeysAre (v :: vs) (k :: ks)
theorem KeysAre.length : ∀ {vs : List Value} {ks : List Key}, KeysAre vs ks → vs.length = ks.length
  | _, _, .nil => rfl
  | _, _, .cons _ t => by rw [List.length_cons, List.length_cons, t.length]
theorem KeysAre.at : ∀ {vs : List Value} {ks : List Key}, KeysAre vs ks → ∀ (i : Nat) (v : Value), vs[i]? = some v → ∃ k, ks[i]? = some k ∧ keyIs k v = true
  | _, _, .nil, i, v, h => by simp at h
  | _, _, .cons h t, 0, v, e => by
    simp at e
    subst e
    exact ⟨_, rfl, h⟩
  | _, _, .cons h t, i + 1, v, e => t.at i v (by simpa using e)
/-- the keys of set(xs), the last met first -/
def setK (ks : List Key) : List Key := ks.foldl (fun acc k => insK k acc) []
theorem setK_snoc (ks : List Key) (k : Key) : setK (ks ++ [k]) = insK k (setK ks) := by
  unfold setK
  rw [List.foldl_append]
  rfl
theorem foldK_len : ∀ (ks acc : List Key), (ks.foldl (fun acc k => insK k acc) acc).length ≤ acc.length + ks.length
  | [], acc => Nat.le_refl _
  | k :: ks, acc => by
    have h1 := foldK_len ks (insK k acc)
    have h2 : (insK k acc).length ≤ acc.length + 1 := insK_len
    simp only [List.foldl_cons, List.length_cons]
    omega
theorem setK_len (ks : List Key) : (setK ks).length ≤ ks.length := by
  have := foldK_len ks []
  rw [List.length_nil, Nat.zero_add] at this
  exact this
/-- an empty set -/
abbrev set0 (w : World) : Obj := { cls := .type "set", dict := none, data := .set #[] 0 (.fresh 0 0 (!w.params.followText "set-order")) }
theorem setM_nil {P : Program} {w : World} {h : Heap} {a : Addr} (ho : h.get? a = some (set0 w)) : SetM P w h a [] := by
  refine ⟨_, #[], 0, _, ho, ⟨rfl, rfl, rfl⟩, rfl, ⟨fun e h => by simp at h, by simp, List.nodup_nil⟩, by decide, by rfl, List.Pairwise.nil, ?_⟩
  cases h : w.params.followText "set-order"
  · exact .inr rfl
  · exact .inl rfl
section
variable {P : Program} {w : World} {A : Around} {E : Value → Shared → Prop} {s : Shared}
theorem setM_loop {I S : Addr} {fp wr : List Addr} {G : Array GenState → Array GenState → Prop} {n : Nat} {Pv : Nat → Value → Prop} {St : Nat → Shared → Prop} {R : Result → Shared → Prop} (W : WalksS P w A.in1 I fp wr G n Pv St) (out : S ∉ fp)
    {ks : List Key} (hn : n = ks.length) (room : ks.length + 1 < scanBound) (val : ∀ i v, Pv i v → ∃ k, ks[i]? = some k ∧ keyIs k v = true) : ∀ (d i : Nat) (z : Shared), n - i = d → i ≤ n → St i z → SetM P w z.heap S (setK (ks.take i)) →
      (∀ z', Moved (S :: wr) G z z' → SetM P w z'.heap S (setK ks) → R (.ok (.ret .none)) z') → codeAny (model P w) A (.builtin "set.update.loop" ⟨[.ref S, .ref I], []⟩) R z := by
  have outw : S ∉ wr := fun h => out (W.sub _ h)
  have more : ∀ b ∈ wr, b ∈ S :: wr := fun b h => .tail _ h
  intro d
  induction d with
  | zero =>
    intro i z hd hi st R0 fin
    obtain rfl : i = n := by omega
    rw [List.take_of_length_le (Nat.le_of_eq hn.symm)] at R0
    refine codeAny_builtin F.entry_set_update_loop ?_
    rw [Around.under_plainId F.plain_set_update_loop _]
    show wpAny _ A.in1 (pyNext (.ref I) >>= _) _ _ z
    exact wpAny_bind (W.done z _ _ st fun z' m => (wpAny_pure (fin z' (m.mono more) (R0.at fun o e => m.heap S o outw e)) : wpAny _ A.in1 (ret Value.none) _ _ z'))
  | succ d ih =>
    intro i z hd hi st R0 fin
    have lt : i < n := by omega
    refine codeAny_builtin F.entry_set_update_loop ?_
    rw [Around.under_plainId F.plain_set_update_loop _]
    show wpAny _ A.in1 (pyNext (.ref I) >>= _) _ _ z
    refine wpAny_bind (W.item i z _ _ lt st fun v z1 pv st1 m => ?_)
    obtain ⟨k, ek, hv⟩ := val i v pv
    have R1 : SetM P w z1.heap S (setK (ks.take i)) := R0.at fun o e => m.heap S o outw e
    have small : (setK (ks.take i)).length + 1 < scanBound := by
      have h1 := setK_len (ks.take i)
      rw [List.length_take] at h1
      omega
    have nxt : ks.take (i + 1) = ks.take i ++ [k] := by rw [List.take_add_one, ek]; rfl
    show wpAny _ A.in1 (holding [v] (setAdd S v) >>= _) _ _ z1
    refine wpAny_bind (wpAny_holding ?_)
    unfold setAdd
    refine wpAny_holding (wpAny_bind ((mixKind P w).pyHash (k := k) hv (setM_add (s := { z1 with toks := z1.toks + 1 }) hv R1 small fun _ h' sb R2 => ?_)))
    rw [← setK_snoc, ← nxt] at R2
    have same : ∀ b, b ≠ S → h'.get? b = z1.heap.get? b := fun b hb => sb.2 b hb
    refine wpAny_pure ⟨plainId_quiet F.plain_set_update_loop _, ih (i + 1) _ (by omega) lt (W.frame _ z1 _ _ st1 (Nat.le_succ _) fun b hb o e => (same b fun q => out (q ▸ hb)).trans e) R2 fun z2 m2 R3 => ?_⟩
    exact fin z2 (Moved.trans W.gtrans ((m.mono more).then_heap (Nat.le_succ _) fun b o hb e => (same b fun q => hb (q ▸ .head _)).trans e) m2) R3

theorem call_setM_list {l : Addr} {items : Array Value} {ks : List Key} {Q : Value → Shared → Prop} (hh : A.handled = none) (hl : s.heap.IsList l items) (hk : KeysAre items.toList ks) (room : ks.length + 1 < scanBound)
    (h : ∀ (h' : Heap) (tk : Nat), SetM P w h' s.heap.objs.size (setK ks) → (∀ b o, s.heap.get? b = some o → h'.get? b = some o) → Q (.ref s.heap.objs.size) { s with heap := h', toks := tk }) :
    wpAny (model P w) A (call (.type "set") [.ref l]) Q E s := by
  have hn : items.size = ks.length := by rw [← hk.length, Array.length_toList]
  obtain ⟨c, tl, hmro⟩ := F.called_set.mro
  have f1 := F.called_set.made
  have f2 := F.called_set.sub
  have f3 := F.called_set.notType
  have f4 := F.called_set.canCreate
  have f5 := F.typeCall_set_1 (.ref l)
  refine wpAny_call (codeAny_of_tree ?_)
  show wpAny _ _ (callAny (.type "set") _) _ _ _
  refine wpAny_pure ⟨Code.quiet_builtin _ (by decide +kernel), codeAny_builtin F.entry_type_call ?_⟩
  rw [Around.under_plain (weight_type_call_type "set" [.ref l] []) rfl]
  repeat (any_goals (first | assumption | wp_step))
  let h0 : Heap := s.heap.push (set0 w)
  refine codeAny_mono (code_set_led1 (.ref l) (E := E) (Q₁ := fun obj z => obj = .ref s.heap.objs.size ∧ z = { s with heap := s.heap.push (set0 w) }) ⟨rfl, rfl⟩) fun r z hr => ?_
  match r, hr with
  | .error e, hr => exact hr
  | .ok .next, hr => exact hr.elim
  | .ok .brk, hr => exact hr.elim
  | .ok .cont, hr => exact hr.elim
  | .ok (.ret obj), hr =>
    obtain ⟨rfl, rfl⟩ := hr
    have g0 : (s.heap.push (set0 w)).get? s.heap.objs.size = some (set0 w) := Heap.get?_push_size _ rfl
    have ty : Shared.TypeIs { s with heap := s.heap.push (set0 w) } (.ref s.heap.objs.size) "set" := ⟨_, g0, rfl⟩
    have f6 := F.called_set.init.lookup
    have f7 := F.called_set.init.bind (.ref s.heap.objs.size)
    repeat (any_goals (first | assumption | wp_step))
    refine codeAny_mono (codeAny_call_builtin (R := wants (fun r z => r = .none ∧ ∃ h' tk, z = { s with heap := h', toks := tk } ∧ SetM P w h' s.heap.objs.size (setK ks) ∧ ∀ b o, s.heap.get? b = some o → h'.get? b = some o) E) F.called_set.init.plain F.entry_set_init (check_set_init_1 ty ?_)) fun r2 z2 h2 => ?_
    · obtain ⟨⟨cls, dd, dat, sl⟩, ho, hc, nl, hdt⟩ := hl
      dsimp only at hc hdt
      subst hc hdt
      have lt : l < s.heap.objs.size := Heap.lt_size ho
      have g1 : (s.heap.push (set0 w)).get? l = some { cls := .type "list", dict := dd, data := .seq items nl, slots := sl } := Heap.get?_push_of_some _ ho
      have j1 := F.sub_list_set
      have j2 := F.sub_list_frozenset
      have j3 : (Value.type "list" == Value.type "dict") = false := by decide
      have src : (s.heap.push (set0 w)).IsList l items := ⟨_, g1, rfl, nl, rfl⟩
      unfold Builtin.«set.__init__» noKeywords Builtin.Frozenset.updateFrom
      generalize hPI : pyIter = PI
      wp_walk
      subst hPI
      refine wpAny_pyIter_list src (wpAny_bind (wpAny_runValue ?_))
      have z1 : (s.heap.push (set0 w)).objs.size = s.heap.objs.size + 1 := Heap.size_push ..
      have ne : l ≠ (s.heap.push (set0 w)).objs.size := by rw [z1]; exact Nat.ne_of_lt (Nat.lt_succ_of_lt lt)
      have val : ∀ (i : Nat) (v : Value), items[i]? = some v → ∃ k, ks[i]? = some k ∧ keyIs k v = true := fun i v e => hk.at i v (by rw [Array.getElem?_toList]; exact e)
      refine setM_loop ((Walks.list (show A.in1.in1.in1.handled = none from hh) _ l ne items).toS) ?_ hn room val (items.size - 0) 0 _ rfl (Nat.zero_le _) ⟨⟨_, Heap.get?_push_size _ rfl, rfl, rfl⟩, src.push _⟩ (setM_nil (Heap.get?_push_of_some _ g0)) fun z3 m R3 => ?_
      · intro q
        rcases List.mem_cons.mp q with q | q
        · rw [z1] at q
          exact absurd q (Nat.ne_of_lt (Nat.lt_succ_self _))
        · exact absurd (List.mem_singleton.mp q) (Nat.ne_of_gt lt)
      · obtain ⟨h', g', d', t', o'⟩ := z3
        have eg : g' = s.gens := m.gens
        have ed : d' = s.drawn := m.drawn
        have eo : o' = s.os := m.os
        subst eg ed eo
        show wpAny _ _ _ _ _ _
        refine wpAny_pure ?_
        show wpAny _ _ (ret Value.none) _ _ _
        refine wpAny_pure ⟨rfl, h', t', rfl, R3, fun b o e => m.heap b o (fun q => ?_) (Heap.get?_push_of_some _ (Heap.get?_push_of_some _ e))⟩
        have lb := Heap.lt_size e
        rcases List.mem_cons.mp q with q | q
        · exact absurd q (Nat.ne_of_lt lb)
        · have q := List.mem_singleton.mp q
          rw [z1] at q
          exact absurd q (Nat.ne_of_lt (Nat.lt_succ_of_lt lb))
    · match r2, h2 with
      | .error e, h2 => exact h2
      | .ok .next, h2 => exact h2.elim
      | .ok .brk, h2 => exact h2.elim
      | .ok .cont, h2 => exact h2.elim
      | .ok (.ret r), h2 =>
        obtain ⟨rfl, h', tk, rfl, R2, kp⟩ := h2
        repeat (any_goals (first | assumption | wp_step))
        exact h _ _ R2 kp

theorem call_setM_tuple {l : Addr} {items : Array Value} {ks : List Key} {Q : Value → Shared → Prop} (hh : A.handled = none) (hl : s.heap.IsTuple l items) (hk : KeysAre items.toList ks) (room : ks.length + 1 < scanBound)
    (h : ∀ (h' : Heap) (tk : Nat), SetM P w h' s.heap.objs.size (setK ks) → (∀ b o, s.heap.get? b = some o → h'.get? b = some o) → Q (.ref s.heap.objs.size) { s with heap := h', toks := tk }) :
    wpAny (model P w) A (call (.type "set") [.ref l]) Q E s := by
  have hn : items.size = ks.length := by rw [← hk.length, Array.length_toList]
  obtain ⟨c, tl, hmro⟩ := F.called_set.mro
  have f1 := F.called_set.made
  have f2 := F.called_set.sub
  have f3 := F.called_set.notType
  have f4 := F.called_set.canCreate
  have f5 := F.typeCall_set_1 (.ref l)
  refine wpAny_call (codeAny_of_tree ?_)
  show wpAny _ _ (callAny (.type "set") _) _ _ _
  refine wpAny_pure ⟨Code.quiet_builtin _ (by decide +kernel), codeAny_builtin F.entry_type_call ?_⟩
  rw [Around.under_plain (weight_type_call_type "set" [.ref l] []) rfl]
  repeat (any_goals (first | assumption | wp_step))
  let h0 : Heap := s.heap.push (set0 w)
  refine codeAny_mono (code_set_led1 (.ref l) (E := E) (Q₁ := fun obj z => obj = .ref s.heap.objs.size ∧ z = { s with heap := s.heap.push (set0 w) }) ⟨rfl, rfl⟩) fun r z hr => ?_
  match r, hr with
  | .error e, hr => exact hr
  | .ok .next, hr => exact hr.elim
  | .ok .brk, hr => exact hr.elim
  | .ok .cont, hr => exact hr.elim
  | .ok (.ret obj), hr =>
    obtain ⟨rfl, rfl⟩ := hr
    have g0 : (s.heap.push (set0 w)).get? s.heap.objs.size = some (set0 w) := Heap.get?_push_size _ rfl
    have ty : Shared.TypeIs { s with heap := s.heap.push (set0 w) } (.ref s.heap.objs.size) "set" := ⟨_, g0, rfl⟩
    have f6 := F.called_set.init.lookup
    have f7 := F.called_set.init.bind (.ref s.heap.objs.size)
    repeat (any_goals (first | assumption | wp_step))
    refine codeAny_mono (codeAny_call_builtin (R := wants (fun r z => r = .none ∧ ∃ h' tk, z = { s with heap := h', toks := tk } ∧ SetM P w h' s.heap.objs.size (setK ks) ∧ ∀ b o, s.heap.get? b = some o → h'.get? b = some o) E) F.called_set.init.plain F.entry_set_init (check_set_init_1 ty ?_)) fun r2 z2 h2 => ?_
    · obtain ⟨⟨cls, dd, dat, sl⟩, ho, hc, nl, hdt⟩ := hl
      dsimp only at hc hdt
      subst hc hdt
      have lt : l < s.heap.objs.size := Heap.lt_size ho
      have g1 : (s.heap.push (set0 w)).get? l = some { cls := .type "tuple", dict := dd, data := .seq items nl, slots := sl } := Heap.get?_push_of_some _ ho
      have j1 := F.sub_tuple_set
      have j2 := F.sub_tuple_frozenset
      have j3 : (Value.type "tuple" == Value.type "dict") = false := by decide
      have src : (s.heap.push (set0 w)).IsTuple l items := ⟨_, g1, rfl, nl, rfl⟩
      unfold Builtin.«set.__init__» noKeywords Builtin.Frozenset.updateFrom
      generalize hPI : pyIter = PI
      wp_walk
      subst hPI
      refine wpAny_pyIter_tuple src (wpAny_bind (wpAny_runValue ?_))
      have z1 : (s.heap.push (set0 w)).objs.size = s.heap.objs.size + 1 := Heap.size_push ..
      have ne : l ≠ (s.heap.push (set0 w)).objs.size := by rw [z1]; exact Nat.ne_of_lt (Nat.lt_succ_of_lt lt)
      have val : ∀ (i : Nat) (v : Value), items[i]? = some v → ∃ k, ks[i]? = some k ∧ keyIs k v = true := fun i v e => hk.at i v (by rw [Array.getElem?_toList]; exact e)
      refine setM_loop ((Walks.tuple (show A.in1.in1.in1.handled = none from hh) _ l ne items).toS) ?_ hn room val (items.size - 0) 0 _ rfl (Nat.zero_le _) ⟨⟨_, Heap.get?_push_size _ rfl, rfl, rfl⟩, src.push _⟩ (setM_nil (Heap.get?_push_of_some _ g0)) fun z3 m R3 => ?_
      · intro q
        rcases List.mem_cons.mp q with q | q
        · rw [z1] at q
          exact absurd q (Nat.ne_of_lt (Nat.lt_succ_self _))
        · exact absurd (List.mem_singleton.mp q) (Nat.ne_of_gt lt)
      · obtain ⟨h', g', d', t', o'⟩ := z3
        have eg : g' = s.gens := m.gens
        have ed : d' = s.drawn := m.drawn
        have eo : o' = s.os := m.os
        subst eg ed eo
        show wpAny _ _ _ _ _ _
        refine wpAny_pure ?_
        show wpAny _ _ (ret Value.none) _ _ _
        refine wpAny_pure ⟨rfl, h', t', rfl, R3, fun b o e => m.heap b o (fun q => ?_) (Heap.get?_push_of_some _ (Heap.get?_push_of_some _ e))⟩
        have lb := Heap.lt_size e
        rcases List.mem_cons.mp q with q | q
        · exact absurd q (Nat.ne_of_lt lb)
        · have q := List.mem_singleton.mp q
          rw [z1] at q
          exact absurd q (Nat.ne_of_lt (Nat.lt_succ_of_lt lb))
    · match r2, h2 with
      | .error e, h2 => exact h2
      | .ok .next, h2 => exact h2.elim
      | .ok .brk, h2 => exact h2.elim
      | .ok .cont, h2 => exact h2.elim
      | .ok (.ret r), h2 =>
        obtain ⟨rfl, h', tk, rfl, R2, kp⟩ := h2
        repeat (any_goals (first | assumption | wp_step))
        exact h _ _ R2 kp
end
end Cl

set_option Elab.async false
set_option maxRecDepth 100000
set_option maxHeartbeats 2000000
/-! sorted(set(xs)), len(set(xs)). -/
namespace Cl
open PySem PySem.Spec PyProof.Rows L2
def isL : Key → Bool
  | .inl _ => true
  | .inr _ => false
/-- all ints or all texts -/
def homK (ks : List Key) : Bool := ks.all isL || ks.all fun k => !isL k
theorem homK_perm {ks ls : List Key} (p : ks.Perm ls) (h : homK ls = true) : homK ks = true := by
  unfold homK at h ⊢
  rw [Bool.or_eq_true, List.all_eq_true, List.all_eq_true] at h ⊢
  exact h.imp (fun q x hx => q x (p.mem_iff.mp hx)) fun q x hx => q x (p.mem_iff.mp hx)
theorem homK_sub {ks ls : List Key} (s : ∀ k ∈ ks, k ∈ ls) (h : homK ls = true) : homK ks = true := by
  unfold homK at h ⊢
  rw [Bool.or_eq_true, List.all_eq_true, List.all_eq_true] at h ⊢
  exact h.imp (fun q x hx => q x (s x hx)) fun q x hx => q x (s x hx)
theorem homK_alike {ks : List Key} (h : homK ks = true) {a b : Key} (ha : a ∈ ks) (hb : b ∈ ks) : PySem.W.alike (keyD a) (keyD b) = true := by
  unfold homK at h
  rw [Bool.or_eq_true, List.all_eq_true, List.all_eq_true] at h
  rcases h with h | h
  · have h1 := h a ha
    have h2 := h b hb
    cases a with
    | inr _ => cases h1
    | inl _ =>
      cases b with
      | inr _ => cases h2
      | inl _ => simp [keyD, PySem.W.alike]
  · have h1 := h a ha
    have h2 := h b hb
    cases a with
    | inl _ => cases h1
    | inr _ =>
      cases b with
      | inl _ => cases h2
      | inr _ => simp [keyD, PySem.W.alike]
theorem dLe_eq (x y : PyData) : dLe x y = !PySem.W.dataLt y x := rfl
theorem dLe_anti {ks : List Key} (h : homK ks = true) {a b : Key} (ha : a ∈ ks) (hb : b ∈ ks) (h1 : dLe (keyD a) (keyD b) = true) (h2 : dLe (keyD b) (keyD a) = true) : a = b := by
  have al := homK_alike h ha hb
  rw [dLe_eq] at h1 h2
  cases a with
  | inl i =>
    cases b with
    | inr _ => simp [keyD, PySem.W.alike] at al
    | inl j =>
      simp only [keyD, PySem.W.dataLt_int] at h1 h2
      simp at h1 h2
      congr 1
      omega
  | inr x =>
    cases b with
    | inl _ => simp [keyD, PySem.W.alike] at al
    | inr y =>
      simp only [keyD, PySem.W.dataLt_str] at h1 h2
      simp only [Bool.not_eq_true', decide_eq_false_iff_not] at h1 h2
      congr 1
      exact PySem.W.str_of_cps (List.le_antisymm h1 h2)
theorem keyD_inj {a b : Key} (h : keyD a = keyD b) : a = b := by
  cases a <;> cases b <;> simp_all [keyD]
theorem dLe_total : PySem.W.TotalLe dLe := (PySem.W.sortLe_total (listOrd itemOrd) false fun b : PyData => PySem.W.keyToks b)
theorem sortD_perm {ks ls : List Key} (p : ks.Perm ls) (h : homK ls = true) : sortD (ks.map keyD) = sortD (ls.map keyD) := by
  unfold sortD
  refine List.Perm.eq_of_pairwise (le := fun a b => dLe a b = true) (fun a b ha hb h1 h2 => ?_) (PySem.W.sort_pairwise dLe_total _) (PySem.W.sort_pairwise dLe_total _) (((List.mergeSort_perm _ _).trans (p.map keyD)).trans (List.mergeSort_perm _ _).symm)
  obtain ⟨k, hk, rfl⟩ := List.mem_map.mp ((List.mergeSort_perm _ _).mem_iff.mp ha)
  obtain ⟨l, hl, rfl⟩ := List.mem_map.mp ((List.mergeSort_perm _ _).mem_iff.mp hb)
  rw [dLe_anti h (p.mem_iff.mp hk) hl h1 h2]
def SetMO (P : Program) (w : World) (a : Addr) (ks : List Key) : HO := .ext fun h => SetM P w h a ks
theorem setM_new {P : Program} {w : World} {H : Hp} {h : Heap} {a : Addr} {ks : List Key} (R : SetM P w h a ks) : ObjOk P w H h a (SetMO P w a ks) := by
  have ⟨o, _, _, _, ho, _⟩ := R
  exact ⟨R, ⟨o, ho⟩, fun h1 h2 p k => SetM.at p k⟩
def asK : PyData → Option Key
  | .int i => some (.inl i)
  | .str x => some (.inr x)
  | _ => none
theorem asK_eq {x : PyData} {k : Key} (h : asK x = some k) : x = keyD k := by
  cases x <;> simp [asK] at h <;> subst h <;> rfl
def asKs : List PyData → Option (List Key)
  | [] => some []
  | x :: t => match asK x, asKs t with
    | some k, some r => some (k :: r)
    | _, _ => none
theorem asKs_eq : ∀ {xs : List PyData} {ks : List Key}, asKs xs = some ks → xs = ks.map keyD
  | [], ks, h => by
    cases h
    rfl
  | x :: t, ks, h => by
    unfold asKs at h
    cases h1 : asK x with
    | none =>
      rw [h1] at h
      cases h
    | some k =>
      cases h2 : asKs t with
      | none =>
        rw [h1, h2] at h
        cases h
      | some r =>
        rw [h1, h2] at h
        cases h
        rw [asK_eq h1, asKs_eq h2]
        rfl
theorem keysAre_of {K : KW} {H : Hp} : ∀ {ks : List Key} {vs : List V} {us : List Value}, DenL K H (ks.map keyD) vs → Vals vs us → KeysAre us ks
  | [], vs, us, h, r => by
    simp only [List.map_nil, DenL] at h
    subst h
    cases r
    exact .nil
  | k :: ks, vs, us, h, r => by
    simp only [List.map_cons, DenL] at h
    obtain ⟨v, t, rfl, d, h⟩ := h
    cases r with
    | cons r1 r2 =>
      refine .cons ?_ (keysAre_of h r2)
      cases k with
      | inl i =>
        simp only [keyD, Den] at d
        subst d
        obtain ⟨u, rfl⟩ := r1
        exact keyIs_int i u
      | inr x =>
        simp only [keyD, Den] at d
        subst d
        obtain ⟨u, rfl⟩ := r1
        exact keyIs_str x u
section
variable {X : Cx} {N : Wn} {e : Expr} {pos p p2 pos2 : Pos}
/-- set(xs) -/
def rSetM (P : Program) (w : World) (K : KW) : List V → Hp → VK → Prop := fun vs H Q => ∃ (l : Addr) (ks : List Key) (ws : List V), vs = [.ref l] ∧ (SqL K.K H l ws ∨ SqT K.K H l ws) ∧ DenL K H (ks.map keyD) ws ∧ ks.length ≤ 4000 ∧
  ∀ a, H a = none → Q (.ref a) (upd H a (SetMO P w a (setK ks)))
theorem cr_setM (hc : X.calm = true) : CallR X (.type "set") (rSetM X.prog X.w (kwOf X)) := by
  intro pins s σ H vs us Q I r h
  obtain ⟨l, ks, ws, rfl, hs, dl, hl, q⟩ := h
  rw [Vals.ref1 r]
  have room : ks.length + 1 < scanBound := by
    unfold scanBound
    omega
  have fin : ∀ (h' : Heap) (tk : Nat), SetM X.prog X.w h' s.heap.objs.size (setK ks) → (∀ b o, s.heap.get? b = some o → h'.get? b = some o) → EP X pins σ Q (.ref s.heap.objs.size) { s with heap := h', toks := tk } := fun h' tk R k =>
    ⟨.ref _, _, I.laid k (Nat.le_refl _) (setM_new R), rfl, q _ (I.hok.fresh (Nat.le_refl _))⟩
  rcases hs with hs | hs
  · obtain ⟨its, rv, pl, _⟩ := I.list hs
    exact call_setM_list (I.ok.hd hc) pl.isList (keysAre_of dl rv) room fin
  · obtain ⟨its, rv, pl, _⟩ := I.tuple hs
    exact call_setM_tuple (I.ok.hd hc) pl (keysAre_of dl rv) room fin
/-- sorted(s) -/
def rSortM (P : Program) (w : World) (K : KW) : List V → Hp → VK → Prop := fun vs H Q => ∃ (a : Addr) (ks : List Key), vs = [.ref a] ∧ H a = some (SetMO P w a ks) ∧ homK ks = true ∧
  ∀ (q : Addr) (us : List V), H q = none → DenL K H (sortD (ks.map keyD)) us → Q (.ref q) (upd H q (.lst us))
theorem kO_keys {P : Program} {w : World} {es : Array Ent} {ks : List Key} {vs : List Value} (R : RowsM P w es ks) (pm : vs.Perm (es.toList.map (·.2))) : (vs.map kO).Perm ks ∧ ∀ v ∈ vs, keyIs (kO v) v = true := by
  refine ⟨?_, fun v hv => ?_⟩
  · have := pm.map kO
    rw [List.map_map] at this
    exact this.trans R.keys
  · obtain ⟨e, he, rfl⟩ := List.mem_map.mp (pm.mem_iff.mp hv)
    exact (R.good e he).is
theorem den_kv {K : KW} {H : Hp} {k : Key} {v : Value} (h : keyIs k v = true) : ∃ x, RelV x v ∧ Den K H (keyD k) x := by
  rcases keyIs_shape h with ⟨i, t, rfl, rfl⟩ | ⟨x, t, rfl, rfl⟩
  · exact ⟨.int i, ⟨t, rfl⟩, by simp only [keyD, Den]⟩
  · exact ⟨.str x, ⟨t, rfl⟩, by simp only [keyD, Den]⟩
theorem each_keys {K : KW} {H : Hp} : ∀ {vs : List Value}, (∀ v ∈ vs, keyIs (kO v) v = true) → PySem.W.EachIs (fun u x => ∃ v, RelV v u ∧ Den K H x v) vs ((vs.map kO).map keyD)
  | [], _ => .nil
  | v :: vs, h => .cons (den_kv (h v (.head _))) (each_keys fun u hu => h u (.tail _ hu))
theorem each_kreads {h : Heap} : ∀ {vs : List Value}, (∀ v ∈ vs, keyIs (kO v) v = true) → PySem.W.EachIs (fun u x => ∃ as, Reads h u x as) vs ((vs.map kO).map keyD)
  | [], _ => .nil
  | v :: vs, q => by
    refine .cons ?_ (each_kreads fun u hu => q u (.tail _ hu))
    rcases keyIs_shape (q v (.head _)) with ⟨i, t, e, rfl⟩ | ⟨x, t, e, rfl⟩
    · exact ⟨_, .int i t⟩
    · exact ⟨_, .str x t⟩
theorem cr_sortM (hc : X.calm = true) (hu : X.A.units + 100 < cLine) : CallR X (.builtin "sorted") (rSortM X.prog X.w (kwOf X)) := by
  intro pins s σ H vs us Q I r h
  obtain ⟨a, ks, rfl, ha, hk, q⟩ := h
  rw [Vals.ref1 r]
  obtain ⟨o, es, ep, t, ho, hx, hd, rs, hb, tf⟩ : SetM X.prog X.w s.heap a ks := (I.hok a _ ha).1
  refine Calls.call_function_entry kind_sorted plain_sorted entry_sorted (args_sorted1 _) ?_
  unfold Builtin.«sorted»
  refine wpAny_bind (m := checkCount "sorted" 1 1 _) (wpAny_pure (wpAny_bind (collect_set (A := X.A.in1) (I.ok.hd hc) ⟨o, ho, hx.1, hd⟩ tf.fit hb tf.ris tf.led fun s1 vs k1 hz g1 o1 pm => ?_)))
  obtain ⟨pk, vk⟩ := kO_keys rs pm
  have hv : vs.length = ks.length := by
    have := pk.length_eq
    rwa [List.length_map] at this
  have hsz : vs.length ≤ sizeLine := by
    have := rs.size
    rw [hv, ← this, sizeLine_eq]
    unfold scanBound at hb
    omega
  have hk1 : homK (vs.map kO) = true := homK_perm pk hk
  have hal : PySem.W.AllAlike ((vs.map kO).map keyD) := fun d hd d' hd' => by
    obtain ⟨k, h1, rfl⟩ := List.mem_map.mp hd
    obtain ⟨l, h2, rfl⟩ := List.mem_map.mp hd'
    exact homK_alike hk1 h1 h2
  have hok : PySem.W.Sortable ((vs.map kO).map keyD) := .inr fun d hd => by
    obtain ⟨k, _, rfl⟩ := List.mem_map.mp hd
    cases k
    · exact ⟨fun z => (by cases z), fun xs z => (by cases z)⟩
    · exact ⟨fun z => (by cases z), fun xs z => (by cases z)⟩
  refine wpAny_bind (wpAny_newList ?_ hsz)
  have hL : (s1.heap.push (seqObj "list" vs.toArray 0)).get? s1.heap.objs.size = some (seqObj "list" vs.toArray 0) := Heap.get?_push_size _ rfl
  have S := PySem.W.SortsAt.data (prog := X.prog) (w := X.w) (A := X.A.in1.in1) (s := { s1 with heap := PySem.W.sortingHeap (s1.heap.push (seqObj "list" vs.toArray 0)) s1.heap.objs.size vs }) (each_kreads vk) hal hok (fun d hd => by
    obtain ⟨k, _, rfl⟩ := List.mem_map.mp hd
    have : (keyD k).depth = 0 := by cases k <;> simp [keyD, PyData.depth]
    show X.A.units + 1 + 1 + _ < cLine
    omega)
  refine wpAny_bind (wpAny_holding (wpAny_call_entry slot_list_sort ⟨_, hL, rfl⟩ entry_list_sort (PySem.W.list_sort_vals hL S hsz ⟨_, rfl, ?_⟩) (args_list_sort _)))
  have hd2 : PySem.W.EachIs (fun u x => ∃ v, RelV v u ∧ Den (kwOf X) H x v) (PySem.W.sortVals (PySem.W.dataKind (PySem.W.sortingHeap (s1.heap.push (seqObj "list" vs.toArray 0)) s1.heap.objs.size vs) ((vs.map kO).map keyD)) false vs vs) (sortD ((vs.map kO).map keyD)) := by
    have := PySem.W.sortVals_data (enc := fun x : PyData => x) (h' := PySem.W.sortingHeap (s1.heap.push (seqObj "list" vs.toArray 0)) s1.heap.objs.size vs) false (each_keys (K := kwOf X) (H := H) vk) (each_kreads vk) (by rw [List.map_id']; exact hal)
    rw [List.map_id'] at this
    exact this
  rw [sortD_perm pk hk] at hd2
  obtain ⟨zs, z1, z2⟩ := den_each hd2
  have hn : H s1.heap.objs.size = none := I.hok.fresh hz
  obtain ⟨c, hat⟩ := sortedHeap_at (vs := vs) (out := (PySem.W.sortVals (PySem.W.dataKind (PySem.W.sortingHeap (s1.heap.push (seqObj "list" vs.toArray 0)) s1.heap.objs.size vs) ((vs.map kO).map keyD)) false vs vs).toArray) hL
  have kp : ∀ b u, s.heap.get? b = some u → (sortedHeap (s1.heap.push (seqObj "list" vs.toArray 0)) s1.heap.objs.size vs (PySem.W.sortVals (PySem.W.dataKind (PySem.W.sortingHeap (s1.heap.push (seqObj "list" vs.toArray 0)) s1.heap.objs.size vs) ((vs.map kO).map keyD)) false vs vs).toArray).get? b = some u := fun b u e => by
    have e1 := k1 b u e
    have lt := Heap.lt_size e1
    rw [sortedHeap_old (Nat.ne_of_lt lt) (by rw [size_push']; exact Nat.lt_succ_of_lt lt)]
    exact Heap.get?_push_of_some _ e1
  have hzl : zs.length ≤ sizeLine := by
    rw [z1.length, PySem.W.sortVals_length false rfl]
    exact hsz
  have J := I.call (h' := sortedHeap (s1.heap.push (seqObj "list" vs.toArray 0)) s1.heap.objs.size vs (PySem.W.sortVals (PySem.W.dataKind (PySem.W.sortingHeap (s1.heap.push (seqObj "list" vs.toArray 0)) s1.heap.objs.size vs) ((vs.map kO).map keyD)) false vs vs).toArray) (g' := s1.gens) (d' := s1.drawn) (t' := s1.toks) (ch := []) (Un.laid kp hz hn) (I.hok.laid kp hz (o := .lst zs) ⟨hzl, _, c, z1, hat⟩) (by rw [g1]; exact I.bare) (fun _ z => nomatch z)
  refine wpAny_pure ⟨_, rfl, .ref _, _, ?_, rfl, q _ zs hn z2⟩
  cases s1
  cases o1
  exact J
end
end Cl

set_option Elab.async false
set_option maxRecDepth 100000
set_option maxHeartbeats 2000000
namespace Cl
open PySem PySem.Spec PyProof.Rows L2
def tSetO (P : Program) (w : World) (G : Gh) (W : WX) (m : Mo (List Key)) : TE := fun σ H Q => ∃ μ c, Rel G μ c σ H ∧ RunAt G W m μ c σ H fun ks _ _ H1 => ∀ a, H1 a = none → Q (.ref a) (upd H1 a (SetMO P w a ks))
/-- e gives a new set -/
abbrev CSt (X : Cx) (N : Wn) (e : Expr) (m : Mo (List Key)) : Prop := PE X e (tSetO X.prog X.w (gh X N) N.W m)
section
variable {X : Cx} {N : Wn} {e : Expr} {pos p : Pos}
def bSet (y : BV) (hp : List CO) : Option (List Key) := ((bSeq y hp).bind asKs).bind fun ks => if ks.length ≤ 4000 then some (setK ks) else none
def gSet : BV → Mo (List Key) := gO bSet id
theorem cset {m : Mo BV} (hc : X.calm = true) (hb : CB X N e m) (hm : X.mg "set" = none) (hg : Gl X "set" := by rfl) (hs : starEach [e] X.env = (false, eval e X.env) :: starEach [] X.env := by rfl) :
    CSt X N (.Call (.Name "set" p) [e] [] pos) (mBind m gSet) :=
  PE.tm (pe_callTy (cr_setM hc) hg hm (by rfl) (pa_cons hb pa_nil hs) (he := hs)) fun σ H Q ⟨μ, c, R, p⟩ => ⟨μ, c, R, (RunAt.bind p).imp fun y μ1 c1 H1 a b r1 q v d => by
    obtain ⟨ks, e, q⟩ := gO_ok q
    unfold bSet at e
    cases h : bSeq y c1.hp with
    | none =>
      rw [h] at e
      cases e
    | some xs =>
      rw [h] at e
      simp only [Option.bind_some] at e
      cases h2 : asKs xs with
      | none =>
        rw [h2] at e
        cases e
      | some ls =>
        rw [h2] at e
        simp only [Option.bind_some] at e
        by_cases hl : ls.length ≤ 4000
        · rw [if_pos hl] at e
          cases e
          obtain ⟨l, ws, rfl, s, dl⟩ := bSeq_ok r1 d h
          rw [asKs_eq h2] at dl
          exact ⟨l, ls, ws, rfl, s, dl, hl, fun a ha => q H1 (Fz.refl _) r1 a ha⟩
        · rw [if_neg hl] at e
          cases e⟩
def gSortM (ks : List Key) : Mo (List PyData) := fun c => if homK ks = true then .ok (sortD (ks.map keyD)) c else .no
theorem upd_none {H : Hp} {a q : Addr} {o : HO} (h : upd H a o q = none) : H q = none ∧ q ≠ a := by
  by_cases e : q = a
  · subst e
    rw [upd_same] at h
    cases h
  · rw [upd_ne e] at h
    exact ⟨h, e⟩
theorem cf_sortSet {m : Mo (List Key)} (hc : X.calm = true) (hu : X.A.units + 100 < cLine) (hb : CSt X N e m) (hm : X.mg "sorted" = none) (hg : Gl X "sorted" := by rfl) (hs : starEach [e] X.env = (false, eval e X.env) :: starEach [] X.env := by rfl) :
    CF X N (.Call (.Name "sorted" p) [e] [] pos) (mBind m gSortM) :=
  PE.tm (pe_callB (cr_sortM hc hu) hg hm (by rfl) (pa_cons hb pa_nil hs) (he := hs)) fun σ H Q ⟨μ, c, R, p⟩ => ⟨μ, c, R, (RunAt.bind p).imp fun ks μ1 c1 H1 a b r1 q t ht => by
    have sm : Same H1 (upd H1 t (SetMO X.prog X.w t ks)) := same_new ht
    unfold RunAt gSortM at q
    by_cases hk : homK ks = true
    · rw [if_pos hk] at q
      exact ⟨t, ks, rfl, upd_same, hk, fun z us hz du => q _ _ (List.prefix_refl _) (Fz.same sm) (r1.same sm) z us hz du⟩
    · rw [if_neg hk] at q
      exact q.elim⟩
def rLenM (P : Program) (w : World) : List V → Hp → VK → Prop := fun vs H Q => ∃ (a : Addr) (ks : List Key), vs = [.ref a] ∧ H a = some (SetMO P w a ks) ∧ Q (.int ks.length) H
theorem cr_lenM : CallR X (.builtin "len") (rLenM X.prog X.w) := by
  intro pins s σ H vs us Q I r h
  obtain ⟨a, ks, rfl, ha, q⟩ := h
  rw [Vals.ref1 r]
  obtain ⟨o, es, ep, t, ho, hx, hd, rs, hb, tf⟩ : SetM X.prog X.w s.heap a ks := (I.hok a _ ha).1
  refine call_len_set ho hx hd tf.fit (by rw [rs.size] at hb ⊢; unfold scanBound at hb; omega) ⟨.int ks.length, H, I.tok _, ⟨_, by rw [rs.size]⟩, q⟩
theorem ce_lenSet {m : Mo (List Key)} (hb : CSt X N e m) (hm : X.mg "len" = none) (hg : Gl X "len" := by rfl) (hs : starEach [e] X.env = (false, eval e X.env) :: starEach [] X.env := by rfl) :
    CE X N (.Call (.Name "len" p) [e] [] pos) (mBind m fun ks => mRet (.d (.int ks.length))) :=
  PE.tm (pe_callB cr_lenM hg hm boot_len (pa_cons hb pa_nil hs) (he := hs)) fun σ H Q ⟨μ, c, R, p⟩ => ⟨μ, c, R, (RunAt.bind p).imp fun ks μ1 c1 H1 a b r1 q t ht => by
    have sm : Same H1 (upd H1 t (SetMO X.prog X.w t ks)) := same_new ht
    exact ⟨t, ks, rfl, upd_same, q.ret _ (Fz.same sm) (r1.same sm) _ (vden_int _)⟩⟩
end
end Cl

set_option Elab.async false
set_option maxRecDepth 100000
set_option maxHeartbeats 2000000
/-! Dicts: what they hold, get, put. -/
namespace Cl
open PySem PySem.Spec PyProof.Rows L2
/-! ### plain -/
def isSc (x : PyData) : Bool := (asK x).isSome
def lookD {α : Type} (kvs : List (PyData × α)) (x : PyData) : Option α := (kvs.find? fun p => decide (nk p.1 = nk x)).map (·.2)
def putD {α : Type} (kvs : List (PyData × α)) (x : PyData) (y : α) : List (PyData × α) :=
  if kvs.any (fun p => decide (nk p.1 = nk x)) then kvs.map (fun p => if nk p.1 = nk x then (p.1, y) else p) else kvs ++ [(x, y)]
/-- the key may stand in a dict of these keys -/
def keyFit {α : Type} (kvs : List (PyData × α)) (x : PyData) : Bool := (isSc x && kvs.all fun p => isSc p.1) || (keyOk x && kvs.all fun p => keyOk p.1)
theorem nk_keyD (k : Key) : nk (keyD k) = match k with
    | .inl i => .num i
    | .inr x => .text x := by cases k <;> simp [keyD, nk]
theorem nk_inj {k l : Key} : nk (keyD k) = nk (keyD l) ↔ k = l := by
  cases k <;> cases l <;> simp [keyD, nk]
section
variable {α : Type} {F : α → Value → Prop}
theorem look_k {kvs : List (PyData × α)} {vs : List (Key × Value)} (h : Paired (fun p q => p.1 = keyD q.1 ∧ F p.2 q.2) kvs vs) (k : Key) : (∃ z v, lookD kvs (keyD k) = some z ∧ valueAt vs k = some v ∧ F z v) ∨ lookD kvs (keyD k) = none ∧ valueAt vs k = none := by
  induction h with
  | nil => exact .inr ⟨rfl, rfl⟩
  | @cons p q ps qs h1 t ih =>
    obtain ⟨e, f⟩ := h1
    unfold lookD valueAt
    rw [List.find?_cons, List.find?_cons]
    by_cases hk : q.1 = k
    · have : nk p.1 = nk (keyD k) := by rw [e, hk]
      rw [decide_eq_true this, decide_eq_true hk]
      exact .inl ⟨p.2, q.2, rfl, rfl, f⟩
    · have : ¬ nk p.1 = nk (keyD k) := fun z => hk (by rw [e] at z; exact nk_inj.mp z)
      rw [decide_eq_false this, decide_eq_false hk]
      exact ih
theorem look_n {kvs : List (PyData × α)} {vs : List (NestedKey × Value)} (h : Paired (fun p q => nk p.1 = q.1 ∧ F p.2 q.2) kvs vs) (x : PyData) : (∃ z v, lookD kvs x = some z ∧ valueAt vs (nk x) = some v ∧ F z v) ∨ lookD kvs x = none ∧ valueAt vs (nk x) = none := by
  induction h with
  | nil => exact .inr ⟨rfl, rfl⟩
  | @cons p q ps qs h1 t ih =>
    obtain ⟨e, f⟩ := h1
    unfold lookD valueAt
    rw [List.find?_cons, List.find?_cons, ← e]
    by_cases hk : nk p.1 = nk x
    · rw [decide_eq_true hk]
      exact .inl ⟨p.2, q.2, rfl, rfl, f⟩
    · rw [decide_eq_false hk]
      exact ih
theorem any_look (kvs : List (PyData × α)) (x : PyData) : kvs.any (fun p => decide (nk p.1 = nk x)) = (lookD kvs x).isSome := by
  induction kvs with
  | nil => rfl
  | cons p ps ih =>
    unfold lookD
    rw [List.any_cons, List.find?_cons]
    by_cases hk : nk p.1 = nk x
    · rw [decide_eq_true hk]
      rfl
    · rw [decide_eq_false hk, Bool.false_or, ih]
      rfl
end
theorem paired_map {α β γ δ : Type} {F : α → β → Prop} {G : γ → δ → Prop} {f : α → γ} {g : β → δ} : ∀ {l : List α} {m : List β}, Paired F l m → (∀ x y, F x y → G (f x) (g y)) → Paired G (l.map f) (m.map g)
  | _, _, .nil, _ => .nil
  | _, _, .cons h t, q => .cons (q _ _ h) (paired_map t q)
theorem paired_any {α β : Type} {F : α → β → Prop} {f : α → Bool} {g : β → Bool} : ∀ {l : List α} {m : List β}, Paired F l m → (∀ x y, F x y → f x = g y) → l.any f = m.any g
  | _, _, .nil, _ => rfl
  | _, _, .cons h t, q => by rw [List.any_cons, List.any_cons, q _ _ h, paired_any t q]
/-- put, in step -/
theorem put_k {α : Type} {G : α → V → Prop} {kvs : List (PyData × α)} {kws : List (Key × V)} (h : Paired (fun p q => p.1 = keyD q.1 ∧ G p.2 q.2) kvs kws) (k : Key) {y : α} {v : V} (hy : G y v) : Paired (fun p q => p.1 = keyD q.1 ∧ G p.2 q.2) (putD kvs (keyD k) y) (putK kws k v) := by
  have e : kvs.any (fun p => decide (nk p.1 = nk (keyD k))) = kws.any fun q => decide (q.1 = k) := paired_any h fun p q z => by
    rw [z.1]
    exact decide_eq_decide.mpr nk_inj
  unfold putD putK
  rw [e]
  split
  · refine paired_map h fun p q z => ?_
    have e1 : nk p.1 = nk (keyD k) ↔ q.1 = k := by rw [z.1]; exact nk_inj
    by_cases hk : q.1 = k
    · rw [if_pos hk, if_pos (e1.mpr hk)]
      exact ⟨z.1, hy⟩
    · rw [if_neg hk, if_neg (fun w => hk (e1.mp w))]
      exact z
  · exact paired_app h (.cons ⟨rfl, hy⟩ .nil)
def putN (kws : List (NestedKey × Addr × V)) (n : NestedKey) (b : Addr) (v : V) : List (NestedKey × Addr × V) :=
  if kws.any (fun q => decide (q.1 = n)) then kws.map (fun q => if q.1 = n then (q.1, q.2.1, v) else q) else kws ++ [(n, b, v)]
theorem put_n {α : Type} {T : PyData → NestedKey → Addr → Prop} {G : α → V → Prop} {kvs : List (PyData × α)} {kws : List (NestedKey × Addr × V)} (h : Paired (fun p q => (q.1 = nk p.1 ∧ T p.1 q.1 q.2.1) ∧ G p.2 q.2.2) kvs kws) {x : PyData} {b : Addr} {y : α} {v : V} (hx : T x (nk x) b) (hy : G y v) :
    Paired (fun p q => (q.1 = nk p.1 ∧ T p.1 q.1 q.2.1) ∧ G p.2 q.2.2) (putD kvs x y) (putN kws (nk x) b v) := by
  have e : kvs.any (fun p => decide (nk p.1 = nk x)) = kws.any fun q => decide (q.1 = nk x) := paired_any h fun p q z => by rw [z.1.1]
  unfold putD putN
  rw [e]
  split
  · refine paired_map h fun p q z => ?_
    by_cases hk : q.1 = nk x
    · rw [if_pos hk, if_pos (by rw [← z.1.1]; exact hk)]
      exact ⟨z.1, hy⟩
    · rw [if_neg hk, if_neg (by rw [← z.1.1]; exact hk)]
      exact z
  · exact paired_app h (.cons ⟨⟨rfl, hx⟩, hy⟩ .nil)
/-! ### keys in the heap -/
section
variable {X : Cx} {pins : List (Addr × Obj)} {σ : LSt} {H : Hp} {s : Shared}
mutual
theorem Den.nested (I : Inv X pins σ H s) : ∀ (x : PyData) (v : V) (u : Value), hashb x = true → Den (kwOf X) H x v → RelV v u → NestedIs s.heap (nk x) u
  | .none, v, u, _, h, r => by
    simp only [Den] at h
    subst h
    obtain rfl : u = Value.none := r
    simp only [nk]
    exact .none
  | .bool b, v, u, _, h, r => by
    simp only [Den] at h
    subst h
    obtain rfl : u = Value.bool b := r
    simp only [nk]
    exact .bool rfl
  | .int i, v, u, _, h, r => by
    simp only [Den] at h
    subst h
    obtain ⟨t, rfl⟩ := r
    simp only [nk]
    exact .int i t
  | .str i, v, u, _, h, r => by
    simp only [Den] at h
    subst h
    obtain ⟨t, rfl⟩ := r
    simp only [nk]
    exact .text i t
  | .tuple xs, v, u, p, h, r => by
    simp only [Den] at h
    obtain ⟨a, vs, rfl, q, d⟩ := h
    obtain rfl : u = Value.ref a := r
    obtain ⟨its, rv, ⟨o, ho, hc, n, hd⟩, _⟩ := I.tuple q
    simp only [nk]
    exact .tup ho hc hd (by simpa using DenL.nested I xs vs its (by simpa [hashb] using p) d rv)
  | .list _, _, _, p, _, _ => by simp [hashb] at p
  | .dict _, _, _, p, _, _ => by simp [hashb] at p
theorem DenL.nested (I : Inv X pins σ H s) : ∀ (xs : List PyData) (vs : List V) (us : List Value), hashbs xs = true → DenL (kwOf X) H xs vs → Vals vs us → NestedAll s.heap (nks xs) us
  | [], vs, us, _, h, r => by
    simp only [DenL] at h
    subst h
    cases r
    simp only [nks]
    exact .nil
  | x :: xs, vs, us, p, h, r => by
    simp only [DenL] at h
    obtain ⟨v, w, rfl, d, t⟩ := h
    have p : hashb x = true ∧ hashbs xs = true := by simpa [hashbs] using p
    cases r with
    | cons r1 r2 =>
      simp only [nks]
      exact .cons (Den.nested I x v _ p.1 d r1) (DenL.nested I xs w _ p.2 t r2)
end
theorem keyOk_is {x : PyData} {b : Addr} (I : Inv X pins σ H s) (h : keyOk x = true) (d : Den (kwOf X) H x (.ref b)) : (nestedKind X.prog X.w).is s.heap (nk x) b := by
  cases x with
  | tuple xs =>
    have h' : hashbs xs = true ∧ (NestedKey.tup (nks xs)).depth ≤ 8 := by simpa [keyOk] using h
    refine ⟨Den.nested I (.tuple xs) (.ref b) (.ref b) (by simpa [hashb] using h'.1) d rfl, ?_⟩
    simp only [nk]
    exact h'.2
  | none => cases h
  | bool _ => cases h
  | int _ => cases h
  | str _ => cases h
  | list _ => cases h
  | dict _ => cases h
theorem keyOk_ref {K : KW} {x : PyData} {v : V} (h : keyOk x = true) (d : Den K H x v) : ∃ b, v = .ref b := by
  cases x with
  | tuple xs =>
    simp only [Den] at d
    obtain ⟨a, _, e, _⟩ := d
    exact ⟨a, e⟩
  | none => cases h
  | bool _ => cases h
  | int _ => cases h
  | str _ => cases h
  | list _ => cases h
  | dict _ => cases h
theorem isSc_key {K : KW} {x : PyData} {v : V} (h : isSc x = true) (d : Den K H x v) : ∃ k, x = keyD k ∧ v = kV k := by
  cases x with
  | int i =>
    simp only [Den] at d
    exact ⟨.inl i, rfl, d⟩
  | str i =>
    simp only [Den] at d
    exact ⟨.inr i, rfl, d⟩
  | none => cases h
  | bool _ => cases h
  | tuple _ => cases h
  | list _ => cases h
  | dict _ => cases h
theorem sc_keyOk {x : PyData} (h1 : isSc x = true) (h2 : keyOk x = true) : False := by
  cases x <;> first | cases h2 | cases h1
/-! ### the dict in the heap -/
variable {α : Type} {R : α → V → Prop} {kvs : List (PyData × α)} {a : Addr} {ho : HO}
/-- what a value of the clean dict is in the heap -/
abbrev Fv (R : α → V → Prop) : α → Value → Prop := fun z u => ∃ v, R z v ∧ RelV v u
theorem kvPair {kws : List (Key × V)} {vs : List (Key × Value)} (p : Paired (fun p q => p.1 = keyD q.1 ∧ R p.2 q.2) kvs kws) (r : KV kws vs) : Paired (fun p q => p.1 = keyD q.1 ∧ Fv R p.2 q.2) kvs vs := by
  induction p generalizing vs with
  | nil =>
    cases r
    exact .nil
  | cons h t ih =>
    cases r with
    | cons r1 r2 => exact .cons ⟨by rw [h.1, r1.1], _, h.2, r1.2⟩ (ih r2)
theorem rd_rows (I : Inv X pins σ H s) {kws : List (NestedKey × Addr × V)} (hr : Rd H a (DKy X.w a kws)) : kws.length ≤ sizeLine ∧ (a == sysModules) = false ∧ (kws.map (·.1)).Nodup ∧
    ∃ (xs : List (NestedKey × Addr × Value)) (o : Obj) (es : Array DictEntry) (ep : Nat), Paired (fun p q => p.1 = q.1 ∧ p.2.1 = q.2.1 ∧ RelV p.2.2 q.2.2) kws xs ∧ s.heap.get? a = some o ∧ o.ExactDict ∧ o.data = .dict es ep ∧ es.toList = xs.map fun x => ⟨x.1.hash X.w, .ref x.2.1, x.2.2⟩ := by
  rcases hr with h | ⟨o, h⟩
  · exact (I.hok a _ h).1
  · exact (I.hok a _ h).2.1
theorem paired_nil {α β : Type} {F : α → β → Prop} {m : List β} (h : Paired F [] m) : m = [] := by
  cases h
  rfl
/-- of ints and texts -/
theorem view_k (I : Inv X pins σ H s) (d : DicP (kwOf X) H R kvs a ho) (hr : Rd H a ho) (hk : kvs.all (fun p => isSc p.1) = true) :
    (a == sysModules) = false ∧ kvs.length ≤ sizeLine ∧ ∃ vs, s.heap.DictOf (mixKind X.prog X.w) a vs ∧ Paired (fun p q => p.1 = keyD q.1 ∧ Fv R p.2 q.2) kvs vs := by
  rcases d with ⟨kws, rfl, p⟩ | ⟨kws, rfl, p⟩
  · obtain ⟨z, hs, vs, r, dd⟩ := dk_rd I.hok hr
    exact ⟨hs, by rw [Paired.length p]; exact z, vs, dd, kvPair p r⟩
  · cases kvs with
    | cons q t =>
      cases p with
      | cons h _ => exact (sc_keyOk (List.all_eq_true.mp hk q (.head _)) h.1.2.1).elim
    | nil =>
      have := paired_nil p
      subst this
      obtain ⟨z, hs, _, xs, o, es, ep, pr, g, ex, dt, he⟩ := rd_rows I hr
      have := paired_nil pr
      subst this
      have e0 : es = #[] := by
        apply Array.toList_inj.mp
        rw [he]
        rfl
      subst e0
      refine ⟨hs, Nat.zero_le _, [], ⟨o, #[], ep, g, ex, dt, ?_, ?_, List.nodup_nil⟩, .nil⟩
      · first
          | exact KeysOf.empty
          | (intro i h; simp at h)
          | (intro e h; simp at h)
          | simp [PySem.KeysOf]
      · exact .nil
/-- of tuples -/
theorem view_n (I : Inv X pins σ H s) (d : DicP (kwOf X) H R kvs a ho) (hr : Rd H a ho) (hk : kvs.all (fun p => keyOk p.1) = true) :
    (a == sysModules) = false ∧ kvs.length ≤ sizeLine ∧ ∃ kws : List (NestedKey × Addr × V), Paired (fun p q => (q.1 = nk p.1 ∧ keyOk p.1 = true ∧ Den (kwOf X) H p.1 (.ref q.2.1)) ∧ R p.2 q.2.2) kvs kws ∧
      ∃ xs : List (NestedKey × Addr × Value), s.heap.DictOfH (nestedKind X.prog X.w) a xs ∧ Paired (fun p q => p.1 = q.1 ∧ p.2.1 = q.2.1 ∧ RelV p.2.2 q.2.2) kws xs := by
  rcases d with ⟨kws, rfl, p⟩ | ⟨kws, rfl, p⟩
  · cases kvs with
    | cons q t =>
      cases p with
      | cons h _ =>
        have := List.all_eq_true.mp hk q (.head _)
        refine (sc_keyOk ?_ this).elim
        rw [h.1]
        rename_i k _ _
        cases k.1 <;> rfl
    | nil =>
      have := paired_nil p
      subst this
      obtain ⟨z, hs, vs, r, o, es, ep, g, ex, dt, _, pr, _⟩ := dk_rd I.hok hr
      have := paired_nil r
      subst this
      refine ⟨hs, Nat.zero_le _, [], .nil, [], ⟨o, es, ep, g, ex, dt, ?_, (fun x h => by cases h), List.nodup_nil⟩, .nil⟩
      have := pr.length
      rw [List.length_nil] at this
      rw [List.length_eq_zero_iff.mp this]
      rfl
  · obtain ⟨z, hs, nd, xs, o, es, ep, pr, g, ex, dt, he⟩ := rd_rows I hr
    refine ⟨hs, by rw [Paired.length p]; exact z, kws, p, xs, ⟨o, es, ep, g, ex, dt, he, ?_, ?_⟩, pr⟩
    · intro x hx
      obtain ⟨i, hi⟩ := List.getElem?_of_mem hx
      have back : ∀ {l : List (NestedKey × Addr × V)} {m : List (NestedKey × Addr × Value)} {i : Nat} {y}, Paired (fun p q => p.1 = q.1 ∧ p.2.1 = q.2.1 ∧ RelV p.2.2 q.2.2) l m → m[i]? = some y → ∃ x, l[i]? = some x ∧ x.1 = y.1 ∧ x.2.1 = y.2.1 := fun {l m i y} pp e => by
        obtain ⟨x, h1, h2⟩ := paired_got pp e
        exact ⟨x, h1, h2.1, h2.2.1⟩
      obtain ⟨y, hy, e1, e2⟩ := back pr hi
      obtain ⟨q, hq, e3, e4⟩ := paired_got p hy
      have k1 := keyOk_is I e3.2.1 e3.2.2
      rw [← e1, ← e2, e3.1]
      exact k1
    · have : ∀ {l : List (NestedKey × Addr × V)} {m : List (NestedKey × Addr × Value)}, Paired (fun p q => p.1 = q.1 ∧ p.2.1 = q.2.1 ∧ RelV p.2.2 q.2.2) l m → l.map (·.1) = m.map (·.1) := fun {l m} pp => by
        induction pp with
        | nil => rfl
        | cons h _ ih => rw [List.map_cons, List.map_cons, h.1, ih]
      rw [← this pr]
      exact nd
theorem pairsH_p {kws : List (NestedKey × Addr × V)} {xs : List (NestedKey × Addr × Value)} {H : Hp} {K : KW} (p : Paired (fun p q => (q.1 = nk p.1 ∧ keyOk p.1 = true ∧ Den K H p.1 (.ref q.2.1)) ∧ R p.2 q.2.2) kvs kws) (r : Paired (fun p q => p.1 = q.1 ∧ p.2.1 = q.2.1 ∧ RelV p.2.2 q.2.2) kws xs) :
    Paired (fun p q => nk p.1 = q.1 ∧ Fv R p.2 q.2) kvs (pairsH xs) := by
  induction p generalizing xs with
  | nil =>
    cases r
    exact .nil
  | cons h t ih =>
    cases r with
    | cons r1 r2 => exact .cons ⟨by rw [← h.1.1, r1.1], _, h.2, r1.2.2⟩ (ih r2)
end
end Cl

set_option Elab.async false
set_option maxRecDepth 100000
set_option maxHeartbeats 2000000
/-! Dicts: get, in, put, in the heap. -/
namespace Cl
open PySem PySem.Spec PyProof.Rows L2
section
variable {X : Cx} {pins : List (Addr × Obj)} {σ : LSt} {H : Hp} {s : Shared} {α : Type} {R : α → V → Prop} {kvs : List (PyData × α)} {a : Addr} {ho : HO} {x : PyData} {v : V} {u : Value} {A : Around} {E : Value → Shared → Prop}
theorem keyFit_cases (h : keyFit kvs x = true) : (isSc x = true ∧ kvs.all (fun p => isSc p.1) = true) ∨ keyOk x = true ∧ kvs.all (fun p => keyOk p.1) = true := by
  unfold keyFit at h
  simpa [Bool.or_eq_true, Bool.and_eq_true] using h
/-- what a key finds -/
def Found (R : α → V → Prop) (o : Option α) (r : Option Value) : Prop := (∃ z w y, o = some z ∧ r = some w ∧ R z y ∧ RelV y w) ∨ o = none ∧ r = none
theorem Found.isSome {o : Option α} {r : Option Value} (h : Found R o r) : r.isSome = o.isSome := by
  rcases h with ⟨z, w, y, rfl, rfl, _⟩ | ⟨rfl, rfl⟩ <;> rfl
/-- the two ways a key is met -/
theorem key_met (I : Inv X pins σ H s) (d : DicP (kwOf X) H R kvs a ho) (hr : Rd H a ho) (hf : keyFit kvs x = true) (dx : Den (kwOf X) H x v) (rx : RelV v u) : (a == sysModules) = false ∧ kvs.length ≤ sizeLine ∧
    ((∃ (k : Key) (vs : List (Key × Value)), x = keyD k ∧ (mixKind X.prog X.w).is k u = true ∧ s.heap.DictOf (mixKind X.prog X.w) a vs ∧ Paired (fun p q => p.1 = keyD q.1 ∧ Fv R p.2 q.2) kvs vs ∧ Found R (lookD kvs x) (valueAt vs k)) ∨
    ∃ (b : Addr) (kws : List (NestedKey × Addr × V)) (xs : List (NestedKey × Addr × Value)), u = .ref b ∧ v = .ref b ∧ keyOk x = true ∧ (nestedKind X.prog X.w).is s.heap (nk x) b ∧ s.heap.DictOfH (nestedKind X.prog X.w) a xs ∧
      Paired (fun p q => (q.1 = nk p.1 ∧ keyOk p.1 = true ∧ Den (kwOf X) H p.1 (.ref q.2.1)) ∧ R p.2 q.2.2) kvs kws ∧ Paired (fun p q => p.1 = q.1 ∧ p.2.1 = q.2.1 ∧ RelV p.2.2 q.2.2) kws xs ∧ Found R (lookD kvs x) (valueAt (pairsH xs) (nk x))) := by
  rcases keyFit_cases hf with ⟨h1, h2⟩ | ⟨h1, h2⟩
  · obtain ⟨k, rfl, rfl⟩ := isSc_key h1 dx
    obtain ⟨hs, hl, vs, dd, pp⟩ := view_k I d hr h2
    refine ⟨hs, hl, .inl ⟨k, vs, rfl, kV_is rx, dd, pp, ?_⟩⟩
    rcases look_k pp k with ⟨z, w, e1, e2, y, e3, e4⟩ | ⟨e1, e2⟩
    · exact .inl ⟨z, w, y, e1, e2, e3, e4⟩
    · exact .inr ⟨e1, e2⟩
  · obtain ⟨b, rfl⟩ := keyOk_ref h1 dx
    obtain rfl : u = Value.ref b := rx
    obtain ⟨hs, hl, kws, pp, xs, dd, pr⟩ := view_n I d hr h2
    refine ⟨hs, hl, .inr ⟨b, kws, xs, rfl, rfl, h1, keyOk_is I h1 dx, dd, pp, pr, ?_⟩⟩
    rcases look_n (pairsH_p pp pr) x with ⟨z, w, e1, e2, y, e3, e4⟩ | ⟨e1, e2⟩
    · exact .inl ⟨z, w, y, e1, e2, e3, e4⟩
    · exact .inr ⟨e1, e2⟩
theorem room_n (hu : X.A.units + 100 < cLine) : (nestedKind X.prog X.w).room X.A.in1 := by
  show X.A.units + 1 + 8 < cLine
  omega
theorem cl_typeIs (I : Inv X pins σ H s) (d : DicP (kwOf X) H R kvs a ho) (hr : Rd H a ho) : s.TypeIs (.ref a) "dict" ∧ (∃ ob, s.heap.get? a = some ob ∧ ob.dict = none) ∧ (a == sysModules) = false := by
  rcases d with ⟨kws, rfl, p⟩ | ⟨kws, rfl, p⟩
  · obtain ⟨z, hs, vs, r, o, es, ep, g, ex, _⟩ := dk_rd I.hok hr
    exact ⟨⟨o, g, ex.1⟩, ⟨o, g, ex.2.1⟩, hs⟩
  · obtain ⟨z, hs, _, xs, o, es, ep, pr, g, ex, _⟩ := rd_rows I hr
    exact ⟨⟨o, g, ex.1⟩, ⟨o, g, ex.2.1⟩, hs⟩
theorem cl_getItem {z : α} {Q : Value → Shared → Prop} (hu : X.A.units + 100 < cLine) (I : Inv X pins σ H s) (d : DicP (kwOf X) H R kvs a ho) (hr : Rd H a ho) (hf : keyFit kvs x = true) (dx : Den (kwOf X) H x v) (rx : RelV v u) (hz : lookD kvs x = some z)
    (h : ∀ w s' y, Inv X pins σ H s' → R z y → RelV y w → Q w s') : wpAny (model X.prog X.w) X.A (getItem (.ref a) u) Q E s := by
  obtain ⟨hs, hl, ⟨k, vs, rfl, hk, dd, pp, fo⟩ | ⟨b, kws, xs, rfl, rfl, h1, hk, dd, pp, pr, fo⟩⟩ := key_met I d hr hf dx rx
  · rcases fo with ⟨z', w, y, e1, e2, e3, e4⟩ | ⟨e1, e2⟩
    · cases hz.symm.trans e1
      exact wpAny_getItem_of hk dd.mapOf e2 (h w _ y (I.tok _) e3 e4)
    · cases hz.symm.trans e1
  · rcases fo with ⟨z', w, y, e1, e2, e3, e4⟩ | ⟨e1, e2⟩
    · cases hz.symm.trans e1
      exact getItem_keyed (room_n hu) hk ⟨xs, dd, rfl⟩ e2 (h w _ y (I.tok _) e3 e4)
    · cases hz.symm.trans e1
theorem cl_in {Q : Value → Shared → Prop} (hu : X.A.units + 100 < cLine) (I : Inv X pins σ H s) (d : DicP (kwOf X) H R kvs a ho) (hr : Rd H a ho) (hf : keyFit kvs x = true) (dx : Den (kwOf X) H x v) (rx : RelV v u)
    (h : ∀ s', Inv X pins σ H s' → Q (.bool (lookD kvs x).isSome) s') : wpAny (model X.prog X.w) X.A (compareOp .In u (.ref a)) Q E s := by
  obtain ⟨hs, hl, ⟨k, vs, rfl, hk, dd, pp, fo⟩ | ⟨b, kws, xs, rfl, rfl, h1, hk, dd, pp, pr, fo⟩⟩ := key_met I d hr hf dx rx
  · refine wpAny_in_of hk hs dd.mapOf ?_
    rw [fo.isSome]
    exact h _ (I.tok _)
  · refine in_keyed (room_n hu) hk hs ⟨xs, dd, rfl⟩ ?_
    rw [fo.isSome]
    exact h _ (I.tok _)
theorem cl_notIn {Q : Value → Shared → Prop} (hu : X.A.units + 100 < cLine) (I : Inv X pins σ H s) (d : DicP (kwOf X) H R kvs a ho) (hr : Rd H a ho) (hf : keyFit kvs x = true) (dx : Den (kwOf X) H x v) (rx : RelV v u)
    (h : ∀ s', Inv X pins σ H s' → Q (.bool (!(lookD kvs x).isSome)) s') : wpAny (model X.prog X.w) X.A (compareOp .NotIn u (.ref a)) Q E s := by
  obtain ⟨hs, hl, ⟨k, vs, rfl, hk, dd, pp, fo⟩ | ⟨b, kws, xs, rfl, rfl, h1, hk, dd, pp, pr, fo⟩⟩ := key_met I d hr hf dx rx
  · refine wpAny_notIn_of hk hs dd.mapOf ?_
    rw [fo.isSome]
    exact h _ (I.tok _)
  · refine notIn_keyed (room_n hu) hk hs ⟨xs, dd, rfl⟩ ?_
    rw [fo.isSome]
    exact h _ (I.tok _)
/-- .. behind a[x] = y -/
def PutOk (X : Cx) (H : Hp) (R : α → V → Prop) (kvs : List (PyData × α)) (a : Addr) (x : PyData) (y : α) (vy : V) (ho' : HO) : Prop :=
  ∀ (R' : α → V → Prop) (H' : Hp), Fz H H' → (∀ z t, R z t → R' z t) → R' y vy → DicP (kwOf X) H' R' (putD kvs x y) a ho'
theorem vals_k {kws : List (Key × V)} {vs : List (Key × Value)} (p : Paired (fun p q => p.1 = keyD q.1 ∧ Fv R p.2 q.2) kvs vs) : ∃ kws : List (Key × V), Paired (fun p q => p.1 = keyD q.1 ∧ R p.2 q.2) kvs kws ∧ KV kws vs := by
  induction p with
  | nil => exact ⟨[], .nil, .nil⟩
  | @cons p q ps qs h t ih =>
    obtain ⟨kws, h1, h2⟩ := ih
    obtain ⟨e, w, r1, r2⟩ := h
    exact ⟨(q.1, w) :: kws, .cons ⟨e, r1⟩ h1, .cons ⟨rfl, r2⟩ h2⟩
theorem stored_put {kws : List (Key × V)} {vs : List (Key × Value)} (h : KV kws vs) (k : Key) {vy : V} {w : Value} (r : RelV vy w) : KV (putK kws k vy) (stored vs k w) := h.put k r
theorem storedH_put {kws : List (NestedKey × Addr × V)} {xs : List (NestedKey × Addr × Value)} (h : Paired (fun p q => p.1 = q.1 ∧ p.2.1 = q.2.1 ∧ RelV p.2.2 q.2.2) kws xs) (n : NestedKey) (b : Addr) {vy : V} {w : Value} (r : RelV vy w) :
    Paired (fun p q => p.1 = q.1 ∧ p.2.1 = q.2.1 ∧ RelV p.2.2 q.2.2) (putN kws n b vy) (storedH xs n b w) := by
  have e : kws.any (fun q => decide (q.1 = n)) = (atKey xs n).isSome := by
    induction h with
    | nil => rfl
    | @cons p q ps qs h t ih =>
      rw [List.any_cons, ih, h.1]
      unfold atKey
      rw [List.find?_cons]
      by_cases hk : q.1 = n
      · rw [decide_eq_true hk]
        rfl
      · rw [decide_eq_false hk, Bool.false_or]
  unfold putN storedH
  rw [e]
  split
  · refine paired_map h fun p q z => ?_
    unfold putAt
    by_cases hk : q.1 = n
    · rw [if_pos hk, if_pos (by rw [z.1]; exact hk)]
      exact ⟨z.1, z.2.1, r⟩
    · rw [if_neg hk, if_neg (by rw [z.1]; exact hk)]
      exact z
  · exact paired_app h (.cons ⟨rfl, rfl, r⟩ .nil)
theorem putD_len {y : α} : (putD kvs x y).length ≤ kvs.length + 1 := by
  unfold putD
  split
  · rw [List.length_map]
    omega
  · rw [List.length_append]
    exact Nat.le_refl _
theorem dic_mut (d : DicP (kwOf X) H R kvs a ho) : Mut (some ho) := by
  rcases d with ⟨_, rfl, _⟩ | ⟨_, rfl, _⟩ <;> trivial
theorem dky_new {P : Program} {w : World} {H' : Hp} {h' : Heap} {kws : List (NestedKey × Addr × V)} {xs : List (NestedKey × Addr × Value)} (z : kws.length ≤ sizeLine) (hs : (a == sysModules) = false) (dd : h'.DictOfH (nestedKind P w) a xs)
    (r : Paired (fun p q => p.1 = q.1 ∧ p.2.1 = q.2.1 ∧ RelV p.2.2 q.2.2) kws xs) : ObjOk P w H' h' a (DKy w a kws) := by
  obtain ⟨o, es, ep, g, ex, dt, he, _, nd⟩ := dd
  have keys : ∀ {l : List (NestedKey × Addr × V)} {m : List (NestedKey × Addr × Value)}, Paired (fun p q => p.1 = q.1 ∧ p.2.1 = q.2.1 ∧ RelV p.2.2 q.2.2) l m → l.map (·.1) = m.map (·.1) := fun {l m} pp => by
    induction pp with
    | nil => rfl
    | cons h _ ih => rw [List.map_cons, List.map_cons, h.1, ih]
  exact ⟨⟨z, hs, by rw [keys r]; exact nd, xs, o, es, ep, r, g, ex, dt, he⟩, ⟨o, g⟩, fun h1 h2 ⟨z', hs', nd', xs', o', es', ep', r', g', ex', dt', he'⟩ k => ⟨z', hs', nd', xs', o', es', ep', r', k o' g', ex', dt', he'⟩⟩
theorem cl_setItem {y : α} {vy : V} {w : Value} {Q : Unit → Shared → Prop} (hu : X.A.units + 100 < cLine) (I : Inv X pins σ H s) (d : DicP (kwOf X) H R kvs a ho) (hr : H a = some ho) (hf : keyFit kvs x = true) (hl : kvs.length < 16777216) (dx : Den (kwOf X) H x v) (rx : RelV v u) (hy : R y vy) (ry : RelV vy w)
    (h : ∀ s' ho', Inv X pins σ (upd H a ho') s' → PutOk X H R kvs a x y vy ho' → Q () s') : wpAny (model X.prog X.w) X.A (setItem (.ref a) u w) Q E s := by
  have mu : Mut (H a) := by rw [hr]; exact dic_mut d
  have hlp : (putD kvs x y).length ≤ sizeLine := by
    have := putD_len (kvs := kvs) (x := x) (y := y)
    rw [sizeLine_eq]
    omega
  obtain ⟨hs, hz, ⟨k, vs, rfl, hk, dd, pp, fo⟩ | ⟨b, kws, xs, rfl, rfl, h1, hk, dd, pp, pr, fo⟩⟩ := key_met I d (.inl hr) hf dx rx
  · obtain ⟨kws, p1, p2⟩ := vals_k (kws := []) pp
    have q1 := put_k p1 k hy
    refine wpAny_setItem_pairs (hsz := by rw [← Paired.length pp]; exact hz) hk dd fun h' dd' sb => h _ (.dK (putK kws k vy)) ?_ fun R' H' f m hy' => .inl ⟨_, rfl, put_k (Paired.mapP p1 fun _ _ z => ⟨z.1, m _ _ z.2⟩) k hy'⟩
    obtain ⟨o, es, ep, g, _⟩ := id dd'
    exact d_write I mu sb ⟨o, g⟩ (dk_new (by rw [← Paired.length q1]; exact hlp) hs (stored_put p2 k ry) dd')
  · have q1 := put_n (T := fun p n b => keyOk p = true ∧ Den (kwOf X) H p (.ref b)) (b := b) pp ⟨h1, dx⟩ hy
    refine wpAny_setItem_heap (hsz := by rw [← Paired.length pr, ← Paired.length pp]; exact hz) (room_n hu) hk dd fun h' dd' sb => ?_
    have r1 := storedH_put pr (nk x) b ry
    refine h _ (DKy X.w a (putN kws (nk x) b vy)) ?_ fun R' H' f m hy' => .inr ⟨_, rfl, put_n (T := fun p n b => keyOk p = true ∧ Den (kwOf X) H' p (.ref b)) (Paired.mapP pp fun _ _ z => ⟨⟨z.1.1, z.1.2.1, Den.mono f _ _ z.1.2.2⟩, m _ _ z.2⟩) ⟨h1, Den.mono f _ _ dx⟩ hy'⟩
    obtain ⟨o, es, ep, g, _⟩ := id dd'
    exact d_write I mu sb ⟨o, g⟩ (dky_new (by rw [← Paired.length q1]; exact hlp) hs dd' r1)
end
end Cl

set_option Elab.async false
set_option maxRecDepth 100000
set_option maxHeartbeats 2000000
/-! Subscripts of lists, tuples, texts and dicts alike; in; put. -/
namespace Cl
open PySem PySem.Spec PyProof.Rows L2
def upC (kvs : List (PyData × PyData)) : List (PyData × CV) := kvs.map fun p => (p.1, .d p.2)
/-- the entries of a dict -/
def bDic (y : BV) (hp : List CO) : Option (List (PyData × CV)) := match y with
  | .c (.d (.dict kvs)) => some (upC kvs)
  | .k kvs => some (upC kvs)
  | .c (.r n) => match hp[n]? with
    | some (.dic kvs) => some kvs
    | _ => none
  | _ => none
theorem upC_p {K : KW} {H : Hp} {μ : List Addr} {kvs : List (PyData × PyData)} {a : Addr} {ho : HO} (d : DicP K H (Den K H) kvs a ho) : DicP K H (VDen K H μ) (upC kvs) a ho := by
  have mp : ∀ {κ : Type} {T : PyData → κ → Prop} {G : κ → V} {l : List (PyData × PyData)} {m : List κ}, Paired (fun p q => T p.1 q ∧ Den K H p.2 (G q)) l m → Paired (fun p q => T p.1 q ∧ VDen K H μ p.2 (G q)) (upC l) m := fun {κ T G l m} h => by
    induction h with
    | nil => exact .nil
    | cons h _ ih => exact .cons h ih
  rcases d with ⟨kws, e, p⟩ | ⟨kws, e, p⟩
  · exact .inl ⟨kws, e, mp (T := fun p (q : Key × V) => p = keyD q.1) (G := fun q => q.2) p⟩
  · exact .inr ⟨kws, e, mp (T := fun p (q : NestedKey × Addr × V) => q.1 = nk p ∧ keyOk p = true ∧ Den K H p (.ref q.2.1)) (G := fun q => q.2.2) p⟩
section
variable {X : Cx} {N : Wn} {e a b : Expr} {pos : Pos}
theorem bDic_ok {y : BV} {μ : List Addr} {c : CS} {σ : LSt} {H : Hp} {w : V} {kvs : List (PyData × CV)} (R : Rel (gh X N) μ c σ H) (d : BDen (kwOf X) H μ y w) (e : bDic y c.hp = some kvs) : ∃ l ho, w = .ref l ∧ Rd H l ho ∧ DicP (kwOf X) H (VDen (kwOf X) H μ) kvs l ho := by
  cases y with
  | l _ => cases e
  | k ys =>
    cases e
    obtain ⟨l, ho, e1, e2, e3⟩ := d
    exact ⟨l, ho, e1, .inl e2, upC_p e3⟩
  | c x =>
    cases x with
    | o _ => cases e
    | r n =>
      unfold bDic at e
      dsimp only at e
      cases hn : c.hp[n]? with
      | none =>
        rw [hn] at e
        cases e
      | some ob =>
        rw [hn] at e
        cases ob with
        | lst _ => cases e
        | ins _ _ => cases e
        | dic zs =>
          cases e
          obtain ⟨l, el, rfl⟩ := d
          obtain ⟨l', ho, e1, e2, dp⟩ := R.hp n _ hn
          rw [el] at e1
          cases e1
          exact ⟨l, ho, rfl, .inl e2, dp⟩
    | d x =>
      cases x with
      | dict ys =>
        cases e
        obtain ⟨l, o, ho, e1, e2, e3⟩ := dict_den d
        exact ⟨l, ho, e1, .inr ⟨o, e2⟩, upC_p e3⟩
      | none => cases e
      | bool _ => cases e
      | int _ => cases e
      | str _ => cases e
      | tuple _ => cases e
      | list _ => cases e
/-! ### subscripts -/
def gIxG (y : BV) (x : CV) : Mo CV := fun c => match bDic y c.hp with
  | some kvs => match x with
    | .d k => if keyFit kvs k = true then match lookD kvs k with
        | some z => .ok z c
        | none => .no
      else .no
    | _ => .no
  | none => gIx y x c
theorem ixg_run {value slice : Expr} {pins : List (Addr × Obj)} {s : Shared} {σ : LSt} {H : Hp} {μ : List Addr} {c : CS} {y : BV} {x : CV} {v w : V} {v' w' : Value} {Q : VK} (hu : X.A.units + 100 < cLine) (I : Inv X pins σ H s) (R : Rel (gh X N) μ c σ H) (dy : BDen (kwOf X) H μ y v) (dx : VDen (kwOf X) H μ x w) (r1 : RelV v v') (r2 : RelV w w')
    (p : RunAt (gh X N) N.W (gIxG y x) μ c σ H fun z μ1 _ H1 => ∀ t, VDen (kwOf X) H1 μ1 z t → Q t H1) (hs : subscripted slice false v' w' = operate [v', w'] (getItem v' w')) : wpAny (model X.prog X.w) X.A (subscriptTail value slice v' w') (EP X pins σ Q) X.xe s := by
  have p0 := p
  unfold RunAt gIxG at p
  cases hb : bDic y c.hp with
  | none =>
    rw [hb] at p
    obtain ⟨i, z, rfl, e, q⟩ := gIx_ok (G := gh X N) (W := N.W) (P := fun z μ1 _ H1 => ∀ t, VDen (kwOf X) H1 μ1 z t → Q t H1) (show RunAt (gh X N) N.W (gIx y x) μ c σ H _ from p)
    exact ix_run I R dy (vden_i dx) r1 r2 e (q H (Fz.refl _) R) hs
  | some kvs =>
    rw [hb] at p
    obtain ⟨l, ho, rfl, hr, dp⟩ := bDic_ok R dy hb
    obtain rfl : v' = Value.ref l := r1
    cases x with
    | r _ => exact p.elim
    | o _ => exact p.elim
    | d k =>
      dsimp only at p
      by_cases hf : keyFit kvs k = true
      · rw [if_pos hf] at p
        cases hl : lookD kvs k with
        | none =>
          rw [hl] at p
          exact p.elim
        | some z =>
          rw [hl] at p
          obtain ⟨ty, _, _⟩ := cl_typeIs I dp hr
          exact tail_any ty slot_dict_getitem.lookup (cl_getItem hu I dp hr hf dx r2 hl fun w s' t I' rt rv => ⟨t, H, I', rv, p μ H (List.prefix_refl _) (Fz.refl _) R t rt⟩) hs
      · rw [if_neg hf] at p
        exact p.elim
def mIxG (ma mb : Mo CV) : Mo CV := mBind ma fun x => mBind mb fun y => gIxG (.c x) y
theorem ce_ixg {ma mb : Mo CV} (hu : X.A.units + 100 < cLine) (ha : CE X N a ma) (hb : CE X N b mb) (hs : PlainIx b := by exact fun _ _ => rfl) : CE X N (.Subscript a b pos) (mIxG ma mb) := by
  refine ⟨fun pins s σ H Q I ⟨μ, c, R, p⟩ => ?_⟩
  refine Subscript_ (run2 (f := subscriptTail a b) ha hb I R p fun s2 H2 μ2 c2 x y v w v' w' I2 R2 d1 d2 r1 r2 q => ?_)
  exact ixg_run (y := .c x) hu I2 R2 d1 d2 r1 r2 q (hs _ _)
def mIxNG (i : Nat) (mb : Mo CV) : Mo CV := mBind (mPeek i) fun _ => mBind mb fun y => mBind (mPeek i) fun x => gIxG x y
theorem ce_ixng (i : Nat) {x : Str} {pos' : Pos} {mb : Mo CV} (hu : X.A.units + 100 < cLine) (hb : CE X N b mb) (hN : X.N[i]? = some x := by rfl) (hv : Vis X.env.scope x := by first | exact Or.inl rfl | exact Or.inr (Or.inl rfl) | exact Or.inr (Or.inr rfl)) (hd : (x == ("__debug__" : Str)) = false := by decide)
    (hcd : (x == ("__classdict__" : Str)) = false := by decide) (hs : PlainIx b := by exact fun _ _ => rfl) : CE X N (.Subscript (.Name x pos') b pos) (mIxNG i mb) := by
  refine ⟨fun pins s σ H Q I ⟨μ, c, R, p⟩ => ?_⟩
  obtain ⟨v, y0, hv0, _, p⟩ := peek_there R p
  refine Subscript_ (thn ((pe_var (X := X) (i := i) hN hv hd hcd).run pins s σ H (fun v1 H1 => v1 = v ∧ H1 = H) I ⟨v, hv0, rfl, rfl⟩) fun v' s1 ⟨v1, H1, I1, r1, e1, e2⟩ => ?_)
  subst e1 e2
  refine thn (use_e hb I1 R p.bind) fun w' s2 ⟨w, y, μ2, c2, H2, I2, r2, d2, R2, p2, f2, q2⟩ => ?_
  obtain ⟨v2, y2, hv2, db, q⟩ := peek_there R2 q2
  rw [hv0] at hv2
  cases hv2
  exact ixg_run hu I2 R2 db d2 r1 r2 q (hs _ _)
/-! ### in, not in -/
def gInG (neg : Bool) (x : CV) (y : BV) : Mo CV := fun c => match bDic y c.hp with
  | some kvs => match x with
    | .d k => if keyFit kvs k = true then .ok (.d (.bool (if neg then !(lookD kvs k).isSome else (lookD kvs k).isSome))) c else .no
    | _ => .no
  | none => gIn neg x y c
theorem opb_inG (hu : X.A.units + 100 < cLine) : OpB X N (compareOp .In) (gInG false) := by
  intro pins s σ H μ c x y v w v' w' Q I R d1 d2 r1 r2 p
  have p0 := p
  unfold RunAt gInG at p
  cases hb : bDic y c.hp with
  | none =>
    rw [hb] at p
    exact opb_in hu pins s σ H μ c x y v w v' w' Q I R d1 d2 r1 r2 p
  | some kvs =>
    rw [hb] at p
    obtain ⟨l, ho, rfl, hr, dp⟩ := bDic_ok R d2 hb
    obtain rfl : w' = Value.ref l := r2
    cases x with
    | r _ => exact p.elim
    | o _ => exact p.elim
    | d k =>
      dsimp only at p
      by_cases hf : keyFit kvs k = true
      · rw [if_pos hf] at p
        exact cl_in hu I dp hr hf d1 r1 fun s' I' => ⟨.bl _, H, I', rfl, p μ H (List.prefix_refl _) (Fz.refl _) R _ (vden_bool _)⟩
      · rw [if_neg hf] at p
        exact p.elim
theorem opb_notInG (hu : X.A.units + 100 < cLine) : OpB X N (compareOp .NotIn) (gInG true) := by
  intro pins s σ H μ c x y v w v' w' Q I R d1 d2 r1 r2 p
  have p0 := p
  unfold RunAt gInG at p
  cases hb : bDic y c.hp with
  | none =>
    rw [hb] at p
    exact opb_notIn hu pins s σ H μ c x y v w v' w' Q I R d1 d2 r1 r2 p
  | some kvs =>
    rw [hb] at p
    obtain ⟨l, ho, rfl, hr, dp⟩ := bDic_ok R d2 hb
    obtain rfl : w' = Value.ref l := r2
    cases x with
    | r _ => exact p.elim
    | o _ => exact p.elim
    | d k =>
      dsimp only at p
      by_cases hf : keyFit kvs k = true
      · rw [if_pos hf] at p
        exact cl_notIn hu I dp hr hf d1 r1 fun s' I' => ⟨.bl _, H, I', rfl, p μ H (List.prefix_refl _) (Fz.refl _) R _ (vden_bool _)⟩
      · rw [if_neg hf] at p
        exact p.elim
/-! ### x[k] = v -/
/-- the put itself, the slot i, the key k, the value y -/
def gPutG (i : Nat) (k y : CV) : Mo CV := fun c => match c.sl[i]? with
  | some (.od kvs) => match k, y with
    | .d k, .d z => if keyFit kvs k = true ∧ kvs.length < 16777216 then .ok (.d .none) (cSet i (.od (putD kvs k z)) c) else .no
    | _, _ => .no
  | some (.v (.r n)) => match c.hp[n]? with
    | some (.dic kvs) => match k with
      | .d k => if keyFit kvs k = true ∧ kvs.length < 16777216 then .ok (.d .none) { c with hp := c.hp.set n (.dic (putD kvs k y)) } else .no
      | _ => .no
    | _ => match k with
      | .d (.int j) => onList i (stD j y) (stC j y) c
      | _ => .no
  | _ => match k with
    | .d (.int j) => onList i (stD j y) (stC j y) c
    | _ => .no
theorem put_all (hu : X.A.units + 100 < cLine) {i : Nat} {pins : List (Addr × Obj)} {s : Shared} {σ : LSt} {H : Hp} {o k v : V} {ov iv u : Value} {μ : List Addr} {c : CS} {x y : CV} {P : CV → List Addr → CS → Hp → Prop} (I : Inv X pins σ H s) (ro : RelV o ov) (ri : RelV k iv) (rv : RelV v u) (R : Rel (gh X N) μ c σ H)
    (hv : σ[i]? = some (some o)) (dx : VDen (kwOf X) H μ x k) (dy : VDen (kwOf X) H μ y v) (p : RunAt (gh X N) N.W (gPutG i x y) μ c σ H P) :
    wpAny (model X.prog X.w) X.A (setItem ov iv u) (fun _ s' => ∃ H' c', Inv X pins σ H' s' ∧ Rel (gh X N) μ c' σ H' ∧ P (.d .none) μ c' H') X.xe s := by
  have seq : ∀ j, x = .d (.int j) → RunAt (gh X N) N.W (onList i (stD j y) (stC j y)) μ c σ H P → wpAny (model X.prog X.w) X.A (setItem ov iv u) (fun _ s' => ∃ H' c', Inv X pins σ H' s' ∧ Rel (gh X N) μ c' σ H' ∧ P (.d .none) μ c' H') X.xe s := fun j ex p' => by
    subst ex
    obtain rfl := vden_i dx
    obtain ⟨l, ws, el, hl, h⟩ := onList_ok R hv p'
    subst el
    have fin : ∀ m ws', (∃ c', Rel (gh X N) μ c' σ (upd H l (.lst (ws'.set m v))) ∧ P (.d .none) μ c' (upd H l (.lst (ws'.set m v)))) → H l = some (.lst ws') → ixN ws'.length j = some m → wpAny (model X.prog X.w) X.A (setItem ov iv u) (fun _ s' => ∃ H' c', Inv X pins σ H' s' ∧ Rel (gh X N) μ c' σ H' ∧ P (.d .none) μ c' H') X.xe s := fun m ws' ⟨c', a1, a2⟩ a3 a4 =>
      thn (set_list pins s σ H _ _ v ov iv u (fun H' => ∃ c', Rel (gh X N) μ c' σ H' ∧ P (.d .none) μ c' H') I ro ri rv ⟨l, ws', j, m, rfl, rfl, a3, a4, c', a1, a2⟩) fun _ s' ⟨H', I', c', b1, b2⟩ => ⟨H', c', I', b1, b2⟩
    rcases h with ⟨xs, ys, z, hf, dl, q⟩ | ⟨n, xs, ys, z, hg, dl, q⟩
    · unfold stD at hf
      cases y with
      | r _ => cases hf
      | o _ => cases hf
      | d y =>
        dsimp only at hf
        cases hj : ixN xs.length j with
        | none =>
          rw [hj] at hf
          cases hf
        | some m =>
          rw [hj] at hf
          cases hf
          have f := fz_lst (ws := ws.set m v) hl
          exact fin m ws ⟨_, q _ _ rfl (DenL.set (Den.mono f _ _ dy) m (DenL.mono f _ _ dl))⟩ hl (by rw [dl.length]; exact hj)
    · unfold stC at hg
      cases hj : ixN xs.length j with
      | none =>
        rw [hj] at hg
        cases hg
      | some m =>
        rw [hj] at hg
        cases hg
        have f := fz_lst (ws := ws.set m v) hl
        exact fin m ws ⟨_, q _ _ rfl (vset (VDen.mono f (List.prefix_refl _) dy) m (VDenL.mono f (List.prefix_refl _) dl))⟩ hl (by rw [← Paired.length dl]; exact hj)
  have noInt : (∀ j, x ≠ .d (.int j)) → RunAt (gh X N) N.W (fun c => match x with | .d (.int j) => onList i (stD j y) (stC j y) c | _ => .no) μ c σ H P → False := fun h q => by
    unfold RunAt at q
    cases x with
    | r _ => exact q
    | o _ => exact q
    | d x =>
      cases x with
      | int j => exact h j rfl
      | none => exact q
      | bool _ => exact q
      | str _ => exact q
      | list _ => exact q
      | tuple _ => exact q
      | dict _ => exact q
  have back : RunAt (gh X N) N.W (fun c => match x with | .d (.int j) => onList i (stD j y) (stC j y) c | _ => .no) μ c σ H P → wpAny (model X.prog X.w) X.A (setItem ov iv u) (fun _ s' => ∃ H' c', Inv X pins σ H' s' ∧ Rel (gh X N) μ c' σ H' ∧ P (.d .none) μ c' H') X.xe s := fun q => by
    by_cases h : ∃ j, x = .d (.int j)
    · obtain ⟨j, rfl⟩ := h
      exact seq j rfl q
    · exact (noInt (fun j e => h ⟨j, e⟩) q).elim
  unfold RunAt gPutG at p
  cases e : c.sl[i]? with
  | none =>
    rw [e] at p
    exact back p
  | some sl =>
    rw [e] at p
    cases sl with
    | un => exact back p
    | ol _ => exact back p
    | od kvs =>
      cases x with
      | r _ => exact p.elim
      | o _ => exact p.elim
      | d x =>
        cases y with
        | r _ => exact p.elim
        | o _ => exact p.elim
        | d z =>
          dsimp only at p
          by_cases hf : keyFit kvs x = true ∧ kvs.length < 16777216
          · rw [if_pos hf] at p
            obtain ⟨l, ho, e1, e2, e3, e4, e5⟩ := R.ow i _ e rfl
            rw [hv] at e1
            cases e1
            obtain rfl : ov = Value.ref l := ro
            refine cl_setItem (y := z) hu I (show DicP (kwOf X) H (Den (kwOf X) H) kvs l ho from e3) e2 hf.1 hf.2 dx ri dy rv fun s' ho' I' po => ?_
            have f : Fz H (upd H l ho') := SDen.wr (s := .od kvs) e3 |>.fz e2
            obtain ⟨R1, f1⟩ := R.chOwn (t := .od (putD kvs x z)) (ho := ho') e rfl hv rfl (po (Den (kwOf X) (upd H l ho')) _ f (fun a b q => Den.mono f _ _ q) (Den.mono f _ _ dy))
            exact ⟨_, _, I', R1, p μ _ (List.prefix_refl _) f1 R1⟩
          · rw [if_neg hf] at p
            exact p.elim
    | v w =>
      cases w with
      | d _ => exact back p
      | o _ => exact back p
      | r n =>
        dsimp only at p
        cases hn : c.hp[n]? with
        | none =>
          rw [hn] at p
          exact back p
        | some ob =>
          rw [hn] at p
          cases ob with
          | lst _ => exact back p
          | ins _ _ => exact back p
          | dic kvs =>
            cases x with
            | r _ => exact p.elim
            | o _ => exact p.elim
            | d x =>
              dsimp only at p
              by_cases hf : keyFit kvs x = true ∧ kvs.length < 16777216
              · rw [if_pos hf] at p
                obtain ⟨w, ew, l, el, rfl⟩ := R.vl i _ e
                rw [hv] at ew
                cases ew
                obtain ⟨l', ho, e1, e2, dp⟩ := R.hp n _ hn
                rw [el] at e1
                cases e1
                obtain rfl : ov = Value.ref l := ro
                refine cl_setItem (y := y) hu I (show DicP (kwOf X) H (VDen (kwOf X) H μ) kvs l ho from dp) e2 hf.1 hf.2 dx ri dy rv fun s' ho' I' po => ?_
                have f : Fz H (upd H l ho') := Wr.fz (ODen.wr (G := gh X N) (o := .dic kvs) dp) e2
                obtain ⟨R1, f1⟩ := R.chHp (o' := .dic (putD kvs x y)) (ho := ho') el (po (VDen (kwOf X) (upd H l ho') μ) _ f (fun a b q => VDen.mono f (List.prefix_refl _) q) (VDen.mono f (List.prefix_refl _) dy))
                exact ⟨_, _, I', R1, p μ _ (List.prefix_refl _) f1 R1⟩
              · rw [if_neg hf] at p
                exact p.elim
end
end Cl

set_option Elab.async false
set_option maxRecDepth 100000
set_option maxHeartbeats 2000000
namespace Cl
open PySem PySem.Spec PyProof.Rows L2
section
variable {X : Cx} {N : Wn} {e a b : Expr} {pos : Pos}
def sPutG (i : Nat) (mk me : Mo CV) : MS := sBind me fun y => sBind (mPeek i) fun _ => sBind mk fun k => sBind (gPutG i k y) fun _ => sNx
theorem cs_putG (i : Nat) {x : Str} {p1 p2 : Pos} {mk me : Mo CV} (hu : X.A.units + 100 < cLine) (he : CE X N e me) (hk : CE X N a mk) (hN : X.N[i]? = some x := by rfl) (hv : Vis X.env.scope x := by first | exact Or.inl rfl | exact Or.inr (Or.inl rfl) | exact Or.inr (Or.inr rfl)) (hd : (x == ("__debug__" : Str)) = false := by decide)
    (hcd : (x == ("__classdict__" : Str)) = false := by decide) (hs : swapsWith e (some (.Subscript (.Name x p1) a p2)) pos.line X.env = pure false := by rfl) :
    CS1 X N (.Assign [.Subscript (.Name x p1) a p2] e pos) (sPutG i mk me) := by
  refine ⟨fun pins s σ H D I ⟨μ, c, R, p⟩ => ?_⟩
  refine wpAny_Assign_Subscript (thn (use_e he I R (RunS.bind p)) fun r s1 ⟨v, y, μ1, c1, H1, I1, r1, d1, R1, a1, f1, q1⟩ => ?_) hs
  obtain ⟨o, y0, ho, _, q1⟩ := peek_at R1 (RunS.bind q1)
  refine thn ((pe_var (X := X) (i := i) hN hv hd hcd).run pins s1 σ H1 (fun v1 H2 => v1 = o ∧ H2 = H1) I1 ⟨o, ho, rfl, rfl⟩) fun ov s2 ⟨v1, H2, I2, r2, e1, e2⟩ => ?_
  subst e1 e2
  refine thn (use_e hk I2 R1 (RunS.bind q1)) fun iv s3 ⟨k, x, μ3, c3, H3, I3, r3, d3, R3, a3, f3, q3⟩ => ?_
  refine thn (put_all hu I3 r2 r3 r1 R3 ho d3 (d1.mono f3 a3) (RunS.bind q3)) fun _ s4 ⟨H4, c4, I4, R4, q4⟩ => ?_
  exact ⟨σ, H4, I4, RunS.nx' q4 R4⟩
end
end Cl

set_option Elab.async false
set_option maxRecDepth 100000
set_option maxHeartbeats 2000000
/-! New dicts: {}, {k: v}, comprehensions. -/
namespace Cl
open PySem PySem.Spec PyProof.Rows L2
section
variable {G : Gh} {μ : List Addr} {c : CS} {σ : LSt} {H : Hp}
/-- the ground: what is fixed around, with the new list -/
theorem Rel.onO {K : KW} {mg : Str → Option Value} {B : Hp} {m0 : List Addr} {D : Addr} {u1 : HO} (wu : Wr u1) (R : Rel ⟨K, mg, B, m0⟩ μ c σ H) (hD : H D = none) :
    Rel ⟨K, mg, upd B D u1, m0⟩ μ c σ (upd H D u1) ∧ D ∉ m0 := by
  have f := R.fresh hD
  have R1 := R.same (same_new (o := u1) hD)
  refine ⟨⟨R1.len, R1.vl, fun i s e k => ?_, R1.ap, R1.hl, fun n o e => ?_, R1.nd, R1.pre, fun a h1 h2 => ?_, fun a o h1 h2 => ?_⟩, fun z => f.1 (R.pre.subset z)⟩
  · obtain ⟨a, ho, a1, a2, a3, a4, a5⟩ := R1.ow i s e k
    refine ⟨a, ho, a1, a2, a3, ?_, a5⟩
    obtain ⟨a', ho', b1, b2, _⟩ := R.ow i s e k
    rw [a1] at b1
    cases b1
    show upd B D _ a = none
    rw [upd_ne]
    · exact a4
    · rintro rfl
      rw [hD] at b2
      cases b2
  · obtain ⟨a, ho, a1, a2, a3⟩ := R1.hp n o e
    exact ⟨a, ho, a1, a2, a3.g rfl rfl⟩
  · show upd B D _ a = none
    rw [upd_ne]
    · exact R1.new a h1 h2
    · rintro rfl
      exact f.1 h1
  · have h1 : upd B D _ a = some o := h1
    by_cases ha : a = D
    · subst ha
      rw [upd_same] at h1
      rw [upd_same]
      exact h1
    · rw [upd_ne ha] at h1
      exact R1.fr a o h1 h2
theorem Rel.chO {K : KW} {mg : Str → Option Value} {B : Hp} {m0 : List Addr} {D : Addr} {u1 u2 : HO} (wu : Wr u1) (R : Rel ⟨K, mg, upd B D u1, m0⟩ μ c σ H) (hm : D ∉ m0) :
    H D = some u1 ∧ Rel ⟨K, mg, upd B D u2, m0⟩ μ c σ (upd H D u2) ∧ Fz H (upd H D u2) := by
  have hD : H D = some u1 := R.fr D _ (show upd B D u1 D = _ from upd_same) hm
  have fz : Fz H (upd H D u2) := Wr.fz wu hD
  have Dm : D ∉ μ := fun z => by
    have this : upd B D u1 D = none := R.new D z hm
    rw [upd_same] at this
    cases this
  have ow : ∀ (i : Nat) (s : Sl), c.sl[i]? = some s → s.own = true → ∀ a, σ[i]? = some (some (.ref a)) → a ≠ D := fun i s e k a ha z => by
    obtain ⟨a', ho, a1, a2, a3, a4, a5⟩ := R.ow i s e k
    rw [ha] at a1
    cases a1
    have a4 : upd B D u1 a = none := a4
    rw [z, upd_same] at a4
    cases a4
  refine ⟨hD, ⟨R.len, fun i x e => ?_, fun i s e k => ?_, R.ap, R.hl, fun n o e => ?_, R.nd, R.pre, fun a h1 h2 => ?_, fun a o h1 h2 => ?_⟩, fz⟩
  · obtain ⟨v, a, b⟩ := R.vl i x e
    exact ⟨v, a, b.mono fz (List.prefix_refl _)⟩
  · obtain ⟨a, ho, a1, a2, a3, a4, a5⟩ := R.ow i s e k
    have ne := ow i s e k a a1
    refine ⟨a, ho, a1, by rw [upd_ne ne]; exact a2, a3.mono fz, ?_, a5⟩
    have a4 : upd B D u1 a = none := a4
    rw [upd_ne ne] at a4
    show upd B D _ a = none
    rw [upd_ne ne]
    exact a4
  · obtain ⟨a, ho, a1, a2, a3⟩ := R.hp n o e
    refine ⟨a, ho, a1, ?_, (a3.mono fz (List.prefix_refl _)).g rfl rfl⟩
    rw [upd_ne]
    · exact a2
    · rintro rfl
      exact Dm (List.mem_of_getElem? a1)
  · have := R.new a h1 h2
    have h3 : upd B D u1 a = none := this
    have ne : a ≠ D := fun z => by
      rw [z, upd_same] at h3
      cases h3
    rw [upd_ne ne] at h3
    show upd B D _ a = none
    rw [upd_ne ne]
    exact h3
  · have h1 : upd B D u2 a = some o := h1
    by_cases ha : a = D
    · subst ha
      rw [upd_same] at h1
      rw [upd_same]
      exact h1
    · rw [upd_ne ha] at h1
      rw [upd_ne ha]
      exact R.fr a o (show upd B D u1 a = some o by rw [upd_ne ha]; exact h1) h2
theorem offO_fz {H : Hp} {D : Addr} {u1 : HO} (wu : Wr u1) (h : H D = some u1) : Fz H (offD H D) := by
  refine ⟨fun a xs e => ?_, fun a o u e => ?_⟩
  · rw [offD_ne]
    · exact e
    · rintro rfl
      rw [h] at e
      cases e
      exact wu
  · rw [offD_ne]
    · exact e
    · rintro rfl
      rw [h] at e
      cases e
      exact wu
theorem Rel.offO {K : KW} {mg : Str → Option Value} {B : Hp} {m0 : List Addr} {D : Addr} {u1 : HO} (wu : Wr u1) (R : Rel ⟨K, mg, upd B D u1, m0⟩ μ c σ H) (hm : D ∉ m0) (hB : B D = none) :
    H D = some u1 ∧ Rel ⟨K, mg, B, m0⟩ μ c σ (Cl.offD H D) := by
  have hD : H D = some u1 := R.fr D _ (show upd B D u1 D = _ from upd_same) hm
  have fz := offO_fz wu hD
  have Dm : D ∉ μ := fun z => by
    have this : upd B D u1 D = none := R.new D z hm
    rw [upd_same] at this
    cases this
  refine ⟨hD, ⟨R.len, fun i x e => ?_, fun i s e k => ?_, R.ap, R.hl, fun n o e => ?_, R.nd, R.pre, fun a h1 h2 => ?_, fun a o h1 h2 => ?_⟩⟩
  · obtain ⟨v, a, b⟩ := R.vl i x e
    exact ⟨v, a, b.mono fz (List.prefix_refl _)⟩
  · obtain ⟨a, ho, a1, a2, a3, a4, a5⟩ := R.ow i s e k
    have a4 : upd B D u1 a = none := a4
    have ne : a ≠ D := fun z => by
      rw [z, upd_same] at a4
      cases a4
    rw [upd_ne ne] at a4
    exact ⟨a, ho, a1, by rw [offD_ne ne]; exact a2, a3.mono fz, a4, a5⟩
  · obtain ⟨a, ho, a1, a2, a3⟩ := R.hp n o e
    refine ⟨a, ho, a1, ?_, (a3.mono fz (List.prefix_refl _)).g rfl rfl⟩
    rw [offD_ne]
    · exact a2
    · rintro rfl
      exact Dm (List.mem_of_getElem? a1)
  · have h3 : upd B D u1 a = none := R.new a h1 h2
    have ne : a ≠ D := fun z => by
      rw [z, upd_same] at h3
      cases h3
    rw [upd_ne ne] at h3
    exact h3
  · have ne : a ≠ D := fun z => by
      rw [z] at h1
      have h1 : B D = some o := h1
      rw [hB] at h1
      cases h1
    rw [offD_ne ne]
    exact R.fr a o (show upd B D u1 a = some o by rw [upd_ne ne]; exact h1) h2
end
/-- a new dict -/
def tD (G : Gh) (W : WX) (m : Mo (List (PyData × PyData))) : TE := fun σ H Q => ∃ μ c, Rel G μ c σ H ∧ RunAt G W m μ c σ H fun kvs _ _ H1 => ∀ p ho, H1 p = none → DicP G.K H1 (Den G.K H1) kvs p ho → Q (.ref p) (upd H1 p ho)
abbrev CD (X : Cx) (N : Wn) (e : Expr) (m : Mo (List (PyData × PyData))) : Prop := PE X e (tD (gh X N) N.W m)
section
variable {X : Cx} {N : Wn} {e k v tg iter : Expr} {pos p : Pos}
theorem cd_nil : CD X N (.Dict [] [] pos) (mRet []) := PE.tm pe_dnewK fun σ H Q ⟨μ, c, R, p⟩ q hq => p.ret H (Fz.refl _) R q _ hq (.inl ⟨[], rfl, .nil⟩)
/-- x = {..}: an owned dict -/
def sOwnD (i : Nat) (m : Mo (List (PyData × PyData))) : MS := sBind m fun kvs c => .nx (cSet i (.od kvs) c)
theorem cs_ownD (i : Nat) {x : Str} {py : Pos} {m : Mo (List (PyData × PyData))} (h : CD X N e m) (hN : X.N.Nodup) (hi : X.N[i]? = some x := by rfl) (hx : Loc X.env.scope x := by first | exact Or.inl rfl | exact Or.inr rfl)
    (hs : swapsWith e (some (.Name x py)) pos.line X.env = pure false := by rfl) (hf : X.fn x = true ∨ X.env.scope.names.lookup x = some .local := by first | exact .inl rfl | exact .inr rfl) : CS1 X N (.Assign [.Name x py] e pos) (sOwnD i m) := by
  refine PS.tm (ps_set (i := i) hN hi hx h hs hf) fun D σ H ⟨μ, c, R, p⟩ => ?_
  refine ⟨μ, c, R, (RunS.bind p).imp fun kvs μ1 c1 H1 a b r q t ho ht d => ?_⟩
  have sm : Same H1 (upd H1 t ho) := same_new ht
  have R1 := r.setOwn (i := i) (s := .od kvs) (ho := ho) rfl ht d
  exact RunS.nx' (RunS.up q (List.prefix_refl _) (Fz.same sm)) R1
/-- a new dict as a value: never written again -/
def mFd (m : Mo (List (PyData × PyData))) : Mo CV := mBind m fun kvs => mRet (.d (.dict kvs))
theorem ce_fd {m : Mo (List (PyData × PyData))} (h : CD X N e m) : CE X N e (mFd m) := by
  refine ⟨fun pins s σ H Q I ⟨μ, c, R, p⟩ => ?_⟩
  refine thn (h.run pins s σ H (fun u H2 => ∃ q ho kvs μ1 c1 H1, u = .ref q ∧ H2 = upd H1 q ho ∧ H1 q = none ∧ DicP (kwOf X) H1 (Den (kwOf X) H1) kvs q ho ∧ Rel (gh X N) μ1 c1 σ H1 ∧ RunAt (gh X N) N.W (mRet (CV.d (.dict kvs))) μ1 c1 σ H1 fun x μ1 _ H1 => ∀ w, VDen (kwOf X) H1 μ1 x w → Q w H1)
    I ⟨μ, c, R, (RunAt.bind p).imp fun kvs μ1 c1 H1 a b r q t ho ht d => ⟨t, ho, kvs, μ1, c1, H1, rfl, rfl, ht, d, r, q⟩⟩) fun u s1 ⟨w, H2, I1, r1, q, ho, kvs, μ1, c1, H1, e1, e2, hq, d, r, z⟩ => ?_
  subst e1 e2
  have mu : Mut (upd H1 q ho q) := by
    rw [upd_same]
    exact dic_mut d
  obtain ⟨o, I2⟩ := Inv.lock I1 upd_same (by have := mu; rwa [upd_same] at this)
  rw [upd_upd] at I2
  have sm : Same H1 (upd H1 q (.frz o ho)) := same_new hq
  exact ⟨.ref q, _, I2, r1, z.ret _ (Fz.same sm) (r.same sm) (.ref q) (den_dict (d.mono (Fz.same sm) fun _ _ q => Den.mono (Fz.same sm) _ _ q) upd_same)⟩
/-- .. read on the spot -/
def mBd (m : Mo (List (PyData × PyData))) : Mo BV := mBind m fun x => mRet (.k x)
theorem cb_d {m : Mo (List (PyData × PyData))} (h : CD X N e m) : CB X N e (mBd m) :=
  PE.tm h fun σ H Q ⟨μ, c, R, p⟩ => ⟨μ, c, R, (RunAt.bind p).imp fun kvs μ1 c1 H1 a b r q t ho ht d => by
    have sm : Same H1 (upd H1 t ho) := same_new ht
    exact q.ret _ (Fz.same sm) (r.same sm) (.ref t) ⟨t, ho, rfl, upd_same, d.mono (Fz.same sm) fun _ _ q => Den.mono (Fz.same sm) _ _ q⟩⟩
/-! ### {k: v} -/
def mOne (mk mv : Mo CV) : Mo (List (PyData × PyData)) := fun c => match mk c with
  | .ok (.d k) c1 => match mv c1 with
    | .ok (.d z) c2 => if isSc k || keyOk k then .ok [(k, z)] c2 else .no
    | _ => .no
  | _ => .no
theorem cd_one {mk mv : Mo CV} (hu : X.A.units + 100 < cLine) (hk : CEx X k mk) (hv : CEx X v mv) : CD X N (.Dict [some k] [v] pos) (mOne mk mv) := by
  refine ⟨fun pins s σ H Q I ⟨μ, c, R, p⟩ => ?_⟩
  obtain ⟨kd, c1, zd, c2, e1, e2, ok, p⟩ : ∃ kd c1 zd c2, mk c = .ok (.d kd) c1 ∧ mv c1 = .ok (.d zd) c2 ∧ (isSc kd || keyOk kd) = true ∧ ∀ μ1 H1, μ <+: μ1 → Fz H H1 → Rel (gh X N) μ1 c2 σ H1 → ∀ p ho, H1 p = none → DicP (kwOf X) H1 (Den (kwOf X) H1) [(kd, zd)] p ho → Q (.ref p) (upd H1 p ho) := by
    unfold RunAt mOne at p
    cases e1 : mk c with
    | no =>
      rw [e1] at p
      exact p.elim
    | ex _ _ =>
      rw [e1] at p
      exact p.elim
    | ok x c1 =>
      rw [e1] at p
      cases x with
      | r _ => exact p.elim
      | o _ => exact p.elim
      | d kd =>
        dsimp only at p
        cases e2 : mv c1 with
        | no =>
          rw [e2] at p
          exact p.elim
        | ex _ _ =>
          rw [e2] at p
          exact p.elim
        | ok x c2 =>
          rw [e2] at p
          cases x with
          | r _ => exact p.elim
          | o _ => exact p.elim
          | d zd =>
            dsimp only at p
            by_cases ok : (isSc kd || keyOk kd) = true
            · rw [if_pos ok] at p
              exact ⟨kd, c1, zd, c2, rfl, e2, ok, p⟩
            · rw [if_neg ok] at p
              exact p.elim
  -- the new dict stands empty while the two are made
  have hn := I.hok.fresh (Nat.le_refl s.heap.objs.size)
  have I1 := I.laid (a := s.heap.objs.size) (o := .dK []) (h' := s.heap.push { cls := .type "dict", data := .dict #[] }) (t' := s.toks) (fun _ _ q => Heap.get?_push_of_some _ q) (Nat.le_refl _) (dk_empty s.heap I.big)
  obtain ⟨R1, Dm⟩ := R.onO (u1 := .dK []) trivial hn
  have f1 : Fz H (upd H s.heap.objs.size (.dK [])) := Fz.same (same_new hn)
  have BD : N.B s.heap.objs.size = none := (R.fresh hn).2
  -- both are made
  have run : ∀ {P : List (Value × Value) → Shared → Prop}, (∀ kv vv s3 H3 μ3 tk tv, Inv X pins σ H3 s3 → Rel (gh X ⟨upd N.B s.heap.objs.size (.dK []), N.m0, fun _ _ _ _ => False⟩) μ3 c2 σ H3 → μ <+: μ3 → Fz (upd H s.heap.objs.size (.dK [])) H3 → Den (kwOf X) H3 kd tk → RelV tk kv → Den (kwOf X) H3 zd tv → RelV tv vv → P [(kv, vv)] s3) →
      wpAny (model X.prog X.w) X.A (evalPairs (pairTrees [some k] [v] X.env pos)) P X.xe { s with heap := s.heap.push { cls := .type "dict", data := .dict #[] } } := fun {P} f =>
    pairTrees_cons_walk (thn (use_e (N := ⟨upd N.B s.heap.objs.size (.dK []), N.m0, fun _ _ _ _ => False⟩) (P := fun x μ' c' H' => x = .d kd ∧ c' = c1) (hk _ _) I1 R1 (by
      unfold RunAt
      rw [e1]
      exact fun _ _ _ _ _ => ⟨rfl, rfl⟩)) fun kv s2 ⟨tk, x, μ2, c', H2, I2, r2, d2, R2, a2, b2, ex, ec⟩ => by
      subst ex ec
      refine thn (use_e (N := ⟨upd N.B s.heap.objs.size (.dK []), N.m0, fun _ _ _ _ => False⟩) (P := fun x μ' c' H' => x = .d zd ∧ c' = c2) (hv _ _) I2 R2 (by
        unfold RunAt
        rw [e2]
        exact fun _ _ _ _ _ => ⟨rfl, rfl⟩)) fun vv s3 ⟨tv, x, μ3, c', H3, I3, r3, d3, R3, a3, b3, ex, ec⟩ => ?_
      subst ex ec
      exact pairTrees_nil_walk (f kv vv s3 H3 μ3 tk tv I3 R3 (a2.trans a3) (b2.trans b3) (Den.mono b3 _ _ d2) r2 d3 r3))
  -- the end
  have fin : ∀ {s3 : Shared} {H3 : Hp} {μ3 : List Addr} {ho : HO}, Rel (gh X ⟨upd N.B s.heap.objs.size (.dK []), N.m0, fun _ _ _ _ => False⟩) μ3 c2 σ H3 → μ <+: μ3 → Fz (upd H s.heap.objs.size (.dK [])) H3 → (∀ H4, Fz H3 H4 → DicP (kwOf X) H4 (Den (kwOf X) H4) [(kd, zd)] s.heap.objs.size ho) →
      Inv X pins σ (upd H3 s.heap.objs.size ho) s3 → EP X pins σ Q (.ref s.heap.objs.size) s3 := fun {s3 H3 μ3 ho} R3 a3 b3 dp J => by
    obtain ⟨hD, R4⟩ := R3.offO (u1 := .dK []) trivial Dm BD
    have q := p μ3 _ a3 ((f1.trans b3).trans (offO_fz (u1 := .dK []) trivial hD)) R4 s.heap.objs.size ho offD_same (dp _ (offO_fz (u1 := .dK []) trivial hD))
    have e : upd (Cl.offD H3 s.heap.objs.size) s.heap.objs.size ho = upd H3 s.heap.objs.size ho := by
      funext b
      by_cases hb : b = s.heap.objs.size
      · rw [hb, upd_same, upd_same]
      · rw [upd_ne hb, upd_ne hb, offD_ne hb]
    rw [e] at q
    exact ⟨.ref _, _, J, rfl, q⟩
  rw [Bool.or_eq_true] at ok
  by_cases sc : isSc kd = true
  · refine wpAny_Dict_walk (knd := mixKind X.prog X.w) rfl rfl (by simp) (by simp) (run fun kv vv s3 H3 μ3 tk tv I3 R3 a3 b3 dk rk dv rv => ?_)
    obtain ⟨key, rfl, rfl⟩ := isSc_key sc dk
    obtain ⟨hD, R4⟩ := R3.offO (u1 := .dK []) trivial Dm BD
    obtain ⟨z, hd, vs0, r0, dd⟩ := dk_of I3.hok hD
    cases r0
    refine ⟨[(key, vv)], ?_, dd, fun h' dd' hs => fin (ho := .dK [(key, tv)]) R3 a3 b3 (fun H4 f4 => .inl ⟨_, rfl, .cons ⟨rfl, Den.mono f4 _ _ dv⟩ .nil⟩) ?_⟩
    · first
        | exact ⟨kV_is rk, rfl, trivial⟩
        | exact ⟨rfl, kV_is rk, trivial⟩
        | exact .cons (kV_is rk) .nil
        | exact ⟨kV_is rk, trivial⟩
    · obtain ⟨o, es, ep, g, _⟩ := id dd'
      exact d_write I3 (by rw [hD]; trivial) hs ⟨o, g⟩ (dk_new (by show 1 ≤ sizeLine; decide) hd (.cons ⟨rfl, rv⟩ .nil) dd')
  · have kk : keyOk kd = true := ok.resolve_left sc
    rw [arm_eval_Dict, zip_pairTrees _ _ _ _ rfl rfl, dictDisplay_pairs _ (by simp [pairTrees]) (by simp [pairTrees])]
    refine wpAny_bind (wpAny_standAt (wpAny_bind (wpAny_subDictH (knd := nestedKind X.prog X.w) (Q := fun d s' => wpAny (model X.prog X.w) X.A (pure (Value.ref d)) (EP X pins σ Q) X.xe s') (by show X.A.units + 8 < cLine; omega) (by simp [pairTrees]) (run fun kv vv s3 H3 μ3 tk tv I3 R3 a3 b3 dk rk dv rv => ?_))))
    obtain ⟨b, rfl⟩ := keyOk_ref kk dk
    obtain rfl : kv = Value.ref b := rk
    obtain ⟨hD, R4⟩ := R3.offO (u1 := .dK []) trivial Dm BD
    obtain ⟨hs0, _, kws0, p0, xs0, dd0, pr0⟩ := view_n (R := fun (_ : PyData) (_ : V) => True) (kvs := []) I3 (.inl ⟨[], rfl, .nil⟩) (.inl hD) rfl
    have := paired_nil p0
    subst this
    have := paired_nil pr0
    subst this
    refine ⟨[(nk kd, b, vv)], ⟨rfl, rfl, keyOk_is I3 kk dk, trivial⟩, dd0, fun h' tk' dd' hs => wpAny_pure (fin (ho := DKy X.w s.heap.objs.size [(nk kd, b, tv)]) R3 a3 b3 (fun H4 f4 => .inr ⟨_, rfl, .cons ⟨⟨rfl, kk, Den.mono f4 _ _ dk⟩, Den.mono f4 _ _ dv⟩ .nil⟩) ?_)⟩
    have dd2 : h'.DictOfH (nestedKind X.prog X.w) s.heap.objs.size [(nk kd, b, vv)] := dd'
    obtain ⟨o, es, ep, g, _⟩ := id dd'
    exact d_write I3 (by rw [hD]; trivial) hs ⟨o, g⟩ (dky_new (by show 1 ≤ sizeLine; decide) hs0 dd2 (.cons ⟨rfl, rfl, rv⟩ .nil))
end
end Cl

set_option Elab.async false
set_option maxRecDepth 100000
set_option maxHeartbeats 2000000
/-! Dict comprehensions with ints and texts as keys. -/
namespace Cl
open PySem PySem.Spec PyProof.Rows L2
def compD (g : CV → CS → Option CS) (tt : Mo Bool) (tk tv : Mo CV) (vs : List Nat) : List PyData → List (PyData × PyData) → Mo (List (PyData × PyData))
  | [], acc, c => .ok acc c
  | x :: xs, acc, c => match g (.d x) (wipeC vs c) with
    | none => .no
    | some c1 => match tt c1 with
      | .ok true c2 => match tk c2 with
        | .ok (.d k) c3 => match tv c3 with
          | .ok (.d y) c4 => if isSc k = true ∧ acc.length < 16777216 then compD g tt tk tv vs xs (putD acc k y) c4 else .no
          | _ => .no
        | _ => .no
      | .ok false c2 => compD g tt tk tv vs xs acc c2
      | _ => .no
def mDc (mi : Mo (List PyData)) (g : Tg) (tt : Mo Bool) (tk tv : Mo CV) (vs : List Nat) : Mo (List (PyData × PyData)) := mBind mi fun xs c0 => match compD g.f tt tk tv vs xs [] c0 with
  | .ok acc c => .ok acc (restC vs c0 (wipeC vs c))
  | _ => .no
abbrev DcP (K : KW) (H : Hp) (ys : List (PyData × PyData)) (ws : List (Key × V)) : Prop := Paired (fun p q => p.1 = keyD q.1 ∧ Den K H p.2 q.2) ys ws
theorem DcP.mono {K : KW} {H H' : Hp} {ys : List (PyData × PyData)} {ws : List (Key × V)} (h : DcP K H ys ws) (f : Fz H H') : DcP K H' ys ws := Paired.mapP h fun _ _ q => ⟨q.1, Den.mono f _ _ q.2⟩
section
variable {X : Cx} {N : Wn} {kx vx tg iter e : Expr} {ifs : List Expr} {scope : Scope} {own : List (Str × Nat)} {pos p : Pos} {mi : Mo (List PyData)} {g : Tg} {tt : Mo Bool} {tk tv : Mo CV}
theorem dc_tm {vs : List Nat} (hix : ∀ i, i ∈ g.ix → i ∈ vs) {σ : LSt} {H : Hp} {Q : VK} (h : tD (gh X N) N.W (mDc mi g tt tk tv vs) σ H Q) :
    tDc (tI (gh X N) N.W mi) (tG (kwOf X) X.mg g) (tTx (kwOf X) X.mg tt) (tMx (kwOf X) X.mg tk) (tMx (kwOf X) X.mg tv) vs σ H Q := by
  obtain ⟨μ, c, R, p⟩ := h
  refine ⟨μ, c, R, (RunAt.bind p).imp fun xs μ1 c1 H1 a b r q J ok D hD => ?_⟩
  obtain ⟨rD, Dm⟩ := r.onO (u1 := .dK []) trivial hD
  have BD : N.B D = none := (r.fresh hD).2
  obtain ⟨acc, c9, e9, q⟩ : ∃ acc c9, compD g.f tt tk tv vs xs [] c1 = .ok acc c9 ∧ ∀ μ2 H2, μ1 <+: μ2 → Fz H1 H2 → Rel (gh X N) μ2 (restC vs c1 (wipeC vs c9)) σ H2 → ∀ p ho, H2 p = none → DicP (kwOf X) H2 (Den (kwOf X) H2) acc p ho → Q (.ref p) (upd H2 p ho) := by
    unfold RunAt at q
    dsimp only at q
    cases e : compD g.f tt tk tv vs xs [] c1 with
    | ok acc c9 =>
      rw [e] at q
      exact ⟨acc, c9, rfl, q⟩
    | ex _ _ =>
      rw [e] at q
      exact q.elim
    | no =>
      rw [e] at q
      exact q.elim
  refine ⟨fun i m H' => ∃ ys ws μ' c', i + m = xs.length ∧ Rel ⟨kwOf X, X.mg, upd N.B D (.dK ws), N.m0⟩ μ' (wipeC vs c') (wipe σ vs) H' ∧ μ1 <+: μ' ∧ Fz H1 H' ∧ DcP (kwOf X) H' ys ws ∧ compD g.f tt tk tv vs (xs.drop i) ys c' = .ok acc c9,
    ⟨xs.length, [], [], μ1, c1, by omega, rD.wiped vs, List.prefix_refl _, Fz.same (same_new hD), .nil, e9⟩, ?_⟩
  rintro i m H' ⟨ys, ws, μ', c', em, R', p', f', dl, e'⟩
  by_cases hi : i < xs.length
  · rw [show xs.drop i = xs[i] :: xs.drop (i + 1) from List.drop_eq_getElem_cons hi] at e'
    refine .inr ⟨ok.go i H' hi f', fun H2 => ∃ ys ws μ' c', Rel ⟨kwOf X, X.mg, upd N.B D (.dK ws), N.m0⟩ μ' (wipeC vs c') (wipe σ vs) H2 ∧ μ1 <+: μ' ∧ Fz H1 H2 ∧ DcP (kwOf X) H2 ys ws ∧ compD g.f tt tk tv vs (xs.drop (i + 1)) ys c' = .ok acc c9, ?_, fun x H2 y => ?_⟩
    · rintro H2 ⟨ys, ws, μ2, c2, R2, p2, f2, d2, e2⟩
      exact ⟨m - 1, by omega, ys, ws, μ2, c2, by omega, R2, p2, f2, d2, e2⟩
    · obtain ⟨sm, z, hz, dz⟩ := ok.yld i H' x H2 hi f' y
      cases (List.getElem?_eq_getElem hi).symm.trans hz
      have R2 := R'.same sm
      have f2 := f'.trans (Fz.same sm)
      have dl2 := dl.mono (Fz.same sm)
      unfold compD at e'
      cases hg1 : g.f (.d xs[i]) (wipeC vs c') with
      | none =>
        rw [hg1] at e'
        cases e'
      | some c1' =>
        rw [hg1] at e'
        dsimp only at e'
        refine ⟨upd N.B D (.dK ws), N.m0, μ', wipeC vs c', .d xs[i], c1', R2, dz, hg1, fun σ3 o3 R3 => ?_⟩
        have hw := wipe_out' o3 hix
        refine ⟨hw, upd N.B D (.dK ws), N.m0, μ', c1', R3, ?_⟩
        unfold RunAt
        cases ht : tt c1' with
        | ex _ _ =>
          rw [ht] at e'
          cases e'
        | no =>
          rw [ht] at e'
          cases e'
        | ok k c2 =>
          rw [ht] at e'
          intro μ4 H4 a4 b4 R4
          have dl4 := dl2.mono b4
          cases k with
          | false => exact iteF ⟨ys, ws, μ4, c2, R4.rewipe hw, p'.trans a4, f2.trans b4, dl4, e'⟩
          | true =>
            refine iteT ⟨upd N.B D (.dK ws), N.m0, μ4, c2, R4, ?_⟩
            unfold RunAt
            dsimp only at e'
            cases h5 : tk c2 with
            | ex _ _ =>
              rw [h5] at e'
              cases e'
            | no =>
              rw [h5] at e'
              cases e'
            | ok k5 c5 =>
              rw [h5] at e'
              intro μ5 H5 a5 b5 R5 v5 d5
              cases k5 with
              | r _ => cases e'
              | o _ => cases e'
              | d k5 =>
                dsimp only at e'
                refine ⟨upd N.B D (.dK ws), N.m0, μ5, c5, R5, ?_⟩
                unfold RunAt
                cases h6 : tv c5 with
                | ex _ _ =>
                  rw [h6] at e'
                  cases e'
                | no =>
                  rw [h6] at e'
                  cases e'
                | ok y6 c6 =>
                  rw [h6] at e'
                  intro μ6 H6 a6 b6 R6 v6 d6
                  cases y6 with
                  | r _ => cases e'
                  | o _ => cases e'
                  | d y6 =>
                    dsimp only at e'
                    by_cases hl : isSc k5 = true ∧ ys.length < 16777216
                    · rw [if_pos hl] at e'
                      obtain ⟨key, rfl, rfl⟩ := isSc_key hl.1 d5
                      have dl6 := (dl4.mono b5).mono b6
                      obtain ⟨hD6, R7, f7⟩ := R6.chO (u1 := .dK ws) (u2 := .dK (putK ws key v6)) trivial Dm
                      refine ⟨ws, key, rfl, hD6, by rw [← Paired.length dl6, sizeLine_eq]; exact hl.2, putD ys (keyD key) y6, putK ws key v6, μ6, c6, R7.rewipe hw, p'.trans (a4.trans (a5.trans a6)), ((f2.trans b4).trans (b5.trans b6)).trans f7, ?_, e'⟩
                      exact put_k (dl6.mono f7) key (Den.mono f7 _ _ d6)
                    · rw [if_neg hl] at e'
                      cases e'
  · rw [show xs.drop i = [] from List.drop_eq_nil_of_le (by omega)] at e'
    cases e'
    refine .inl ⟨ok.stop i H' (by omega) f', ?_⟩
    obtain ⟨hD', R2⟩ := R'.offO (u1 := .dK ws) trivial Dm BD
    have fo := offO_fz (u1 := .dK ws) trivial hD'
    have f0 : Fz H1 (Cl.offD H' D) := f'.trans fo
    have R3 : Rel (gh X N) μ' (restC vs c1 (wipeC vs c9)) σ (Cl.offD H' D) := R2.back r.len fun i x e => by
      obtain ⟨v, h1, h2⟩ := r.vl i x e
      exact ⟨v, h1, h2.mono f0 p'⟩
    have fin := q μ' (Cl.offD H' D) p' f0 R3 D (.dK ws) offD_same (.inl ⟨ws, rfl, dl.mono fo⟩)
    rw [offD_upd hD'] at fin
    exact fin
theorem cd_dc (hc : X.calm = true) (hN : X.N.Nodup) (hi : CI X N tg iter mi) (ok : BlkOk X.N X.env.scope scope own) (hix : ∀ i, i ∈ g.ix → i ∈ own.map (·.2))
    (hg : ∀ (s : Shared) (H : Hp) (C : Addr) (cl : List (Str × Addr)) (fp : List Addr), CG (X.blk s H scope (compEnvC scope cl C X.env) fp) tg g)
    (ht : ∀ (s : Shared) (H : Hp) (C : Addr) (cl : List (Str × Addr)) (fp : List Addr), PTs (X.blk s H scope (compEnvC scope cl C X.env) fp) ifs (tTx (kwOf X) X.mg tt))
    (hk : ∀ (s : Shared) (H : Hp) (C : Addr) (cl : List (Str × Addr)) (fp : List Addr), CEx (X.blk s H scope (compEnvC scope cl C X.env) fp) kx tk)
    (hv : ∀ (s : Shared) (H : Hp) (C : Addr) (cl : List (Str × Addr)) (fp : List Addr), CEx (X.blk s H scope (compEnvC scope cl C X.env) fp) vx tv)
    (hs : ∀ x, foldedSetIterable iter X.env x = pure x := by intro _; rfl) : CD X N (.DictComp kx vx [⟨tg, iter, ifs, 0⟩] scope pos) (mDc mi g tt tk tv (own.map (·.2))) :=
  PE.tm (pe_dc hc hN hi ok hg ht (fun s H C cl fp => cex_pe (hk s H C cl fp)) (fun s H C cl fp => cex_pe (hv s H C cl fp)) hs) fun σ H Q => dc_tm hix
/-! ### list(d) -/
theorem keysL {K : KW} {H : Hp} {α : Type} {kvs : List (PyData × α)} {kws : List (Key × V)} {R : α → V → Prop} (h : Paired (fun p q => p.1 = keyD q.1 ∧ R p.2 q.2) kvs kws) : DenL K H (kvs.map (·.1)) (kws.map fun q => kV q.1) := by
  induction h with
  | nil => exact .nil
  | @cons p q _ _ h _ ih => exact .cons (show Den K H p.1 (kV q.1) by rw [h.1]; exact den_key _) ih
theorem keysN {K : KW} {H : Hp} {α : Type} {kvs : List (PyData × α)} {kws : List (NestedKey × Addr × V)} {R : α → V → Prop} (h : Paired (fun p q => (q.1 = nk p.1 ∧ keyOk p.1 = true ∧ Den K H p.1 (.ref q.2.1)) ∧ R p.2 q.2.2) kvs kws) : DenL K H (kvs.map (·.1)) (kws.map fun q => V.ref q.2.1) := by
  induction h with
  | nil => exact .nil
  | @cons p q _ _ h _ ih => exact .cons h.1.2.2 ih
def rListC (K : KW) : List V → Hp → VK → Prop := fun xs H Q => ∃ (d : Addr) (ho : HO) (kvs : List (PyData × CV)) (R : CV → V → Prop), xs = [V.ref d] ∧ Rd H d ho ∧ DicP K H R kvs d ho ∧ ∀ q us, H q = none → DenL K H (kvs.map (·.1)) us → Q (.ref q) (upd H q (.lst us))
theorem cr_listC (hc : X.calm = true) : CallR X (.type "list") (rListC (kwOf X)) := by
  intro pins s σ H xs us Q I r h
  obtain ⟨d, ho, kvs, R, rfl, hr, dp, q⟩ := h
  rw [Vals.ref1 r]
  have fin : ∀ (h' : Heap) (tk : Nat) (acc : Array Value) (c' : Nat) (ws : List V), Vals ws acc.toList → ws.length ≤ sizeLine → DenL (kwOf X) H (kvs.map (·.1)) ws → (∀ b o, s.heap.get? b = some o → h'.get? b = some o) → h'.get? s.heap.objs.size = some { cls := .type "list", data := .seq acc c' } →
      EP X pins σ Q (.ref s.heap.objs.size) { s with heap := h', toks := tk } := fun h' tk acc c' ws v hz dl kp e =>
    ⟨.ref _, _, I.laid kp (Nat.le_refl _) (show ObjOk X.prog X.w _ h' _ (.lst ws) from ⟨hz, acc.toList, c', v, by rw [Array.toArray_toList]; exact e⟩), rfl, q _ ws (I.hok.fresh (Nat.le_refl _)) dl⟩
  have raw : ∀ {es : Array DictEntry} {ep : Nat} {o : Obj} (ws : List V), (d == sysModules) = false → s.heap.get? d = some o → o.ExactDict → o.data = .dict es ep → es.size = ws.length → ws.length ≤ sizeLine → (∀ (i : Nat) (w : V) (en : DictEntry), ws[i]? = some w → es[i]? = some en → RelV w en.key) → DenL (kwOf X) H (kvs.map (·.1)) ws →
      wpAny (model X.prog X.w) X.A (call (.type "list") [.ref d]) (EP X pins σ Q) X.xe s := fun {es ep o} ws hs g ex dt hsz hl rel dl => by
    refine PySem.W.kdl_call (kdl_raw hs ex dt) (I.ok.hd hc) g (by omega) fun h' tk acc c' kp e it => fin h' tk acc c' ws (vals_of_at (by have h1 := it.1; have h2 := Array.length_toList (xs := acc); omega) fun j x u h1 h2 => ?_) hl dl kp e
    obtain ⟨en, hen, hv⟩ := it.2 j u (by rw [← Array.getElem?_toList]; exact h2)
    rw [hv]
    exact rel j x en h1 hen
  rcases dp with ⟨kws, rfl, pp⟩ | ⟨kws, rfl, pp⟩
  · obtain ⟨z, hs, vs, kv, o, es, ep, g, ex, dt, _, pr, _⟩ := dk_rd I.hok hr
    have l1 : kws.length = vs.length := Paired.length kv
    have l2 : es.size = vs.length := by
      have := pr.length
      rw [Array.length_toList] at this
      exact this
    refine raw (kws.map fun q => kV q.1) hs g ex dt (by rw [List.length_map]; omega) (by rw [List.length_map]; exact z) (fun i w en h1 h2 => ?_) (keysL pp)
    rw [List.getElem?_map] at h1
    cases hq : kws[i]? with
    | none =>
      rw [hq] at h1
      cases h1
    | some q =>
      rw [hq] at h1
      cases h1
      obtain ⟨y, hy, e1, _⟩ := pair_at kv hq
      have := (pr.get? (e := en) (by rw [Array.getElem?_toList]; exact h2) hy).1
      show RelV (kV q.1) en.key
      rw [e1]
      exact keyIs_rel this
  · obtain ⟨z, hs, _, xs, o, es, ep, pr, g, ex, dt, he⟩ := rd_rows I hr
    have l1 := Paired.length pr
    have l2 : es.size = xs.length := by rw [← Array.length_toList, he, List.length_map]
    refine raw (kws.map fun q => V.ref q.2.1) hs g ex dt (by rw [List.length_map]; omega) (by rw [List.length_map]; exact z) (fun i w en h1 h2 => ?_) (keysN pp)
    rw [List.getElem?_map] at h1
    cases hq : kws[i]? with
    | none =>
      rw [hq] at h1
      cases h1
    | some q =>
      rw [hq] at h1
      cases h1
      obtain ⟨y, hy, _, e2, _⟩ := pair_at pr hq
      rw [← Array.getElem?_toList, he, List.getElem?_map, hy] at h2
      cases h2
      show Value.ref y.2.1 = Value.ref q.2.1
      rw [e2]
/-- list(x): of a list, a tuple, a dict's keys -/
def bSeqD (y : BV) (hp : List CO) : Option (List PyData) := match bDic y hp with
  | some kvs => some (kvs.map (·.1))
  | none => bSeq y hp
def gLstD : BV → Mo (List PyData) := gO bSeqD id
theorem ans_lstD : AnsF X N (fun xs H Q => (∃ p ys, xs = [.ref p] ∧ (SqL X.K H p ys ∨ SqT X.K H p ys) ∧ ∀ l, H l = none → Q (.ref l) (upd H l (.lst ys))) ∨ rListC (kwOf X) xs H Q) gLstD := by
  intro y v μ c σ H Q R d p
  obtain ⟨xs, e, q⟩ := gO_ok p
  unfold bSeqD at e
  cases hb : bDic y c.hp with
  | none =>
    rw [hb] at e
    obtain ⟨l, vs, rfl, s, dl⟩ := bSeq_ok R d e
    exact .inl ⟨l, vs, rfl, s, fun t ht => q H (Fz.refl _) R t vs ht dl⟩
  | some kvs =>
    rw [hb] at e
    cases e
    obtain ⟨l, ho, rfl, hr, dp⟩ := bDic_ok R d hb
    exact .inr ⟨l, ho, kvs, _, rfl, hr, dp, fun t us ht dl => q H (Fz.refl _) R t us ht dl⟩
theorem cf_lstd {m : Mo BV} (hc : X.calm = true) (hb : CB X N e m) (hm : X.mg "list" = none) (hg : Gl X "list" := by rfl) (hs : starEach [e] X.env = (false, eval e X.env) :: starEach [] X.env := by rfl) :
    CF X N (.Call (.Name "list" p) [e] [] pos) (mBind m gLstD) :=
  call1f (fun ha => pe_callTy (CallR.or call_list_of (cr_listC hc)) hg hm (by rfl) ha (he := hs)) hb ans_lstD hs
end
end Cl

set_option Elab.async false
set_option maxRecDepth 100000
set_option maxHeartbeats 2000000
/-! raise; index; * of lists and tuples; == of what is read on the spot. -/
namespace Cl
open PySem PySem.Spec PyProof.Rows L2
section
variable {X : Cx} {N : Wn} {e a b : Expr} {pos : Pos}
/-! ### raise C('..') -/
/-- what must be known of an own exception class without own __init__ -/
structure ExcK (K : PySem.W.Frag) (mg : Str → Option Value) (x : Str) (C : Addr) : Prop where
  gC : mg x = some (.ref C)
  kC : PySem.W.keepIn K (.ref C) = true
  xF : PySem.W.excIn K C [.type "Exception", .type "BaseException", .type "object"] "Exception.__new__" = true
  bF : PySem.W.subIn K (.ref C) (.type "BaseException") = some true
  tF : PySem.W.typeIn K (.ref C) = some (.type "type")
def sRaise (x : Str) : MS := fun c => .ex ⟨x, []⟩ c
theorem cs_raise {x m : Str} {C : Addr} {j : Nat} {p p2 pos2 : Pos} (hc : X.calm = true) (tk : L2N.Takes X N.W) (h : ExcK X.K X.mg x C) (hg : Gl X x := by rfl) (hdb : (x == ("__debug__" : Str)) = false := by decide) :
    CS1 X N (.Raise (some (.Call (.Name x p) [.Constant (.str m) j p2] [] pos2)) none pos) (sRaise x) :=
  PS.tm (L2N.ps_raise hc tk (L2N.pmk_own PySem.F.excBase_Exception h.xF h.gC h.kC (raises_own h.bF h.tF) hg hdb)) fun D σ H ⟨μ, c, R, p⟩ =>
    p μ σ (.ref C) none H (List.prefix_refl _) (Fz.refl _) R ⟨h.gC, .inl ⟨rfl, rfl⟩⟩
/-! ### xs.index(x) -/
def rIndexC (K : KW) : V → List V → Hp → VK → Prop := fun x xs H Q => ∃ (l : Addr) (y : V) (ds : List PyData) (ws : List V) (d : PyData) (j : Nat), x = .ref l ∧ xs = [y] ∧ SqL K.K H l ws ∧ DenL K H ds ws ∧ Den K H d y ∧ PyData.plainAll ds = true ∧ d.plain = true ∧ min (PyData.depthAll ds) d.depth ≤ 60 ∧
  SeqAt.dataPlace ds d = some j ∧ Q (.int (j : Nat)) H
theorem mt_indexC (hu : X.A.units + 100 < cLine) : MtR X "list.index" (rIndexC (kwOf X)) := by
  intro pins s σ H x xs v us Q I rx rxs h
  obtain ⟨l, y, ds, ws, d, j, rfl, rfl, hs, dl, dy, p1, p2, p3, hj, q⟩ := h
  obtain rfl : v = Value.ref l := rx
  obtain ⟨u, rfl, ru⟩ := rxs.one
  obtain ⟨its, rv, ⟨⟨cls, dd, data, sl⟩, n, ho, hc, _, hd⟩, hz⟩ := I.list hs
  simp only at hc hd
  subst hc hd
  obtain ⟨as, ra⟩ := DenL.reads I ds ws its p1 dl rv
  obtain ⟨bs, rb⟩ := dy.reads I _ _ _ p2 ru
  obtain ⟨h1, h2, h3⟩ := SeqAt.hit_at (vs := its.toArray) (show ReadsAll s.heap its.toArray.toList ds as from ra) p1 hj
  have hlen : its.length ≤ sizeLine := by rw [← rv.length]; exact hz
  have hsl := sizeLine_eq
  refine call_meets PySem.F.slot_list_index ⟨_, ho, rfl⟩ PySem.F.entry_list_index (PySem.F.args_list_index_2 _ _)
    (SeqAt.list_indexAt l its.toArray n dd sl u (fun z => PyData.eqv (SeqAt.readOf s.heap z) d) j h1 (by rw [List.size_toArray] at h1; omega) h2 h3)
    ⟨ho, SeqAt.items_plain (vs := its.toArray) (show ReadsAll s.heap its.toArray.toList ds as from ra) rb p1 p2 (by omega), ⟨.int (j : Nat), H, I.tok _, ⟨_, rfl⟩, q⟩⟩
def bIndex (y : BV) (d : PyData) (hp : List CO) : Option Nat := match bLst y hp with
  | some xs => if PyData.plainAll xs = true ∧ d.plain = true ∧ min (PyData.depthAll xs) d.depth ≤ 60 then SeqAt.dataPlace xs d else none
  | none => none
def gIndex (y : BV) (x : CV) : Mo CV := match x with
  | .d d => gO (fun z hp => bIndex z d hp) (fun j => .d (.int (j : Nat))) y
  | _ => fun _ => .no
theorem index_ok {y : BV} {x : CV} {v w : V} {μ : List Addr} {c : CS} {σ : LSt} {H : Hp} {Q : VK} (R : Rel (gh X N) μ c σ H) (d1 : BDen (kwOf X) H μ y v) (d2 : VDen (kwOf X) H μ x w) (p : RunAt (gh X N) N.W (gIndex y x) μ c σ H fun z μ1 _ H1 => ∀ t, VDen (kwOf X) H1 μ1 z t → Q t H1) :
    rIndexC (kwOf X) v [w] H Q := by
  cases x with
  | r _ => exact p.elim
  | o _ => exact p.elim
  | d d =>
    obtain ⟨j, e, q⟩ := gO_ok (f := fun z hp => bIndex z d hp) (g := fun j : Nat => CV.d (.int (j : Nat))) p
    unfold bIndex at e
    cases h : bLst y c.hp with
    | none =>
      rw [h] at e
      cases e
    | some xs =>
      rw [h] at e
      dsimp only at e
      by_cases hp : PyData.plainAll xs = true ∧ d.plain = true ∧ min (PyData.depthAll xs) d.depth ≤ 60
      · rw [if_pos hp] at e
        obtain ⟨l, ws, rfl, s, dl⟩ := bLst_ok R d1 h
        exact ⟨l, w, xs, ws, d, j, rfl, rfl, s, dl, d2, hp.1, hp.2.1, hp.2.2, e, q H (Fz.refl _) R _ (vden_int _)⟩
      · rw [if_neg hp] at e
        cases e
/-- the name holds a list -/
def chkLst (y : BV) : Mo Unit := fun c => match bLst y c.hp with
  | some _ => .ok () c
  | none => .no
theorem chkLst_ok {α : Type} {y : BV} {f : Unit → Mo α} {μ : List Addr} {c : CS} {σ : LSt} {H : Hp} {v : V} {P : α → List Addr → CS → Hp → Prop} (R : Rel (gh X N) μ c σ H) (d : BDen (kwOf X) H μ y v) (p : RunAt (gh X N) N.W (mBind (chkLst y) f) μ c σ H P) :
    tyV X.K "list" v H ∧ RunAt (gh X N) N.W (f ()) μ c σ H P := by
  have q := p.bind
  unfold RunAt chkLst at q
  cases h : bLst y c.hp with
  | none =>
    rw [h] at q
    exact q.elim
  | some xs =>
    rw [h] at q
    obtain ⟨l, ws, rfl, s, dl⟩ := bLst_ok R d h
    exact ⟨.inl ⟨rfl, _, s⟩, q μ H (List.prefix_refl _) (Fz.refl _) R⟩
def mIndexN (i : Nat) (ma : Mo CV) : Mo CV := mBind (mPeek i) fun y => mBind (chkLst y) fun _ => mBind ma fun x => mBind (mPeek i) fun y => gIndex y x
theorem ce_indexN (i : Nat) {x : Str} {p1 apos : Pos} {ma : Mo CV} (hu : X.A.units + 100 < cLine) (ha : CE X N a ma) (hN : X.N[i]? = some x := by rfl) (hv : Vis X.env.scope x := by first | exact Or.inl rfl | exact Or.inr (Or.inl rfl) | exact Or.inr (Or.inr rfl)) (hd : (x == ("__debug__" : Str)) = false := by decide)
    (hcd : (x == ("__classdict__" : Str)) = false := by decide)
    (hbase : attributeBase (.Name x p1) "index" X.env (eval (.Name x p1) X.env) = eval (.Name x p1) X.env := by rfl)
    (hfew : ((backTo pos (starEach (a :: []) X.env)).all (fun x => !x.1) && (backToKw pos (keywordEach [] X.env)).all (fun x => x.1.isSome)
      && decide ((a :: []).length + ([] : List Keyword).length + (if ([] : List Keyword).isEmpty then 0 else 1) < 30)) = true := by rfl)
    (hline : (apos.endLine == pos.line) = true := by rfl) (hs : starEach (a :: []) X.env = (false, eval a X.env) :: starEach [] X.env := by rfl) :
    CE X N (.Call (.Attribute (.Name x p1) "index" apos) [a] [] pos) (mIndexN i ma) := by
  refine PE.tm (pe_bm PySem.F.plainAttrs_list PySem.F.slot_list_index PySem.F.type_list_index (mt_indexC hu) (pe_var (X := X) (i := i) hN hv hd hcd) (pa_cons ha pa_nil hs) hbase hfew hline hs) fun σ H Q ⟨μ, c, R, p⟩ => ?_
  obtain ⟨v, y, hv0, db, p⟩ := peek_there R p
  obtain ⟨ty, p⟩ := chkLst_ok R db p
  refine ⟨v, hv0, ty, μ, c, R, (RunAt.bind p).imp fun z μ1 c1 H1 a1 b1 r1 q w d => ?_⟩
  obtain ⟨v2, y2, hv2, db2, q⟩ := peek_there r1 q
  cases hv0.symm.trans hv2
  exact index_ok r1 db2 d q
/-! ### lists and tuples times n -/
def pMulT (x y : PyData) : Option PyData := match x, y with
  | .tuple xs, .int k => if xs ≠ [] ∧ 2 ≤ k ∧ k ≤ 1000 ∧ xs.length ≤ 1000 then some (.tuple (List.replicate k.toNat xs).flatten) else none
  | x, y => pMul x y
theorem denL_flat {K : KW} {H : Hp} {xs : List PyData} {vs : List V} (d : DenL K H xs vs) : ∀ n : Nat, DenL K H (List.replicate n xs).flatten (List.replicate n vs).flatten
  | 0 => .nil
  | n + 1 => by
    rw [List.replicate_succ, List.replicate_succ, List.flatten_cons, List.flatten_cons]
    exact DenL.append d (denL_flat d n)
theorem opp_mulT : OpP X (binaryOp .Mult) pMulT := by
  intro pins s σ H x y z v w v' w' Q I d1 d2 r1 r2 e q
  by_cases h : ∃ xs k, x = .tuple xs ∧ y = .int k
  · obtain ⟨xs, k, rfl, rfl⟩ := h
    unfold pMulT at e
    dsimp only at e
    by_cases hh : xs ≠ [] ∧ 2 ≤ k ∧ k ≤ 1000 ∧ xs.length ≤ 1000
    · rw [if_pos hh] at e
      cases e
      simp only [Den] at d1 d2
      obtain ⟨l, vs, rfl, sq, dl⟩ := d1
      subst d2
      refine op_repT pins s σ H _ _ v' w' Q I r1 r2 ⟨l, k, vs, rfl, rfl, sq, ?_, hh.2.1, hh.2.2.1, by rw [dl.length]; exact hh.2.2.2, fun p hp => ?_⟩
      · intro z
        apply hh.1
        have := dl.length
        rw [z] at this
        exact List.length_eq_zero_iff.mp this.symm
      · have sm : Same H (upd H p (.tup (List.replicate k.toNat vs).flatten)) := same_new hp
        exact q _ _ sm (den_tup (denL_flat (DenL.mono (Fz.same sm) _ _ dl) _) (SqT.of upd_same))
    · rw [if_neg hh] at e
      cases e
  · refine opp_mul pins s σ H x y z v w v' w' Q I d1 d2 r1 r2 ?_ q
    unfold pMulT at e
    cases x with
    | tuple xs =>
      cases y with
      | int k => exact absurd ⟨xs, k, rfl, rfl⟩ h
      | _ => exact e
    | _ => exact e
def gRepL (k : Int) (xs : List PyData) : Mo (List PyData) := fun c => if 0 ≤ k ∧ k ≤ 1000 ∧ xs.length ≤ 1000 then .ok (List.replicate k.toNat xs).flatten c else .no
/-- [..] * k -/
theorem cf_mul {m : Mo (List PyData)} {k : Int} {j : Nat} {p2 : Pos} (ha : CF X N a m) : CF X N (.BinOp a .Mult (.Constant (.int k) j p2) pos) (mBind m (gRepL k)) :=
  PE.tm (pe_op op_rep ha pe_int) fun σ H Q ⟨μ, c, R, p⟩ => ⟨μ, c, R, (RunAt.bind p).imp fun xs μ1 c1 H1 a1 b1 r1 q t vs ht dl => by
    unfold RunAt gRepL at q
    by_cases hk : 0 ≤ k ∧ k ≤ 1000 ∧ xs.length ≤ 1000
    · rw [if_pos hk] at q
      have sm : Same H1 (upd H1 t (.lst vs)) := same_new ht
      refine ⟨t, k, vs, rfl, rfl, upd_same, by omega, by omega, ?_, fun z hz => ?_⟩
      · rw [dl.length, sizeLine_eq]
        have h1 : k.toNat ≤ 1000 := by omega
        have h2 := Nat.mul_le_mul hk.2.2 h1
        omega
      · exact q μ1 _ (List.prefix_refl _) (Fz.same sm) (r1.same sm) z _ hz (denL_flat (DenL.mono (Fz.same sm) _ _ dl) _)
    · rw [if_neg hk] at q
      exact q.elim⟩
end
end Cl

set_option Elab.async false
set_option maxRecDepth 100000
set_option maxHeartbeats 2000000
/-! Within an except suite: lists are walked to their end, summed; [int(one) for one in bools]. -/
namespace Cl
open PySem PySem.Spec PyProof.Rows L2
section
variable {prog : Program} {w : World} {A : Around} {E : Value → Shared → Prop} {s : Shared}
theorem list_end_hot {it l x1 : Addr} {i : Nat} {items : Array Value} {Q : Option Value → Shared → Prop} (hot : HotX.HotAt A x1 s.heap) (hit : s.heap.IsListIter it l i) (hl : s.heap.IsList l items) (hx : items[i]? = none) (hne : x1 ≠ it)
    (hQ : ∀ h' tk, (∀ b o, b ≠ it → s.heap.get? b = some o → h'.get? b = some o) → Q none { s with heap := h', toks := tk }) : wpAny (model prog w) A (pyNext (.ref it)) Q E s := by
  have ty := hit.typeIs
  obtain ⟨o, ho, hc, hd⟩ := hit
  obtain ⟨ol, hol, _, nl, hdl⟩ := hl
  obtain ⟨hh, o1, vs1, g1, d1, c1⟩ := hot
  unfold pyNext
  refine wpAny_bind (wpAny_attempt (wpAny_callSpecial?_slot (name := Str.ofString "__next__") ty slot_listiter_next (wpAny_call_entry slot_listiter_next ty entry_listiter_next ?_ (args_listiter_next _))))
  show wpAny _ _ (field (.ref it) 0 >>= _) _ _ s
  refine wpAny_bind (wpAny_field ho hd (x := .ref l) rfl ?_)
  show wpAny _ _ (if (Value.ref l == Value.none) = true then _ else _) _ _ s
  rw [if_neg (show ¬ ((Value.ref l == Value.none) = true) from Bool.false_ne_true)]
  show wpAny _ _ (field (.ref it) 1 >>= _) _ _ s
  refine wpAny_bind (wpAny_field ho hd (x := .int i 0) rfl ?_)
  show wpAny _ _ (seqItems? (.ref l) >>= _) _ _ s
  refine wpAny_bind (wpAny_seqItems hol hdl ?_)
  simp only [Int.toNat_natCast, hx]
  refine wpAny_bind (wpAny_rule (wpAny_bind (wpAny_setField ho hd (by simp) ?_)))
  have up : ∀ b o, b ≠ it → s.heap.get? b = some o → (s.heap.update it (Obj.mapFields (·.setIfInBounds 0 Value.none))).get? b = some o := fun b o hb e => (Heap.get?_update_other _ _ (Ne.symm hb)).trans e
  show wpAny _ _ (newExc (.type "StopIteration") [] >>= _) _ _ _
  refine wpAny_bind ?_
  simp only [newExc, newTuple]
  refine wpAny_bind (wpAny_newObj_type ?_ (by size_fits))
  refine wpAny_bind (m := firstArgMember _ _) (wpAny_of_eq (a := Value.none) (by first | rfl | (simp only [firstArgMember]; rfl)) ?_)
  refine wpAny_newObj_type ?_ (by size_fits)
  have g2 := Heap.get?_push_of_some { cls := .type "tuple", data := .seq #[] } (up x1 o1 hne g1)
  refine HotX.raiseNew_hot ⟨hh, o1, vs1, Heap.get?_push_of_some _ g2, d1, c1⟩ (Nat.ne_of_lt (Heap.lt_size g2)) (Heap.get?_push_size _ rfl) rfl (by first | (simp; done) | (simp; omega) | (simp only [Array.size_append]; simp; omega)) ?_
  refine wpAny_bind (wpAny_isInstance (T := "StopIteration") (b := true) ⟨_, Heap.get?_update_self _ (Heap.get?_push_size _ rfl) rfl, rfl⟩ isSubtype_stop ?_)
  refine wpAny_pure (hQ _ _ fun b o hb e => ?_)
  have e2 := Heap.get?_push_of_some { cls := .type "tuple", data := .seq #[] } (up b o hb e)
  rw [Heap.get?_update_other _ _ (Nat.ne_of_gt (Heap.lt_size e2))]
  exact Heap.get?_push_of_some _ e2
/-- a list is walked -/
theorem walksH {I l x1 : Addr} {items : Array Value} {o1 : Obj} {vs1 : Array Value} (hh : A.handled = some (.ref x1)) (d1 : o1.data = .fields vs1) (c1 : vs1[2]? = some .none) (hne : l ≠ I) (hx : x1 ≠ I) :
    Walks prog w A I [I, l, x1] [I] items.size (fun i v => items[i]? = some v) (fun i h => h.IsListIter I l i ∧ h.IsList l items ∧ h.get? x1 = some o1) where
  sub := fun b hb => by
    rw [List.mem_singleton.mp hb]
    exact .head _
  frame := fun _ _ _ st hk => ⟨st.1.at fun o e => hk I (by simp) o e, st.2.1.at fun o e => hk l (by simp) o e, hk x1 (by simp) _ st.2.2⟩
  item := fun i s Q E hi st hQ => by
    refine wpAny_pyNext_list_item st.1 st.2.1 (x := items[i]) (by simp [hi]) fun h' hit' hs' => ?_
    exact hQ _ h' s.toks (by simp [hi]) ⟨hit', st.2.1.extBut hs'.extBut hne, (hs'.extBut x1 _ hx st.2.2)⟩ fun b o hb e => hs'.extBut b o (fun h => hb (by simp [h])) e
  done := fun s Q E st hQ => list_end_hot ⟨hh, o1, vs1, st.2.2, d1, c1⟩ st.1 st.2.1 (by simp) hx fun h' tk k => hQ h' tk fun b o hb e => k b o (fun h => hb (by simp [h])) e
  self := fun _ _ _ _ st hQ => wpAny_pyIter_listiter st.1 hQ
end
/-- the context bears a handled exception whose own context is None -/
structure Hot (X : Cx) (a : Addr) (oe : Obj) : Prop where
  hd : X.A.handled = some (.ref a)
  pin : (a, oe) ∈ X.pn
  cx : ∃ vs : Array Value, oe.data = .fields vs ∧ vs[2]? = some .none
section
variable {X : Cx} {a : Addr} {oe : Obj} {pins : List (Addr × Obj)} {σ : LSt} {H : Hp} {s : Shared}
theorem Hot.get (h : Hot X a oe) (I : Inv X pins σ H s) : s.heap.get? a = some oe := (I.pin (a, oe) (List.mem_append_left _ h.pin)).1
/-- iter(l), then the walk -/
theorem iterH (h : Hot X a oe) (I : Inv X pins σ H s) {A : Around} (eA : A.handled = X.A.handled) {l : Addr} {items : Array Value} {Q : Value → Shared → Prop} {E : Value → Shared → Prop} (hl : s.heap.IsList l items)
    (k : ∀ s2 : Shared, s2 = { s with heap := s.heap.push { cls := .type "list_iterator", data := .fields #[.ref l, .int 0 0] } } → Walks X.prog X.w A s.heap.objs.size [s.heap.objs.size, l, a] [s.heap.objs.size] items.size (fun i v => items[i]? = some v) (fun i h => h.IsListIter s.heap.objs.size l i ∧ h.IsList l items ∧ h.get? a = some oe) →
      (s2.heap.IsListIter s.heap.objs.size l 0 ∧ s2.heap.IsList l items ∧ s2.heap.get? a = some oe) → (∀ b ∈ [s.heap.objs.size, l, a], b < s2.heap.objs.size) → Q (.ref s.heap.objs.size) s2) : wpAny (model X.prog X.w) A (pyIter (.ref l)) Q E s := by
  have ha := h.get I
  have lt : l < s.heap.objs.size := by
    obtain ⟨_, e, _⟩ := hl
    exact Heap.lt_size e
  have la := Heap.lt_size ha
  obtain ⟨vs, d1, c1⟩ := h.cx
  refine wpAny_pyIter_list hl (k _ rfl (walksH (by rw [eA]; exact h.hd) d1 c1 (Nat.ne_of_lt lt) (Nat.ne_of_lt la)) ⟨⟨_, Heap.get?_push_size _ rfl, rfl, rfl⟩, hl.push _, Heap.get?_push_of_some _ ha⟩ fun b hb => ?_)
  show b < (s.heap.push _).objs.size
  rw [Heap.size_push]
  rcases List.mem_cons.mp hb with q | hb
  · rw [q]
    exact Nat.lt_succ_self _
  · rcases List.mem_cons.mp hb with q | hb
    · rw [q]
      exact Nat.lt_succ_of_lt lt
    · rw [List.mem_singleton.mp hb]
      exact Nat.lt_succ_of_lt la
theorem cr_sumH (h : Hot X a oe) : CallR X (.builtin "sum") (rSum X.K) := by
  intro pins s σ H vs us Q I r hq
  obtain ⟨l, ns, rfl, hs, q⟩ := hq
  obtain ⟨its, rv, hl, _⟩ := I.list hs
  rw [Vals.ref1 r]
  have hi := rv.ints
  obtain ⟨xs, e⟩ := hi.allInts.items
  have hn : numsOf (intItems xs).toList = ns := by rw [← e]; exact hi.numsOf
  rw [nums_intItems] at hn
  have hl2 : s.heap.IsList l (intItems xs) := by rw [← e]; exact hl.isList
  refine call_sum_walkG (iterH h I (A := X.A.in1) rfl hl2 fun s2 e2 W st fp => ⟨_, _, _, _, _, _, numAt xs, rfl, W, st, fp, (fun _ _ => intItems_at), fun h' tk t' hk => ?_⟩)
  subst e2
  have ez : preSum (numAt xs) (intItems xs).size = ns.sum := by
    have : (intItems xs).size = xs.size := by simp [intItems]
    rw [this, preSum_eq, List.take_of_length_le (by simp), hn]
  rw [ez]
  refine ⟨.int ns.sum, H, I.kept fun b o eo => hk b o (fun hm => ?_) (Heap.get?_push_of_some _ eo), ⟨_, rfl⟩, q⟩
  rw [List.mem_singleton.mp hm] at eo
  exact absurd (Heap.lt_size eo) (Nat.lt_irrefl _)
end
end Cl

set_option Elab.async false
set_option maxRecDepth 100000
set_option maxHeartbeats 2000000
namespace Cl
open PySem PySem.Spec PyProof.Rows L2
def b2z (b : Bool) : Int := if b then 1 else 0
def tLcH (K : PySem.W.Frag) (t : TE) : TE := fun σ H Q => t σ H fun v H1 => ∃ (l : Addr) (bs : List Bool), v = .ref l ∧ SqL K H1 l (bs.map V.bl) ∧ ∀ q, H1 q = none → Q (.ref q) (upd H1 q (.lst (bs.map fun b => V.int (b2z b))))
section
variable {X : Cx} {a : Addr} {oe : Obj}
theorem bools_at {bs : List Bool} {its : List Value} (e : its = bs.map Value.bool) {i : Nat} {v : Value} (h : its.toArray[i]? = some v) : ∃ b, v = .bool b := by
  rw [List.getElem?_toArray, e, List.getElem?_map] at h
  cases hb : bs[i]? with
  | none =>
    rw [hb] at h
    cases h
  | some b =>
    rw [hb] at h
    cases h
    exact ⟨b, rfl⟩
theorem pe_lcH {iter : Expr} {one : Str} {t : TE} {scope : Scope} {p1 p2 p3 p4 pos : Pos} (h : Hot X a oe) (hi : PE X iter t) (hm : X.mg "int" = none) (hfree : ∀ y ∈ scope.names, y.2 ≠ .free) (hcell : ∀ y ∈ scope.names, y.2 ≠ .cell) (hkind : scope.kind = .function)
    (hnames : ∀ y ∈ scope.names, y.2 = .local → scope.names.lookup y.1 = some .local) (hx : scope.names.lookup one = some .local) (hg : ∀ C, (compEnvC scope [] C X.env).kindOf "int" = some .globalImplicit) (hd : (one == ("__debug__" : Str)) = false := by decide)
    (hs : ∀ x, foldedSetIterable iter X.env x = pure x := by intro _; rfl) :
    PE X (.ListComp (.Call (.Name "int" p1) [.Name one p2] [] p3) [⟨.Name one p4, iter, [], 0⟩] scope pos) (tLcH X.K t) := by
  refine ⟨fun pins s σ H Q I hq => ?_⟩
  refine wpAny_ListComp_free (cl := []) (fun _ => true) (fun v y => ∃ b k, v = Value.bool b ∧ y = Value.int (b2z b) k) (closureFor_none hfree) hcell hkind hnames hx (thn (hi.run pins s σ H _ I hq) fun xv s1 ⟨v, H1, I1, r1, l, bs, ev, sq, q⟩ => ?_) hs
  subst ev
  obtain rfl : xv = Value.ref l := r1
  obtain ⟨its, rv, pl, hz⟩ := I1.list sq
  have eb := rv.bls
  have hz' : its.toArray.size ≤ sizeLine := by
    rw [List.size_toArray, ← rv.length]
    exact hz
  refine iterH h I1 (A := X.A) rfl pl.isList fun s2 e2 W st fp => ⟨_, _, _, _, _, _, rfl, W, hz', st, fp, ⟨fun C i v s3 m3 E' hC hv hn hm3 hk ht => wpAny_tests_nil ⟨rfl, s3.heap, s3.toks, rfl, fun _ _ e => e⟩, fun C i v s3 m3 E' hC hv _ hn hm3 hk ht => ?_⟩, fun D h' tk ys vs hD hl hp hlen hP hF hk => ?_⟩
  · -- int(one)
    obtain ⟨b, rfl⟩ := bools_at eb hv
    subst e2
    have old : ∀ c o, X.base.get? c = some o → s3.heap.get? c = some o := fun c o e => by
      have e1 := (I1.bs c o e).1
      refine hk c o (fun hm => ?_) (Heap.get?_push_of_some _ e1)
      rw [List.mem_singleton.mp hm] at e1
      exact absurd (Heap.lt_size e1) (Nat.lt_irrefl _)
    obtain ⟨mb, h1, h2⟩ := I1.mod.blt
    refine wpAny_Call_Name_kw (Calls.Name_function_global (env := compEnvC scope [] C X.env) hkind (hg C) (Calls.loadGlobal_builtin (by rw [show (compEnvC scope [] C X.env).globals = mainGlobals from I1.ok.glob]; exact I1.mod.glob.keeps old) hm (by rw [show (compEnvC scope [] C X.env).builtins = builtinsNs from I1.ok.blt]; exact h1.keeps old) ((h2 "int" (by decide)).trans (by rfl)) ?_) (by decide))
    refine PyProof.Rows.callWith_type1 (T := "int") (PyProof.Rows.args_cons (wpAny_Name (wpAny_loadName_local (env := compEnvC scope [] C X.env) hkind (lookup_relabel_local hx) hn hm3 ?_) hd) rfl) rfl rfl
    refine PyProof.Rows.args_nil (call_int_bool ⟨⟨b, _, rfl, rfl⟩, s3.heap, _, rfl, fun _ _ e => e⟩)
  · -- the new list
    have ev : vs = its := by
      have := list_of_places (items := its.toArray) hlen hP
      simpa using this
    subst e2 ev
    have hF : Paired (fun v y => ∃ b k, v = Value.bool b ∧ y = Value.int (b2z b) k) vs ys.toList := by
      have : vs.filter (fun _ => true) = vs := List.filter_eq_self.mpr fun _ _ => rfl
      rw [this] at hF
      exact hF
    have hv : Vals (bs.map fun b => V.int (b2z b)) ys.toList := by
      rw [eb] at hF
      clear eb rv q sq hP hlen hp hl hk hz hz'
      revert hF
      generalize ys.toList = us
      intro hF
      induction bs generalizing us with
      | nil =>
        cases hF
        exact .nil
      | cons b bs ih =>
        cases hF with
        | cons h1 h2 =>
          obtain ⟨b', k, e1, e2⟩ := h1
          cases e1
          exact .cons ⟨k, e2⟩ (ih _ h2)
    have kp : ∀ c o, s1.heap.get? c = some o → h'.get? c = some o := fun c o e => hk c o (fun hm => by
      rw [List.mem_singleton.mp hm] at e
      exact absurd (Heap.lt_size e) (Nat.lt_irrefl _)) (Heap.get?_push_of_some _ e)
    have hD1 : s1.heap.get? D = none := by
      cases e : s1.heap.get? D with
      | none => rfl
      | some o =>
        have := Heap.get?_push_of_some { cls := .type "list_iterator", data := .fields #[.ref l, .int 0 0] } e
        rw [hD] at this
        cases this
    have hD2 : H1 D = none := I1.hok.gone hD1
    obtain ⟨n, hn⟩ := hp
    have hz2 : (bs.map fun b => V.int (b2z b)).length ≤ sizeLine := by
      rw [List.length_map]
      have := rv.length
      rw [List.length_map] at this
      rw [this]
      simpa using hz'
    exact ⟨.ref D, _, I1.laidN kp hD1 hD2 (show ObjOk X.prog X.w _ h' D (.lst (bs.map fun b => V.int (b2z b))) from ⟨hz2, ys.toList, n, hv, by rw [Array.toArray_toList]; exact hn⟩), rfl, q D hD2⟩
end
end Cl

set_option Elab.async false
set_option maxRecDepth 100000
set_option maxHeartbeats 2000000
/-! A def that tells the name of the exception that is handled; try: .. except W as e: return f(e). -/
namespace Cl
open PySem PySem.Spec PyProof.Rows L2
/-- the def at f, called with the exception that is handled, of the class named nm: a text -/
structure FnX (P : Program) (w : World) (K : PySem.W.Frag) (mg : Str → Option Value) (base : Heap) (k : Nat) (f : Addr) (fd : FuncData) (x : Str) (F : Str → Option Str) : Prop where
  run : ∀ (A : Around) (oo : List Env) (s : Shared) (H : Hp) (gv : Args) (a C : Addr) (oe : Obj) (nm t : Str), L2H.RoomH k A → A.handled = some (.ref a) → L2H.PinOk oo H s (a, oe) → L2N.Zn (.ref C) none oe → (∃ vs : Array Value, oe.data = .fields vs ∧ vs[2]? = some .none) →
    mg nm = some (.ref C) → F nm = some t → Env0 P w K mg base A oo s H → BindsTo s fd gv [(x, .ref a)] → codeAny (model P w) A (.call (.ref f) gv) (CR (L2N.CX P w) oo P w H s (fun v H' => v = .str t ∧ Same H H') fun _ _ _ => False) s
section
variable {P : Program} {w : World} {K : PySem.W.Frag} {mg : Str → Option Value} {base : Heap} {k : Nat} {f : Addr} {x : Str} {F : Str → Option Str}
/-- the def rule -/
theorem fnX_of {nm qual : Str} {pa : Arguments} {body : List Stmt} {scope : Scope} {dV kV doc pm cdv ct oc : Value} {an od : Option Addr} {osl : Array (Option Value)} {N : List Str}
    (lk : K.lookup f = some ⟨oc, od, .func (PySem.W.fnOf nm qual pa body scope dV kV doc pm an cdv ct), osl⟩) (hcd : PySem.W.codeIn K cdv qual = true) (S : FnScope N [x] scope)
    (hbody : ∀ (A : Around) (oo : List Env) (s : Shared) (H : Hp) (a C : Addr) (oe : Obj) (en t : Str), L2H.RoomH k (A.deeper (envOfC qual scope s.heap.objs.size f cdv)) → A.handled = some (.ref a) → L2N.Zn (.ref C) none oe → (∃ vs : Array Value, oe.data = .fields vs ∧ vs[2]? = some .none) → mg en = some (.ref C) → F en = some t →
      ∃ m c', CSs (L2H.cxH (L2N.CX P w) P w K mg base N qual scope f cdv A oo s H (fun _ _ _ => False) (a, oe)) ⟨H, [], fun _ _ _ _ => False⟩ body m ∧ m ⟨Sl.v (.o (.ref a)) :: List.replicate (N.length - 1) .un, []⟩ = .rt (.d (.str t)) c') :
    FnX P w K mg base (k + 1) f (PySem.W.fnOf nm qual pa body scope dV kV doc pm an cdv ct) x F where
  run A oo s H gv a C oe en t rg hh pin zn fl hm hF e0 hb := by
    have at0 : ∀ b o, base.get? b = some o → s.heap.get? b = some o := fun b o e => (e0.bs b o e).1
    have kin := e0.mod.kin.keeps at0
    refine codeAny_call_function rg.depth (kin _ _ lk) rfl S.co S.gen rfl (PySem.W.codeRec_of kin hcd) (hb _ _ _ _ (wpAny_newFunctionEnv_cells S.kind (fun y hy => ?_) fun env he s1 y => ?_))
    · have hy1 : y.1 ∈ [x] := by
        rw [List.mem_singleton] at hy
        rw [hy]
        exact .head _
      exact (S.par y.1 hy1).imp id fun c => ⟨c, PySem.W.cellsFrom_some _ _ _ (.inl c)⟩
    · subst he
      obtain ⟨m, c', hm', e⟩ := hbody A oo s H a C oe en t (rg.deeper _) hh zn fl hm hF
      refine ⟨(e0.mod.nolimit.keeps at0).keeps y.toInCall.keep, codeAny_func ?_⟩
      have I := L2H.inv_startH (CX := L2N.CX P w) (E := fun _ _ _ => False) (us := [.ref a]) (vs := [V.ref a]) S pin e0 rfl (.cons rfl .nil) y
      have R : Rel ⟨⟨K, w⟩, mg, H, []⟩ [] ⟨Sl.v (.o (.ref a)) :: List.replicate (N.length - 1) .un, []⟩ (L2.start N [V.ref a]) H :=
        Rel.start (xs := [CV.o (.ref a)]) (K := ⟨K, w⟩) (mg := mg) (μ := []) (hp := []) ⟨rfl, fun m o h => by simp at h, List.nodup_nil⟩ (.cons rfl .nil) rfl
      refine wpAny_mono (hm'.run [] s1 _ H { nx := fun _ _ => False, rt := fun v H' => v = .str t ∧ Same H H' } I ⟨[], _, R, ?_⟩) (fun z s2 hz => ?_) fun _ _ hz => hz
      · rw [e]
        intro μ1 σ1 H1 v _ _ R1 d
        have d : Den ⟨K, w⟩ H1 (.str t) v := d
        simp only [Den] at d
        exact ⟨d, fun b o q => R1.fr b o q (by simp)⟩
      · cases z with
        | next =>
          obtain ⟨_, _, _, q⟩ := hz
          exact False.elim q
        | brk =>
          obtain ⟨_, _, _, q⟩ := hz
          exact False.elim q
        | cont =>
          obtain ⟨_, _, _, q⟩ := hz
          exact False.elim q
        | ret u =>
          obtain ⟨v, τ, G, J, rx, q⟩ := hz
          exact ⟨v, G, J.os, J.bare, J.base, J.hok, rx, q⟩
end
/-! ### isinstance(e, D) -/
section
variable {X : Cx} {N : Wn} {a C : Addr} {oe : Obj} {pos p p1 p2 : Pos}
theorem call_isP (hp : (a, oe) ∈ X.pn) (E : ExcC X.K C) (hz : Zc (.ref C) none oe) (hf : ∃ vs, oe.data = .fields vs) : CallR X (.builtin "isinstance") (rIsE X.K C a) := by
  intro pins s σ H xs us Q I r h
  obtain ⟨c, cv, b, rfl, hcv, e, q⟩ := h
  obtain ⟨u, v, rfl, rx, ry⟩ := vals2 r
  obtain rfl : u = Value.ref a := rx
  obtain rfl := hcv _ ry
  have hget := (I.pin (a, oe) (List.mem_append_left _ hp)).1
  have J : PySem.W.InstAt s.heap a oe C none := by
    obtain ⟨vs, hv⟩ := hf
    obtain ⟨oc, od, oda, osl⟩ := oe
    obtain ⟨h1, h2⟩ := hz
    dsimp only at h1 h2 hv
    subst h1 h2 hv
    exact ⟨hget, rfl, rfl, trivial⟩
  exact PySem.W.kia_one (PySem.W.handS_kitx_exc E.hg E.hk E.hs E.hd E.ha E.hn E.ht E.hm) I.kIn J e (fun z => nomatch z) fun tk => ⟨.bl b, H, I.kept (t' := tk) fun _ _ z => z, rfl, q⟩
def mIsE (a : Addr) (i : Nat) (b : Bool) : Mo CV := fun c => match c.sl[i]? with
  | some (.v (.o (.ref a'))) => if a' = a then .ok (.d (.bool b)) c else .no
  | _ => .no
theorem ce_isE (i : Nat) {x y : Str} {D : Addr} {b : Bool} (hp : (a, oe) ∈ X.pn) (E : ExcC X.K C) (hz : Zc (.ref C) none oe) (hf : ∃ vs, oe.data = .fields vs) (hy : X.mg y = some (.ref D)) (hb : PySem.W.kitOne X.K (.ref C) (.ref D) = some b) (hm : X.mg "isinstance" = none)
    (hN : X.N[i]? = some x := by rfl) (hv : Vis X.env.scope x := by first | exact Or.inl rfl | exact Or.inr (Or.inl rfl) | exact Or.inr (Or.inr rfl)) (hd : (x == ("__debug__" : Str)) = false := by decide)
    (hcd : (x == ("__classdict__" : Str)) = false := by decide) (hg : Gl X "isinstance" := by rfl) (hgy : Gl X y := by rfl) (hdy : (y == ("__debug__" : Str)) = false := by decide) :
    CE X N (.Call (.Name "isinstance" p) [.Name x p1, .Name y p2] [] pos) (mIsE a i b) :=
  PE.tm (pe_callB (call_isP hp E hz hf) hg hm (by rfl) (pa_cons (pe_var (X := X) (i := i) hN hv hd hcd) (pa_cons (pe_glob (v := .ref D) hgy hy rfl hdy) pa_nil))) fun σ H Q ⟨μ, c, R, p⟩ => by
    unfold RunAt mIsE at p
    cases e : c.sl[i]? with
    | none =>
      rw [e] at p
      exact p.elim
    | some sl =>
      rw [e] at p
      cases sl with
      | un => exact p.elim
      | ol _ => exact p.elim
      | od _ => exact p.elim
      | v z =>
        cases z with
        | d _ => exact p.elim
        | r _ => exact p.elim
        | o w =>
          cases w with
          | ref a' =>
            dsimp only at p
            by_cases h : a' = a
            · rw [if_pos h] at p
              subst h
              obtain ⟨v, ev, d⟩ := R.vl i _ e
              cases d
              exact ⟨_, ev, .ref D, .ref D, b, rfl, (fun u h => h), hb, p μ H (List.prefix_refl _) (Fz.refl _) R _ (vden_bool _)⟩
            · rw [if_neg h] at p
              exact p.elim
          | _ => exact p.elim
/-! ### sum([int(one) for one in bools]) -/
def gSumB : BV → Mo CV := gO bBs fun bs => .d (.int (bs.map b2z).sum)
theorem ce_sumB {iter : Expr} {one : Str} {scope : Scope} {m : Mo BV} {q1 q2 q3 q4 q5 : Pos} (h : Hot X a oe) (hi : CB X N iter m) (hm : X.mg "int" = none) (hms : X.mg "sum" = none) (hfree : ∀ y ∈ scope.names, y.2 ≠ .free) (hcell : ∀ y ∈ scope.names, y.2 ≠ .cell) (hkind : scope.kind = .function)
    (hnames : ∀ y ∈ scope.names, y.2 = .local → scope.names.lookup y.1 = some .local) (hx : scope.names.lookup one = some .local) (hg : ∀ C, (compEnvC scope [] C X.env).kindOf "int" = some .globalImplicit) (hd : (one == ("__debug__" : Str)) = false := by decide) (hgs : Gl X "sum" := by rfl)
    (hs : ∀ x, foldedSetIterable iter X.env x = pure x := by intro _; rfl)
    (hst : starEach [Expr.ListComp (.Call (.Name "int" q1) [.Name one q2] [] q3) [⟨.Name one q4, iter, [], 0⟩] scope q5] X.env = (false, eval (.ListComp (.Call (.Name "int" q1) [.Name one q2] [] q3) [⟨.Name one q4, iter, [], 0⟩] scope q5) X.env) :: starEach [] X.env := by rfl) :
    CE X N (.Call (.Name "sum" p) [.ListComp (.Call (.Name "int" q1) [.Name one q2] [] q3) [⟨.Name one q4, iter, [], 0⟩] scope q5] [] pos) (mBind m gSumB) :=
  PE.tm (pe_callB (cr_sumH h) hgs hms (by rfl) (pa_cons (pe_lcH h hi hm hfree hcell hkind hnames hx hg hd hs) pa_nil hst) (he := hst)) fun σ H Q ⟨μ, c, R, p⟩ => ⟨μ, c, R, (RunAt.bind p).imp fun y μ1 c1 H1 a1 b1 r1 q v d => by
    obtain ⟨bs, e, q⟩ := gO_ok q
    obtain ⟨l, rfl, sq⟩ := bBs_ok r1 d e
    refine ⟨l, bs, rfl, sq, fun t ht => ?_⟩
    have sm : Same H1 (upd H1 t (.lst (bs.map fun b => V.int (b2z b)))) := same_new ht
    refine ⟨t, bs.map b2z, rfl, SqL.of (by rw [upd_same, List.map_map]; rfl), q _ (Fz.same sm) (r1.same sm) _ (vden_int _)⟩⟩
/-! ### try: .. except W as e: return f(e) -/
/-- in the suite -/
def tX (i : Nat) (a : Addr) (cls : Value) (d : Option Addr) (mg : Str → Option Value) (F : Str → Option Str) : TS := fun D σ H => ∃ (nm t : Str) (C : Addr), cls = .ref C ∧ d = none ∧ mg nm = some (.ref C) ∧ F nm = some t ∧ σ[i]? = some (some (.ref a)) ∧ ∀ H', Same H H' → D.rt (.str t) H'
theorem ps_retX {k : Nat} {f : Addr} {fd : FuncData} {x n y : Str} {F : Str → Option Str} {i : Nat} {pn : List (Addr × Obj)} {cls : Value} {d : Option Addr} {r1 r2 r3 r4 : Pos} (G : FnX X.prog X.w X.K X.mg X.base k f fd x F) (hr : L2H.RoomH k X.A) (hm : X.mg y = some (.ref f)) (hk : PySem.W.keepIn X.K (.ref f) = true)
    (hb : Binds X.K fd [x] []) (zn : L2N.Zn cls d oe) (fl : ∃ vs, oe.data = .fields vs) (hN : X.N[i]? = some n) (hv : Vis X.env.scope n) (hd : (n == ("__debug__" : Str)) = false) (hcd : (n == ("__classdict__" : Str)) = false) (hgy : Gl X y) (hdy : (y == ("__debug__" : Str)) = false) :
    PS (X.suite a ((a, oe) :: pn)) (.Return (some (.Call (.Name y r1) [.Name n r2] [] r3)) r4) (tX i a cls d X.mg F) := by
  refine PS.tm (t := tRet fun σ H Q => ∃ (nm t : Str) (C : Addr), cls = .ref C ∧ d = none ∧ X.mg nm = some (.ref C) ∧ F nm = some t ∧ σ[i]? = some (some (.ref a)) ∧ ∀ H', Same H H' → Q (.str t) H') (ps_ret ⟨fun pins s σ H Q I ⟨nm, t, C, e1, e2, e3, e4, e5, q⟩ => ?_⟩) fun D σ H h => h
  subst e1 e2
  refine wpAny_Call_Name_kw (ld_glob I hgy hm (PySem.W.callWith_K (h₀ := X.base) I.ok.mod.kin hk
    (thn ((pa_cons (pe_var (X := X.suite a ((a, oe) :: pn)) (i := i) hN hv hd hcd) pa_nil).run r3 pins s σ H (fun vs H1 => vs = [V.ref a] ∧ H1 = H) I ⟨.ref a, e5, rfl, rfl⟩) fun us s1 ⟨vs, H1, I1, rv, ev, eH⟩ => ?_) rfl rfl) hdy)
  subst ev eH
  rw [Vals.ref1 rv]
  have P1 := I1.pin (a, oe) (List.mem_append_left _ (.head _))
  have pin : L2H.PinOk X.stack H1 s1 (a, oe) := ⟨P1.1, P1.2.1, fun hm => (List.mem_cons.mp (I1.stkSub a hm)).elim P1.2.2.1 P1.2.2.2.1, P1.2.2.2.2⟩
  have bd := hb s1 [.ref a] I1.kIn rfl
  refine ⟨I1.kIn, wpAny_call (codeAny_mono (G.run (X.A.mark (some (.ref a))) X.stack s1 H1 ⟨[.ref a], []⟩ a C oe nm t ⟨hr.dp, hr.un⟩ rfl pin zn (fl.imp fun vs h => ⟨h, zn.2.2 vs h⟩) e3 e4 I1.env0 bd) fun u z hz => ?_)⟩
  match u, hz with
  | .error e, hz =>
    obtain ⟨_, _, _, _, _, _, _, _, _, _, _, _, h⟩ := hz
    exact h.elim
  | .ok (.ret u), hz =>
    obtain ⟨v, G', os, bare, un, ok, rv, ev, sm⟩ := hz
    subst ev
    exact I1.after ⟨.str t, G', os, bare, un, ok, rv, q G' sm⟩
/-- the mirror -/
def sTryE (i : Nat) (F : Str → Option Str) (mb : MS) : MS := fun c => match mb c with
  | .ex e c1 => match F e.cls with
    | some t => if e.fs = [] ∧ i < c1.sl.length then .rt (.d (.str t)) c1 else .no
    | none => .no
  | r => r
theorem cs_tryE {k : Nat} {f : Addr} {fd : FuncData} {x n y wn : Str} {F : Str → Option Str} {i : Nat} {W : Value} {body : List Stmt} {mb : MS} {r1 r2 r3 r4 np hp tp : Pos} (G : FnX X.prog X.w X.K X.mg X.base k f fd x F) (hr : L2H.RoomH k X.A) (hm : X.mg y = some (.ref f)) (hk : PySem.W.keepIn X.K (.ref f) = true)
    (hb : Binds X.K fd [x] []) (hst : X.stack = X.env :: X.outer) (hfr : X.env.frame = some X.env.locals) (hNN : X.N.Nodup) (hW : Names X wn W) (tk : L2N.Takes X N.W)
    (hF : ∀ nm t C, F nm = some t → X.mg nm = some (.ref C) → PySem.W.exmOne X.K (.ref C) W = some true) (hcl : ∀ nm t, F nm = some t → ∃ C, X.mg nm = some (.ref C))
    (hbody : ∀ (W' : WX) (pn : List (Addr × Obj)) (xe : Value → Shared → Prop), L2N.Takes (X.tr pn xe) W' → PassesOwn (model X.prog X.w) X.A X.env xe → CSs (X.tr pn xe) ⟨N.B, N.m0, W'⟩ body mb)
    (hN : X.N[i]? = some n := by rfl) (hln : X.env.kindOf n = some .local := by rfl) (hd : (n == ("__debug__" : Str)) = false := by decide) (hcd : (n == ("__classdict__" : Str)) = false := by decide) (hgy : Gl X y := by rfl) (hdy : (y == ("__debug__" : Str)) = false := by decide) :
    CS1 X N (.Try body [.ExceptHandler (some (.Name wn np)) (some n) [.Return (some (.Call (.Name y r1) [.Name n r2] [] r3)) r4] hp] [] [] tp) (sTryE i F mb) := by
  refine PS.tm (L2N.ps_try_as (i := i) (tb := fun W' => tSt (gh X ⟨N.B, N.m0, W'⟩) W' mb) (ts := fun a cls d => tX i a cls d X.mg F) (Wout := N.W) hst hfr hNN hN hln hW tk (fun W' pn xe tk' po => hbody W' pn xe tk' po)
    (fun a oe cls d pn zn fl => pss_one (ps_retX G hr hm hk hb zn fl hN (.inl hln) hd hcd hgy hdy))) fun D σ H ⟨μ, c, R, p⟩ => ⟨μ, c, R, ?_⟩
  unfold RunS sTryE at p
  unfold RunS
  cases e : mb c with
  | nx c1 =>
    rw [e] at p
    exact p
  | rt z c1 =>
    rw [e] at p
    exact p
  | bk c1 =>
    rw [e] at p
    exact p
  | ct c1 =>
    rw [e] at p
    exact p
  | no =>
    rw [e] at p
    exact p
  | ex z c1 =>
    rw [e] at p
    dsimp only at p
    cases hz : F z.cls with
    | none =>
      rw [hz] at p
      exact p.elim
    | some t =>
      rw [hz] at p
      dsimp only at p
      by_cases hl : z.fs = [] ∧ i < c1.sl.length
      · rw [if_pos hl] at p
        intro μ1 σ1 cls d H1 a1 f1 R1 xd
        obtain ⟨C, hC⟩ := hcl _ _ hz
        obtain ⟨x1, x2⟩ := xd
        cases hC.symm.trans x1
        have hd : d = none := by
          rcases x2 with ⟨_, h⟩ | ⟨ne, _⟩
          · exact h
          · exact absurd hl.1 ne
        refine ⟨true, hF _ _ _ hz hC, fun _ b hb => ⟨z.cls, t, C, rfl, hd, hC, hz, ?_, fun H' sm => ?_⟩, fun h => by cases h⟩
        · rw [List.getElem?_set_self (by rw [← R1.len]; exact hl.2)]
        · exact p μ1 σ1 H' _ a1 (f1.trans (Fz.same sm)) (R1.same sm) (vden_str _)
      · rw [if_neg hl] at p
        exact p.elim
end
end Cl

set_option Elab.async false
set_option maxRecDepth 100000
set_option maxHeartbeats 2000000
namespace Cl
open PySem PySem.Spec PyProof.Rows L2
section
variable {X : Cx} {N : Wn} {a : Expr} {pos : Pos}
def gNeg (x : CV) : Mo CV := match x with
  | .d (.int i) => mRet (.d (.int (-i)))
  | _ => fun _ => .no
theorem ce_neg {m : Mo CV} (h : CE X N a m) : CE X N (.UnaryOp .USub a pos) (mBind m gNeg) :=
  PE.tm (pe_un un_neg h) fun σ H Q ⟨μ, c, R, p⟩ => ⟨μ, c, R, (RunAt.bind p).imp fun y μ1 c1 H1 a1 b1 r1 q v d => by
    cases y with
    | r _ => exact q.elim
    | o _ => exact q.elim
    | d y =>
      cases y with
      | int i => exact ⟨i, vden_i d, RunAt.ret (a := CV.d (.int (-i))) q H1 (Fz.refl _) r1 _ (vden_int _)⟩
      | none => exact q.elim
      | bool _ => exact q.elim
      | str _ => exact q.elim
      | list _ => exact q.elim
      | tuple _ => exact q.elim
      | dict _ => exact q.elim⟩
end
end Cl

set_option Elab.async false
set_option maxRecDepth 100000
set_option maxHeartbeats 2000000
namespace Cl
open PySem PySem.Spec PyProof.Rows L2
theorem isE_at (a : Addr) (b : Bool) (r : List Sl) (hp : List CO) : mIsE a 0 b ⟨.v (.o (.ref a)) :: r, hp⟩ = .ok (.d (.bool b)) ⟨.v (.o (.ref a)) :: r, hp⟩ := if_pos rfl
theorem cons_at {ma : Mo CV} {mr : Mo (List CV)} {c c1 c2 : CS} {x : CV} {xs : List CV} (h1 : ma c = .ok x c1) (h2 : mr c1 = .ok xs c2) : mCons ma mr c = .ok (x :: xs) c2 := by
  unfold mCons mBind
  rw [h1]
  dsimp only
  rw [h2]
  rfl
theorem lst_at {m : Mo (List CV)} {c c1 : CS} {xs : List CV} {ys : List PyData} (h : m c = .ok xs c1) (k : mkL xs = some ys) : mLst m c = .ok ys c1 := by
  unfold mLst mBind
  rw [h]
  show mOpt (mkL xs) c1 = _
  rw [k]
  rfl
theorem own_at {m : Mo (List PyData)} {f : MS} {i : Nat} {c c1 : CS} {xs : List PyData} (h : m c = .ok xs c1) : sSeq (sOwn i m) f c = f (cSet i (.ol xs) c1) := by
  unfold sSeq sOwn sBind
  rw [h]
end Cl

set_option Elab.async false
set_option maxRecDepth 100000
/-! The end of a law: what its mirror says of a script is what the law's own call does. -/
namespace Cl
open PySem PySem.Spec PyProof.Rows L2
theorem denL_ints {K : KW} {H : Hp} : ∀ ns : List Int, DenL K H (ns.map .int) (ns.map V.int)
  | [] => .nil
  | n :: r => .cons (by simp only [Den]) (denL_ints r)
/-- a mirror that answers True on every script of n cells keeps the law's promise -/
theorem sp_law {K : KW} {mg : Str → Option Value} {F : Fn} {n : Nat} (h : ∀ ns : List Int, ns.length ≤ n → ∃ hp, F [.d (.list (ns.map .int))] [] = .ok (.d (.bool true)) hp) {H : Hp} {a : Addr} {ns : List Int} (hl : ns.length ≤ n) (hf : FzL K.K H a (ns.map V.int)) :
    spC K mg F 1 [.ref a] H (fun v _ => v = .bl true) fun _ _ _ => False := by
  obtain ⟨hp, e⟩ := h ns hl
  refine ⟨rfl, [], [.d (.list (ns.map .int))], [], ⟨rfl, fun n o q => ?_, .nil⟩, .cons ?_ .nil, ?_⟩
  · cases q
  · show Den K H (.list (ns.map .int)) (.ref a)
    simp only [Den]
    exact ⟨a, _, rfl, hf, denL_ints ns⟩
  · rw [e]
    intro μ1 v H1 _ d
    have d : Den K H1 (.bool true) v := d
    simpa only [Den] using d
section
variable {K : PySem.W.Frag} {C D : Addr} {b : Bool}
theorem kitCls_of (h2 : PySem.W.isClsIn K D = true) (h3 : PySem.W.typeIn K (.ref D) = some (.type "type")) (h4 : PySem.W.subIn K (.ref C) (.ref D) = some b) : PySem.W.kitCls K (.ref C) (.ref D) = some b := by
  have e2 : ((PySem.W.clsIn K D).isSome && PySem.W.typeIn K (.ref D) == some (.type "type")) = true := by
    have h2' : (PySem.W.clsIn K D).isSome = true := h2
    rw [h2', h3] <;> rfl
  show (if ((PySem.W.clsIn K D).isSome && PySem.W.typeIn K (.ref D) == some (.type "type")) = true then PySem.W.subIn K (.ref C) (.ref D) else none) = some b
  rw [if_pos e2]
  exact h4
theorem exm_of (h1 : PySem.W.subIn K (.ref D) (.type "BaseException") = some true) (h2 : PySem.W.isClsIn K D = true) (h3 : PySem.W.typeIn K (.ref D) = some (.type "type")) (h4 : PySem.W.subIn K (.ref C) (.ref D) = some b) : PySem.W.exmOne K (.ref C) (.ref D) = some b := by
  have e1 : (PySem.W.subIn K (.ref D) (.type "BaseException") == some true) = true := by rw [h1] <;> rfl
  unfold PySem.W.exmOne
  rw [if_pos e1]
  exact kitCls_of h2 h3 h4
theorem kit_of (h2 : PySem.W.isClsIn K D = true) (h3 : PySem.W.typeIn K (.ref D) = some (.type "type")) (h4 : PySem.W.subIn K (.ref C) (.ref D) = some b) (h : b = true ∨ ((Value.ref C) == (Value.ref D)) = false) : PySem.W.kitOne K (.ref C) (.ref D) = some b := by
  unfold PySem.W.kitOne
  by_cases e : ((Value.ref C) == (Value.ref D)) = true
  · rw [if_pos e]
    rcases h with rfl | h
    · rfl
    · rw [h] at e
      cases e
  · rw [if_neg e]
    exact kitCls_of h2 h3 h4
end
/-- for the goal that k_head leaves: the law's def does what its mirror says, and the mirror answers True -/
theorem walk_mirror {l : PySem.W.OpenLaw} {n k : Nat} {q : Program} {loose : List Str} {XP : (Str → Option Value) → Heap → Prop} {YP : World → Heap → Prop} {d : DefRec} {K : Params → PySem.W.Frag} {F : Fn} {x : Str}
    (hn : l.most = some n) (hn2 : n ≤ sizeLine) (hdf : d.params.defaults = []) (hr : RoomG k callerA) (hY : ∀ (w : World) (h : Heap), YP w h → (K w.params).In h)
    (hF : ∀ (w : World) (mg : Str → Option Value) (fa : Addr) (h : Heap), (K w.params).In h → h.Ns mainGlobals mg → mg d.name = some (.ref fa) → ∃ fd : FuncData, (∀ (s : Shared) (u : Value), BindsTo s fd ⟨[u], []⟩ [(x, u)]) ∧
      ∀ base : Heap, (K w.params).In base → base.Ns mainGlobals mg → FnG l.prog w (K w.params) mg base (L2N.CX l.prog w) k fa fd [x] (spC ⟨K w.params, w⟩ mg F 1))
    (h : ∀ ns : List Int, ns.length ≤ n → ∃ hp, F [.d (.list (ns.map .int))] [] = .ok (.d (.bool true)) hp) : PySem.W.WalkO q loose XP YP l.row.toRowW d [] (fun f vs => PySem.call f vs) :=
  walk_ofG hn hn2 hdf hr hY hF (fun _ _ _ _ _ hl _ hf => sp_law h hl hf) fun _ _ _ _ _ ⟨_, _, _, _, _, _, _, _, _, _, _, _, q⟩ => q
end Cl

set_option Elab.async false
set_option maxRecDepth 100000
set_option maxHeartbeats 2000000
/-! How a mirror is worked out: one equation for each word, at a state. -/
namespace Cl
open PySem PySem.Spec PyProof.Rows
section
variable {α β : Type}
def Res.bind (r : Res α) (f : α → Mo β) : Res β := match r with
  | .ok a c => f a c
  | .ex e c => .ex e c
  | .no => .no
def Res.sbind (r : Res α) (f : α → MS) : RS := match r with
  | .ok a c => f a c
  | .ex e c => .ex e c
  | .no => .no
def RS.seq (r : RS) (b : MS) : RS := match r with
  | .nx c1 => b c1
  | .rt x c1 => .rt x c1
  | .bk c1 => .bk c1
  | .ct c1 => .ct c1
  | .ex e c1 => .ex e c1
  | .no => .no
@[simp] theorem rb_ok {a : α} {c : CS} {f : α → Mo β} : Res.bind (.ok a c) f = f a c := rfl
@[simp] theorem rb_ex {e : XC} {c : CS} {f : α → Mo β} : Res.bind (.ex e c) f = .ex e c := rfl
@[simp] theorem rs_ok {a : α} {c : CS} {f : α → MS} : Res.sbind (.ok a c) f = f a c := rfl
@[simp] theorem rs_ex {e : XC} {c : CS} {f : α → MS} : Res.sbind (.ex e c) f = .ex e c := rfl
@[simp] theorem sq_nx {c : CS} {b : MS} : RS.seq (.nx c) b = b c := rfl
@[simp] theorem sq_rt {x : CV} {c : CS} {b : MS} : RS.seq (.rt x c) b = .rt x c := rfl
@[simp] theorem sq_bk {c : CS} {b : MS} : RS.seq (.bk c) b = .bk c := rfl
@[simp] theorem sq_ct {c : CS} {b : MS} : RS.seq (.ct c) b = .ct c := rfl
@[simp] theorem sq_ex {e : XC} {c : CS} {b : MS} : RS.seq (.ex e c) b = .ex e c := rfl
@[simp] theorem mBind_ap {m : Mo α} {f : α → Mo β} {c : CS} : mBind m f c = (m c).bind f := rfl
@[simp] theorem sBind_ap {m : Mo α} {f : α → MS} {c : CS} : sBind m f c = (m c).sbind f := rfl
@[simp] theorem sSeq_ap {a b : MS} {c : CS} : sSeq a b c = (a c).seq b := rfl
@[simp] theorem mRet_ap {a : α} {c : CS} : mRet a c = .ok a c := rfl
@[simp] theorem mOpt_some {a : α} {c : CS} : mOpt (some a) c = .ok a c := rfl
@[simp] theorem sNx_ap {c : CS} : sNx c = .nx c := rfl
@[simp] theorem sBk_ap {c : CS} : sBk c = .bk c := rfl
@[simp] theorem sCt_ap {c : CS} : sCt c = .ct c := rfl
@[simp] theorem sRetN_ap {c : CS} : sRetN c = .rt (.d .none) c := rfl
@[simp] theorem sDrop_ap {m : Mo CV} {c : CS} : sDrop m c = (m c).sbind fun _ => sNx := rfl
@[simp] theorem sRet_ap {m : Mo CV} {c : CS} : sRet m c = (m c).sbind fun x c => .rt x c := rfl
@[simp] theorem sIf_ap {m : Mo Bool} {a b : MS} {c : CS} : sIf m a b c = (m c).sbind fun k => if k then a else b := rfl
@[simp] theorem sSet_ap {i : Nat} {m : Mo CV} {c : CS} : sSet i m c = (m c).sbind fun x c => .nx (cSet i (.v x) c) := rfl
@[simp] theorem sOwn_ap {i : Nat} {m : Mo (List PyData)} {c : CS} : sOwn i m c = (m c).sbind fun x c => .nx (cSet i (.ol x) c) := rfl
@[simp] theorem sOwnD_ap {i : Nat} {m : Mo (List (PyData × PyData))} {c : CS} : sOwnD i m c = (m c).sbind fun x c => .nx (cSet i (.od x) c) := rfl
@[simp] theorem sRaise_ap {x : Str} {c : CS} : sRaise x c = .ex ⟨x, []⟩ c := rfl
@[simp] theorem cSet_mk {i : Nat} {x : Sl} {sl : List Sl} {hp : List CO} : cSet i x ⟨sl, hp⟩ = ⟨sl.set i x, hp⟩ := rfl
@[simp] theorem cNew_mk {o : CO} {sl : List Sl} {hp : List CO} : cNew o ⟨sl, hp⟩ = ⟨sl, hp ++ [o]⟩ := rfl
def rdV (s : Option Sl) (i : Nat) (c : CS) : Res CV := match s with
  | some (.v x) => .ok x c
  | some (.ol xs) => .ok (.d (.list xs)) { c with sl := c.sl.set i (.v (.d (.list xs))) }
  | some (.od kvs) => .ok (.d (.dict kvs)) { c with sl := c.sl.set i (.v (.d (.dict kvs))) }
  | _ => .no
@[simp] theorem mVar_ap {i : Nat} {sl : List Sl} {hp : List CO} : mVar i ⟨sl, hp⟩ = rdV sl[i]? i ⟨sl, hp⟩ := rfl
@[simp] theorem rdV_v {x : CV} {i : Nat} {c : CS} : rdV (some (.v x)) i c = .ok x c := rfl
@[simp] theorem rdV_ol {xs : List PyData} {i : Nat} {sl : List Sl} {hp : List CO} : rdV (some (.ol xs)) i ⟨sl, hp⟩ = .ok (.d (.list xs)) ⟨sl.set i (.v (.d (.list xs))), hp⟩ := rfl
@[simp] theorem rdV_od {xs : List (PyData × PyData)} {i : Nat} {sl : List Sl} {hp : List CO} : rdV (some (.od xs)) i ⟨sl, hp⟩ = .ok (.d (.dict xs)) ⟨sl.set i (.v (.d (.dict xs))), hp⟩ := rfl
def rdP (s : Option Sl) (c : CS) : Res BV := match s with
  | some (.v x) => .ok (.c x) c
  | some (.ol xs) => .ok (.l xs) c
  | some (.od kvs) => .ok (.k kvs) c
  | _ => .no
@[simp] theorem mPeek_ap {i : Nat} {sl : List Sl} {hp : List CO} : mPeek i ⟨sl, hp⟩ = rdP sl[i]? ⟨sl, hp⟩ := rfl
@[simp] theorem rdP_v {x : CV} {c : CS} : rdP (some (.v x)) c = .ok (.c x) c := rfl
@[simp] theorem rdP_ol {xs : List PyData} {c : CS} : rdP (some (.ol xs)) c = .ok (.l xs) c := rfl
@[simp] theorem rdP_od {xs : List (PyData × PyData)} {c : CS} : rdP (some (.od xs)) c = .ok (.k xs) c := rfl
@[simp] theorem mC_ap {x : PyData} {c : CS} : mC x c = .ok (.d x) c := rfl
@[simp] theorem mBo_ap {m : Mo CV} {c : CS} : mBo m c = (m c).bind fun x => mRet (.c x) := rfl
@[simp] theorem mBf_ap {m : Mo (List PyData)} {c : CS} : mBf m c = (m c).bind fun x => mRet (.l x) := rfl
@[simp] theorem mBd_ap {m : Mo (List (PyData × PyData))} {c : CS} : mBd m c = (m c).bind fun x => mRet (.k x) := rfl
@[simp] theorem mFz_ap {m : Mo (List PyData)} {c : CS} : mFz m c = (m c).bind fun x => mRet (.d (.list x)) := rfl
@[simp] theorem mFd_ap {m : Mo (List (PyData × PyData))} {c : CS} : mFd m c = (m c).bind fun x => mRet (.d (.dict x)) := rfl
@[simp] theorem lift2_ap {g : PyData → PyData → Option PyData} {x y : PyData} {c : CS} : lift2 g (.d x) (.d y) c = mOpt ((g x y).map .d) c := rfl
@[simp] theorem m2_ap {g : CV → CV → Mo CV} {a b : Mo CV} {c : CS} : m2 g a b c = (a c).bind fun x => mBind b fun y => g x y := rfl
@[simp] theorem m2b_ap {g : CV → BV → Mo CV} {a : Mo CV} {b : Mo BV} {c : CS} : m2b g a b c = (a c).bind fun x => mBind b fun y => g x y := rfl
@[simp] theorem asB_ap {b : Bool} {c : CS} : asB (.d (.bool b)) c = .ok b c := rfl
@[simp] theorem asI_ap {b : Int} {c : CS} : asI (.d (.int b)) c = .ok b c := rfl
@[simp] theorem mTru_ap {m : Mo CV} {c : CS} : mTru m c = (m c).bind asB := rfl
@[simp] theorem mChain_ap {g g' : CV → CV → Mo CV} {a b d : Mo CV} {c : CS} : mChain g g' a b d c = (a c).bind fun x => mBind b fun y => mBind (mTru (g x y)) fun k => if k then mBind d fun z => g' y z else mRet (.d (.bool false)) := rfl
@[simp] theorem mAnd_ap {a b : Mo Bool} {c : CS} : mAnd a b c = (a c).bind fun k => if k then b else mRet false := rfl
@[simp] theorem mOr_ap {a b : Mo Bool} {c : CS} : mOr a b c = (a c).bind fun k => if k then mRet true else b := rfl
@[simp] theorem mNot_ap {a : Mo Bool} {c : CS} : mNot a c = (a c).bind fun k => mRet (!k) := rfl
@[simp] theorem mAndV_ap {a b : Mo CV} {c : CS} : mAndV a b c = (mTru a c).bind fun k => if k then b else mRet (.d (.bool false)) := rfl
@[simp] theorem mOrV_ap {a b : Mo CV} {c : CS} : mOrV a b c = (mTru a c).bind fun k => if k then mRet (.d (.bool true)) else b := rfl
@[simp] theorem mNotV_ap {a : Mo CV} {c : CS} : mNotV a c = (mTru a c).bind fun k => mRet (.d (.bool (!k))) := rfl
@[simp] theorem mIf_ap {m : Mo Bool} {a b : Mo α} {c : CS} : mIf m a b c = (m c).bind fun k => if k then a else b := rfl
@[simp] theorem mNil_ap {c : CS} : mNil c = .ok [] c := rfl
@[simp] theorem mCons_ap {a : Mo CV} {r : Mo (List CV)} {c : CS} : mCons a r c = (a c).bind fun x => mBind r fun xs => mRet (x :: xs) := rfl
@[simp] theorem mStar_ap {a : Mo BV} {r : Mo (List CV)} {c : CS} : mStar a r c = (a c).bind fun y => mBind (itemsOf y) fun xs => mBind r fun ys => mRet (xs ++ ys) := rfl
@[simp] theorem itemsOf_t {xs : List PyData} {c : CS} : itemsOf (.c (.d (.tuple xs))) c = .ok (xs.map .d) c := rfl
@[simp] theorem itemsOf_d {xs : List PyData} {c : CS} : itemsOf (.c (.d (.list xs))) c = .ok (xs.map .d) c := rfl
@[simp] theorem itemsOf_l {xs : List PyData} {c : CS} : itemsOf (.l xs) c = .ok (xs.map .d) c := rfl
@[simp] theorem mTup_ap {m : Mo (List CV)} {c : CS} : mTup m c = (m c).bind fun xs => mOpt (mkT xs) := rfl
@[simp] theorem mLst_ap {m : Mo (List CV)} {c : CS} : mLst m c = (m c).bind fun xs => mOpt (mkL xs) := rfl
@[simp] theorem mNewL_ap {m : Mo (List PyData)} {c : CS} : mNewL m c = (m c).bind fun xs c => .ok (.r c.hp.length) (cNew (.lst (xs.map .d)) c) := rfl
@[simp] theorem mNewD_ap {m : Mo (List CV)} {c : CS} : mNewD m c = (m c).bind fun xs c => if xs.length ≤ 1000 then .ok (.r c.hp.length) (cNew (.lst xs) c) else .no := rfl
@[simp] theorem mIxG_ap {a b : Mo CV} {c : CS} : mIxG a b c = (a c).bind fun x => mBind b fun y => gIxG (.c x) y := rfl
@[simp] theorem mIxNG_ap {i : Nat} {b : Mo CV} {c : CS} : mIxNG i b c = (mPeek i c).bind fun _ => mBind b fun y => mBind (mPeek i) fun x => gIxG x y := rfl
@[simp] theorem mPart_ap {m : Mo CV} {c : CS} {i : Int} {c1 : CS} (h : m c = .ok (.d (.int i)) c1) : mPart m c = .ok (some i) c1 := by
  show Res.bind (m c) _ = _
  rw [h]
  rfl
@[simp] theorem mSl_ap {a : Mo CV} {l h : Mo (Option Int)} {c : CS} : mSl a l h c = (a c).bind fun x => mBind l fun lo => mBind h fun hi => mOpt ((pSl x lo hi).map .d) := rfl
@[simp] theorem mItems_ap {m : Mo CV} {c : CS} : mItems m c = (m c).bind fun x => mOpt (vItems x) := rfl
@[simp] theorem mRg1_ap {m : Mo CV} {c : CS} : mRg1 m c = (m c).bind fun x => mBind (asI x) fun j => if okRg j then mRet (rgL 0 j.toNat) else fun _ => .no := rfl
@[simp] theorem mRg2_ap {a b : Mo CV} {c : CS} : mRg2 a b c = (a c).bind fun x => mBind b fun y => mBind (asI x) fun i => mBind (asI y) fun j => if okRg i && okRg j then mRet (rgL i (j - i).toNat) else fun _ => .no := rfl
@[simp] theorem sFor_ap {m : Mo (List PyData)} {g : Tg} {b : MS} {c : CS} : sFor m g b c = (m c).sbind fun xs => forL g.f b xs := rfl
@[simp] theorem mCall_ap {n : Nat} {F : Fn} {m : Mo (List CV)} {c : CS} : mCall n F m c = (m c).bind (runF n F) := rfl
def FR.back (r : FR) (c : CS) : Res CV := match r with
  | .ok x hp => .ok x { c with hp := hp }
  | .ex e hp => .ex e { c with hp := hp }
  | .no => .no
theorem runF_ap {n : Nat} {F : Fn} {xs : List CV} {c : CS} (h : xs.length = n) : runF n F xs c = (F xs c.hp).back c := by
  unfold runF
  rw [if_pos h]
  rfl
@[simp] theorem back_ok {x : CV} {hp hp' : List CO} {sl : List Sl} : FR.back (.ok x hp) ⟨sl, hp'⟩ = .ok x ⟨sl, hp⟩ := rfl
@[simp] theorem back_ex {e : XC} {hp hp' : List CO} {sl : List Sl} : FR.back (.ex e hp) ⟨sl, hp'⟩ = .ex e ⟨sl, hp⟩ := rfl
@[simp] theorem gNeg_ap {i : Int} {c : CS} : gNeg (.d (.int i)) c = .ok (.d (.int (-i))) c := rfl
@[simp] theorem mApp_ap {i : Nat} {m : Mo CV} {c : CS} : mApp i m c = (chkL i c).bind fun _ => mBind m fun y => onList i (apD y) (apC y) := rfl
@[simp] theorem mExt_ap {i : Nat} {m : Mo BV} {c : CS} : mExt i m c = (chkL i c).bind fun _ => mBind m fun y => onList i (exD y) (exC y) := rfl
@[simp] theorem mPopO_ap {m a : Mo CV} {c : CS} : mPopO m a c = (m c).bind fun x => mBind (chkO x) fun _ => mBind a fun y => mBind (asI y) fun k => onObj x (ppC k) := rfl
@[simp] theorem sPutG_ap {i : Nat} {k m : Mo CV} {c : CS} : sPutG i k m c = (m c).sbind fun y => sBind (mPeek i) fun _ => sBind k fun k => sBind (gPutG i k y) fun _ => sNx := rfl
@[simp] theorem gO_ap {f : BV → List CO → Option α} {g : α → β} {y : BV} {sl : List Sl} {hp : List CO} : gO f g y ⟨sl, hp⟩ = mOpt ((f y hp).map g) ⟨sl, hp⟩ := by
  show (match f y hp with
    | some z => Res.ok (g z) _
    | none => .no) = _
  cases f y hp <;> rfl
end
@[simp] theorem pAdd_int {i j : Int} : pAdd (.int i) (.int j) = some (.int (i + j)) := rfl
@[simp] theorem pSub_int {i j : Int} : pSub (.int i) (.int j) = some (.int (i - j)) := rfl
@[simp] theorem pLt_int {i j : Int} : pLt (.int i) (.int j) = some (.bool (decide (i < j))) := rfl
@[simp] theorem pGt_int {i j : Int} : pGt (.int i) (.int j) = some (.bool (decide (j < i))) := rfl
@[simp] theorem pLe_int {i j : Int} : pLe (.int i) (.int j) = some (.bool (decide (i ≤ j))) := rfl
@[simp] theorem pGe_int {i j : Int} : pGe (.int i) (.int j) = some (.bool (decide (j ≤ i))) := rfl
theorem pI2_ap {C : Int → Int → Bool} {f : Int → Int → PyData} {i j : Int} (h : C i j = true) : pI2 C f (.int i) (.int j) = some (f i j) := by
  show (if C i j then some (f i j) else none) = _
  rw [if_pos h]
@[simp] theorem pMod_int {i j : Int} (h : 0 < j) : pMod (.int i) (.int j) = some (.int (i % j)) := pI2_ap (decide_eq_true h)
@[simp] theorem pDiv_int {i j : Int} (h : 0 < j) (h2 : j < 1073741824) : pDiv (.int i) (.int j) = some (.int (i / j)) := pI2_ap (by rw [decide_eq_true h, decide_eq_true h2]; rfl)
theorem pMul_int {i j : Int} (h : (-(2 ^ 64) < j ∧ j < 2 ^ 64) ∨ (-(2 ^ 64) < i ∧ i < 2 ^ 64)) : pMul (.int i) (.int j) = some (.int (i * j)) := pI2_ap (by
  rcases h with ⟨h1, h2⟩ | ⟨h1, h2⟩
  · rw [decide_eq_true h1, decide_eq_true h2, Bool.and_self, Bool.or_true]
  · rw [decide_eq_true h1, decide_eq_true h2, Bool.and_self, Bool.true_or])
theorem pMulT_int {i j : Int} (h : (-(2 ^ 64) < j ∧ j < 2 ^ 64) ∨ (-(2 ^ 64) < i ∧ i < 2 ^ 64)) : pMulT (.int i) (.int j) = some (.int (i * j)) := pMul_int h
@[simp] theorem pEq_int {i j : Int} : pEq (.int i) (.int j) = some (.bool (decide (i = j))) := by
  unfold pEq
  rw [if_pos ⟨rfl, rfl, by exact Nat.le_trans (Nat.min_le_left _ _) (by show (0 : Nat) ≤ 60; decide)⟩]
  congr 2
@[simp] theorem pNe_int {i j : Int} : pNe (.int i) (.int j) = some (.bool (!decide (i = j))) := by
  unfold pNe
  rw [if_pos ⟨rfl, rfl, by exact Nat.le_trans (Nat.min_le_left _ _) (by show (0 : Nat) ≤ 60; decide)⟩]
  congr 2
theorem ixg_list {xs : List PyData} {i : Int} {c : CS} {x : PyData} (h : L2.atI xs i = some x) : gIxG (.c (.d (.list xs))) (.d (.int i)) c = .ok (.d x) c := by
  show (match (L2.atI xs i).map CV.d with
    | some z => Res.ok z c
    | none => .no) = _
  rw [h]
  rfl
theorem ixg_ref {n : Nat} {xs : List CV} {i : Int} {sl : List Sl} {hp : List CO} {x : CV} (e : hp[n]? = some (.lst xs)) (h : L2.atI xs i = some x) : gIxG (.c (.r n)) (.d (.int i)) ⟨sl, hp⟩ = .ok x ⟨sl, hp⟩ := by
  have e1 : bDic (.c (.r n)) hp = none := by
    show (match hp[n]? with
      | some (.dic kvs) => some kvs
      | _ => none) = none
    rw [e]
  have e2 : pIx (.c (.r n)) i hp = some x := by
    show (match hp[n]? with
      | some (.lst xs) => L2.atI xs i
      | _ => none) = _
    rw [e]
    exact h
  show (match bDic (.c (.r n)) hp with
    | some kvs => _
    | none => gIx (.c (.r n)) (.d (.int i)) ⟨sl, hp⟩) = _
  rw [e1]
  show (match pIx (.c (.r n)) i hp with
    | some z => Res.ok z _
    | none => .no) = _
  rw [e2]
theorem putg_ref {n i : Nat} {xs ys : List CV} {k : Int} {y : CV} {sl : List Sl} {hp : List CO} (hi : sl[i]? = some (.v (.r n))) (e : hp[n]? = some (.lst xs)) (h : stC k y xs = some (ys, .d .none)) :
    gPutG i (.d (.int k)) y ⟨sl, hp⟩ = .ok (.d .none) ⟨sl, hp.set n (.lst ys)⟩ := by
  unfold gPutG
  simp only [hi, e]
  unfold onList
  simp only [hi, e, h]
def m_next : MS :=
  (sSeq (sPutG 0 (mC (.int 1)) (m2 (lift2 pAdd) (mIxNG 0 (mC (.int 1))) (mC (.int 1))))
  (sSeq (sSet 2 (m2 (lift2 pDiv) (mIxNG 0 (mC (.int 1))) (mBind (mBo (mIxNG 0 (mC (.int 0)))) gLen)))
  (sRet (m2 (lift2 pMod) (mBind (mBo (m2 (lift2 pAdd) (m2 (lift2 pAdd) (mIxG (mIxNG 0 (mC (.int 0))) (m2 (lift2 pMod) (mIxNG 0 (mC (.int 1))) (mBind (mBo (mIxNG 0 (mC (.int 0)))) gLen))) (m2 (lift2 pMulT) (mVar 2) (mC (.int 389)))) (m2 (lift2 pMulT) (m2 (lift2 pMulT) (mIxNG 0 (mC (.int 1))) (mVar 2)) (mC (.int 17))))) gInt) (mVar 1)))))
def F_next : Fn := fnOf m_next 3
def m_stream : MS :=
  (sSeq (sOwn 1 (mLst mNil))
  (sSeq (sFor (mItems (mFz (mSlL (mVar 0) (mRet none) (mPart (mC (.int 63)))))) (gN 2)
  (sSeq (sSet 3 (mBind (mBo (mBind (mPeek 2) gInt)) gAbs))
  (sIf (mTru (m2 (lift2 pGe) (mVar 3) (m2 (lift2 pPow) (mC (.int 10)) (mC (.int 18))))) (sFor (mRg1 (mC (.int 60))) (gN 4)
  (sSeq (sDrop (mApp 1 (m2 (lift2 pMod) (mBind (mPeek 3) gInt) (mC (.int 1009)))))
  (sSeq (sSet 3 (m2 (lift2 pDiv) (mVar 3) (mC (.int 1009))))
  (sIf (mTru (m2 (lift2 pEq) (mVar 3) (mC (.int 0)))) sBk sNx)))) (sSeq (sSet 5 (m2 (lift2 pMod) (mBind (mPeek 3) gInt) (mC (.int 2147483647))))
  (sFor (mRg1 (mC (.int 10))) (gN 4)
  (sSeq (sSet 5 (m2 (lift2 pMod) (mBind (mBo (m2 (lift2 pAdd) (m2 (lift2 pAdd) (m2 (lift2 pMulT) (mVar 5) (mC (.int 48271))) (m2 (lift2 pMulT) (mC (.int 7)) (mVar 4))) (mC (.int 11)))) gInt) (mC (.int 2147483647))))
  (sDrop (mApp 1 (m2 (lift2 pMod) (m2 (lift2 pMod) (mBind (mBo (m2 (lift2 pAdd) (m2 (lift2 pMulT) (mVar 5) (mC (.int 69621))) (mVar 4))) gInt) (mC (.int 2147483629))) (mC (.int 1009)))))))))))
  (sSeq (sIf (mTru (m2 (lift2 pEq) (mBind (mPeek 1) gLen) (mC (.int 0)))) (sDrop (mApp 1 (mC (.int 0)))) sNx)
  (sRet (mVar 1)))))
def F_stream : Fn := fnOf m_stream 6
def stO (nums : List Int) (c : Int) : CO := .lst [.d (.list (nums.map .int)), .d (.int c)]
/-- the number that the stream gives at a place -/
def nextV (nums : List Int) (c m : Int) : Int := (nums.getD ((c + 1) % nums.length).toNat 0 + (c + 1) / nums.length * 389 + (c + 1) * ((c + 1) / nums.length) * 17) % m
theorem next_eq {hp : List CO} {n : Nat} {nums : List Int} {c m : Int} (hn : nums ≠ []) (hl : nums.length ≤ 4000) (hc : 0 ≤ c) (hc2 : c ≤ 1000000) (hm : 0 < m) (h : hp[n]? = some (stO nums c)) :
    F_next [.r n, .d (.int m)] hp = .ok (.d (.int (nextV nums c m))) (hp.set n (stO nums (c + 1))) := by
  have hlt : n < hp.length := by
    rcases Nat.lt_or_ge n hp.length with h1 | h1
    · exact h1
    · rw [List.getElem?_eq_none h1] at h
      cases h
  have h2 : (hp.set n (stO nums (c + 1)))[n]? = some (stO nums (c + 1)) := by rw [List.getElem?_set_self hlt]
  have a0 : ∀ c, L2.atI [CV.d (.list (nums.map .int)), .d (.int c)] 0 = some (.d (.list (nums.map .int))) := fun _ => rfl
  have a1 : ∀ c, L2.atI [CV.d (.list (nums.map .int)), .d (.int c)] 1 = some (.d (.int c)) := fun _ => rfl
  have p1 : stC 1 (.d (.int (c + 1))) [CV.d (.list (nums.map .int)), .d (.int c)] = some ([CV.d (.list (nums.map .int)), .d (.int (c + 1))], .d .none) := rfl
  have hL : 0 < (nums.length : Int) := by
    cases nums with
    | nil => exact absurd rfl hn
    | cons _ _ => exact Int.natCast_pos.mpr (Nat.succ_pos _)
  have hL2 : (nums.length : Int) < 1073741824 := by omega
  have q0 : 0 ≤ (c + 1) / (nums.length : Int) := Int.ediv_nonneg (by omega) (by omega)
  have q1 : (c + 1) / (nums.length : Int) ≤ c + 1 := Int.ediv_le_self _ (by omega)
  have r0 := Int.emod_nonneg (c + 1) (b := (nums.length : Int)) (by omega)
  have r1 := Int.emod_lt_of_pos (c + 1) hL
  have at1 : L2.atI (nums.map PyData.int) ((c + 1) % (nums.length : Int)) = some (.int (nums.getD ((c + 1) % nums.length).toNat 0)) := by
    unfold L2.atI L2.ixN
    rw [List.length_map, if_pos r0, if_pos r1]
    show (nums.map PyData.int)[((c + 1) % (nums.length : Int)).toNat]? = _
    rw [List.getElem?_map, List.getD_eq_getElem?_getD]
    have : ((c + 1) % (nums.length : Int)).toNat < nums.length := by omega
    rw [List.getElem?_eq_getElem this]
    rfl
  have m1 : pMulT (.int ((c + 1) / (nums.length : Int))) (.int 389) = some (.int ((c + 1) / (nums.length : Int) * 389)) := pMulT_int (.inl (by decide))
  have m2 : pMulT (.int (c + 1)) (.int ((c + 1) / (nums.length : Int))) = some (.int ((c + 1) * ((c + 1) / (nums.length : Int)))) := pMulT_int (.inl (by omega))
  have m3 : pMulT (.int ((c + 1) * ((c + 1) / (nums.length : Int)))) (.int 17) = some (.int ((c + 1) * ((c + 1) / (nums.length : Int)) * 17)) := pMulT_int (.inl (by decide))
  unfold F_next fnOf m_next
  have pt : ∀ sl : List Sl, sl[0]? = some (.v (.r n)) → gPutG 0 (.d (.int 1)) (.d (.int (c + 1))) ⟨sl, hp⟩ = .ok (.d .none) ⟨sl, hp.set n (stO nums (c + 1))⟩ := fun sl e => putg_ref e h p1
  have d1 : pDiv (.int (c + 1)) (.int (nums.length : Int)) = _ := pDiv_int hL hL2
  have d2 : pMod (.int (c + 1)) (.int (nums.length : Int)) = _ := pMod_int hL
  simp [d1, d2, nextV, ixg_ref h (a1 _), pt, ixg_ref h2 (a1 _), ixg_ref h2 (a0 _), lenB, bIntB, hL, hL2, gLen, gInt, m1, m2, m3, ixg_list at1, hm]
/-! ### loops -/
/-- a loop's outcome: I holds behind each turn; R tells what the loop's end is -/
theorem forL_inv {g : CV → CS → Option CS} {body : MS} {xs : List PyData} {c : CS} (I : List PyData → CS → Prop) (R : RS → Prop) (h0 : I [] c)
    (h : ∀ pre x post c, xs = pre ++ x :: post → I pre c → ∃ c1, g (.d x) c = some c1 ∧ match body c1 with
      | .nx c2 => I (pre ++ [x]) c2
      | .ct c2 => I (pre ++ [x]) c2
      | .bk c2 => R (.nx c2)
      | .rt y c2 => R (.rt y c2)
      | .ex e c2 => R (.ex e c2)
      | .no => False)
    (he : ∀ c, I xs c → R (.nx c)) : R (forL g body xs c) := by
  suffices ∀ (post pre : List PyData) (c : CS), xs = pre ++ post → I pre c → R (forL g body post c) from this xs [] c rfl h0
  intro post
  induction post with
  | nil =>
    intro pre c e i
    rw [List.append_nil] at e
    subst e
    exact he c i
  | cons x post ih =>
    intro pre c e i
    obtain ⟨c1, e1, q⟩ := h pre x post c e i
    have e' : xs = (pre ++ [x]) ++ post := by rw [e, List.append_assoc]; rfl
    unfold forL
    rw [e1]
    show R (match body c1 with
      | .nx c2 => forL g body post c2
      | .ct c2 => forL g body post c2
      | .bk c2 => .nx c2
      | .rt y c2 => .rt y c2
      | .ex e c2 => .ex e c2
      | .no => .no)
    cases eb : body c1 with
    | nx c2 => rw [eb] at q; exact ih _ _ e' q
    | ct c2 => rw [eb] at q; exact ih _ _ e' q
    | bk c2 => rw [eb] at q; exact q
    | rt y c2 => rw [eb] at q; exact q
    | ex y c2 => rw [eb] at q; exact q
    | no => rw [eb] at q; exact q.elim
@[simp] theorem gN_f {i : Nat} {x : CV} {c : CS} : (gN i).f x c = some (cSet i (.v x) c) := rfl
def chkS (s : Option Sl) (c : CS) : Res Unit := match s with
  | some (.ol _) => .ok () c
  | some (.v (.r n)) => match c.hp[n]? with
    | some (.lst _) => .ok () c
    | _ => .no
  | _ => .no
@[simp] theorem chkL_ap {i : Nat} {sl : List Sl} {hp : List CO} : chkL i ⟨sl, hp⟩ = chkS sl[i]? ⟨sl, hp⟩ := rfl
@[simp] theorem chkS_ol {xs : List PyData} {c : CS} : chkS (some (.ol xs)) c = .ok () c := rfl
def onSl (s : Option Sl) (i : Nat) (f : List PyData → Option (List PyData × PyData)) (g : List CV → Option (List CV × CV)) (c : CS) : Res CV := match s with
  | some (.ol xs) => match f xs with
    | some (ys, z) => .ok (.d z) (cSet i (.ol ys) c)
    | none => .no
  | some (.v (.r n)) => match c.hp[n]? with
    | some (.lst xs) => match g xs with
      | some (ys, z) => .ok z { c with hp := c.hp.set n (.lst ys) }
      | none => .no
    | _ => .no
  | _ => .no
@[simp] theorem onList_ap {i : Nat} {f : List PyData → Option (List PyData × PyData)} {g : List CV → Option (List CV × CV)} {sl : List Sl} {hp : List CO} : onList i f g ⟨sl, hp⟩ = onSl sl[i]? i f g ⟨sl, hp⟩ := rfl
theorem onSl_app {i : Nat} {sl : List Sl} {hp : List CO} {xs : List PyData} {y : PyData} {g : List CV → Option (List CV × CV)} (hl : xs.length < 16777216) : onSl (some (.ol xs)) i (apD (.d y)) g ⟨sl, hp⟩ = .ok (.d .none) ⟨sl.set i (.ol (xs ++ [y])), hp⟩ := by
  unfold onSl
  simp only [apD, if_pos hl]
  rfl
theorem onSl_ext {i : Nat} {sl : List Sl} {hp : List CO} {xs ys : List PyData} {g : List CV → Option (List CV × CV)} (hl : xs.length + ys.length ≤ 16777216) : onSl (some (.ol xs)) i (exD (.l ys)) g ⟨sl, hp⟩ = .ok (.d .none) ⟨sl.set i (.ol (xs ++ ys)), hp⟩ := by
  unfold onSl
  simp only [exD, if_pos hl]
  rfl
/-! ### a statement's run, read against what is wanted of its end -/
structure Wp (D : RS → Prop) (m : MS) (c : CS) : Prop where
  out : D (m c)
/-- behind a: b -/
def aft (D : RS → Prop) (b : MS) : RS → Prop := fun r => match r with
  | .nx c => Wp D b c
  | r => D r
section
variable {D : RS → Prop} {c c1 : CS} {a b : MS} {i : Nat}
theorem go (h : Wp D b c) : aft D b (.nx c) := h
theorem Wp.seq (h : Wp (aft D b) a c) : Wp D (sSeq a b) c := by
  have h := h.out
  refine ⟨?_⟩
  rw [sSeq_ap]
  cases e : a c <;> (rw [e] at h; first | exact h | exact Wp.out h)
theorem Wp.set {m : Mo CV} {x : CV} (e : m c = .ok x c1) (h : D (.nx (cSet i (.v x) c1))) : Wp D (sSet i m) c := by
  refine ⟨?_⟩
  rw [sSet_ap, e]
  exact h
theorem Wp.own {m : Mo (List PyData)} {x : List PyData} (e : m c = .ok x c1) (h : D (.nx (cSet i (.ol x) c1))) : Wp D (sOwn i m) c := by
  refine ⟨?_⟩
  rw [sOwn_ap, e]
  exact h
theorem Wp.drop {m : Mo CV} {x : CV} (e : m c = .ok x c1) (h : D (.nx c1)) : Wp D (sDrop m) c := by
  refine ⟨?_⟩
  rw [sDrop_ap, e]
  exact h
theorem Wp.ret {m : Mo CV} {x : CV} (e : m c = .ok x c1) (h : D (.rt x c1)) : Wp D (sRet m) c := by
  refine ⟨?_⟩
  rw [sRet_ap, e]
  exact h
theorem Wp.retX {m : Mo CV} {x : XC} (e : m c = .ex x c1) (h : D (.ex x c1)) : Wp D (sRet m) c := by
  refine ⟨?_⟩
  rw [sRet_ap, e]
  exact h
theorem Wp.dropX {m : Mo CV} {x : XC} (e : m c = .ex x c1) (h : D (.ex x c1)) : Wp D (sDrop m) c := by
  refine ⟨?_⟩
  rw [sDrop_ap, e]
  exact h
theorem Wp.ift {m : Mo Bool} (e : m c = .ok true c1) (h : Wp D a c1) : Wp D (sIf m a b) c := by
  refine ⟨?_⟩
  rw [sIf_ap, e]
  exact h.out
theorem Wp.iff {m : Mo Bool} (e : m c = .ok false c1) (h : Wp D b c1) : Wp D (sIf m a b) c := by
  refine ⟨?_⟩
  rw [sIf_ap, e]
  exact h.out
theorem Wp.ite {m : Mo Bool} {k : Bool} (e : m c = .ok k c1) (h : k = true → Wp D a c1) (h' : k = false → Wp D b c1) : Wp D (sIf m a b) c := by
  cases k with
  | true => exact .ift e (h rfl)
  | false => exact .iff e (h' rfl)
theorem Wp.nx (h : D (.nx c)) : Wp D sNx c := ⟨h⟩
theorem Wp.bk (h : D (.bk c)) : Wp D sBk c := ⟨h⟩
theorem Wp.raise {x : Str} (h : D (.ex ⟨x, []⟩ c)) : Wp D (sRaise x) c := ⟨h⟩
theorem Wp.put {k m : Mo CV} {x y : CV} {c2 c3 : CS} {z : CV} {q : BV} {c1' : CS} (e1 : m c = .ok x c1) (e2 : mPeek i c1 = .ok q c1') (e3 : k c1' = .ok y c2) (e4 : gPutG i y x c2 = .ok z c3) (h : D (.nx c3)) : Wp D (sPutG i k m) c := by
  refine ⟨?_⟩
  rw [sPutG_ap, e1, rs_ok, sBind_ap, e2, rs_ok, sBind_ap, e3, rs_ok, sBind_ap, e4]
  exact h
/-- what a turn of a loop must do -/
def trn (I : CS → Prop) (D : RS → Prop) : RS → Prop := fun r => match r with
  | .nx c2 => I c2
  | .ct c2 => I c2
  | .bk c2 => D (.nx c2)
  | .rt y c2 => D (.rt y c2)
  | .ex e c2 => D (.ex e c2)
  | .no => False
theorem Wp.for {m : Mo (List PyData)} {g : Tg} {xs : List PyData} (e : m c = .ok xs c1) (I : List PyData → CS → Prop) (h0 : I [] c1)
    (h : ∀ pre x post c, xs = pre ++ x :: post → I pre c → ∃ c1, g.f (.d x) c = some c1 ∧ Wp (trn (I (pre ++ [x])) D) a c1) (he : ∀ c, I xs c → D (.nx c)) : Wp D (sFor m g a) c := by
  refine ⟨?_⟩
  rw [sFor_ap, e]
  refine forL_inv I D h0 (fun pre x post c q i => ?_) he
  obtain ⟨c1, e1, w⟩ := h pre x post c q i
  refine ⟨c1, e1, ?_⟩
  have w := w.out
  unfold trn at w
  exact w
end
/-- how a def's run ends -/
def fin (r : RS) : FR := match r with
  | .nx c => .ok (.d .none) c.hp
  | .rt x c => .ok x c.hp
  | .ex e c => .ex e c.hp
  | _ => .no
theorem fn_wp {m : MS} {n : Nat} {xs : List CV} {hp : List CO} {P : FR → Prop} (h : Wp (fun r => P (fin r)) m ⟨xs.map .v ++ List.replicate (n - xs.length) .un, hp⟩) : P (fnOf m n xs hp) := h.out
end Cl

set_option Elab.async false
set_option maxRecDepth 100000
set_option maxHeartbeats 2000000
namespace Cl
open PySem PySem.Spec PyProof.Rows
/-- numbers as the stream has them -/
def Small (xs : List Int) : Prop := ∀ x ∈ xs, 0 ≤ x ∧ x < 1009
theorem Small.add {xs : List Int} (h : Small xs) (y : Int) : Small (xs ++ [y % 1009]) := fun x m => by
  rcases List.mem_append.mp m with m | m
  · exact h x m
  · have := List.mem_singleton.mp m
    omega
theorem mem_rgL {a : Int} {n : Nat} {x : PyData} (h : x ∈ rgL a n) : ∃ i : Int, x = .int i := by
  unfold rgL at h
  obtain ⟨i, _, rfl⟩ := List.mem_map.mp h
  exact ⟨_, rfl⟩
theorem len_rgL {a : Int} {n : Nat} : (rgL a n).length = n := by
  unfold rgL
  rw [List.length_map, List.length_range]

/-- the stream's numbers so far, in slot 1 of 6 -/
def StI (scr : CV) (hp : List CO) (k : Nat) (c : CS) : Prop := ∃ (nums : List Int) (s2 s3 s4 s5 : Sl), c = ⟨[.v scr, .ol (nums.map .int), s2, s3, s4, s5], hp⟩ ∧ nums.length ≤ k ∧ Small nums
theorem pAdd_mod {y : Int} {nums : List Int} : (nums.map PyData.int) ++ [.int y] = (nums ++ [y]).map PyData.int := by
  rw [List.map_append]
  rfl
theorem StI.more {scr : CV} {hp : List CO} {k : Nat} {nums : List Int} {r : Int} {s2 s3 s4 s5 : Sl} (hl : nums.length + 1 ≤ k) (hs : Small nums) : StI scr hp k ⟨[.v scr, .ol (nums.map .int ++ [.int (r % 1009)]), s2, s3, s4, s5], hp⟩ :=
  ⟨nums ++ [r % 1009], s2, s3, s4, s5, by rw [← pAdd_mod], by rw [List.length_append]; exact hl, hs.add r⟩
theorem stream_eq {ns : List Int} (hl : ns.length ≤ 63) (hp : List CO) : ∃ nums : List Int, nums ≠ [] ∧ nums.length ≤ 4000 ∧ F_stream [.d (.list (ns.map .int))] hp = .ok (.d (.list (nums.map .int))) hp := by
  refine fn_wp (m := m_stream) (n := 6) (P := fun r => ∃ nums : List Int, nums ≠ [] ∧ nums.length ≤ 4000 ∧ r = .ok (.d (.list (nums.map .int))) hp) ?_
  refine .seq (.own rfl (go (.seq (.for (xs := ns.map .int) ?_ (fun pre c => StI (.d (.list (ns.map .int))) hp (60 * pre.length) c) ⟨[], .un, .un, .un, .un, rfl, by decide, fun x m => by cases m⟩ ?_ ?_))))
  · show Res.ok (cutP (ns.map .int) none (some 63)) _ = _
    have : cutP (ns.map PyData.int) none (some 63) = ns.map .int := by
      unfold cutP
      rw [show HT.sIx (ns.map PyData.int).length 0 none = 0 from rfl, show HT.sIx (ns.map PyData.int).length (ns.map PyData.int).length (some 63) = min 63 (ns.map PyData.int).length from rfl, List.length_map, Nat.min_eq_right hl, List.drop_zero]
      exact List.take_of_length_le (by rw [List.length_map]; exact Nat.le_refl _)
    rw [this]
    rfl
  · rintro pre x post c hx ⟨nums, s2, s3, s4, s5, rfl, hlen, hs⟩
    obtain ⟨z, rfl⟩ : ∃ z : Int, x = .int z := by
      have : x ∈ ns.map PyData.int := by
        rw [hx]
        exact List.mem_append.mpr (.inr (.head _))
      obtain ⟨z, _, e⟩ := List.mem_map.mp this
      exact ⟨z, e.symm⟩
    refine ⟨_, rfl, .seq (.set rfl (go (.ite rfl (fun _ => ?_) fun _ => ?_)))⟩
    · refine .for (xs := rgL 0 60) rfl (fun p c => StI (.d (.list (ns.map .int))) hp (60 * pre.length + p.length) c ∧ ∃ r : Int, c.sl[3]? = some (.v (.d (.int r)))) ⟨⟨nums, _, _, _, _, rfl, by simpa using hlen, hs⟩, _, rfl⟩ ?_ ?_
      · rintro p y post c hp' ⟨⟨nums, s2, s3, s4, s5, rfl, hlen, hs⟩, r, hr⟩
        cases (show some s3 = _ from hr)
        have hpl : p.length + 1 ≤ 60 := by
          have := congrArg List.length hp'
          rw [len_rgL, List.length_append, List.length_cons] at this
          omega
        have small : (nums.map PyData.int).length < 16777216 := by
          have : pre.length ≤ 63 := by
            have := congrArg List.length hx
            rw [List.length_map, List.length_append] at this
            omega
          have h2 : p.length ≤ 60 := by
            have := congrArg List.length hp'
            rw [len_rgL, List.length_append] at this
            omega
          rw [List.length_map]
          omega
        refine ⟨_, rfl, .seq (.drop (x := .d .none) (c1 := ⟨[.v (.d (.list (ns.map .int))), .ol ((nums ++ [r % 1009]).map .int), s2, .v (.d (.int r)), .v (.d y), s5], hp⟩) ?_ (go ?_))⟩
        · simp only [rs_ok, mApp_ap, gN_f, cSet_mk, chkL_ap]; simp [-List.map_append, gInt, bIntB, onSl_app small, pMod_int (i := r) (j := 1009) (by decide), pAdd_mod]
        · refine .seq (.set (x := .d (.int (r / 1009))) (c1 := _) (by simp; rfl) (go (.ite rfl (fun _ => ?_) fun _ => ?_)))
          · refine .bk ?_
            exact StI.more (by rw [List.length_append, List.length_singleton]; omega) hs
          · refine .nx ?_
            exact ⟨StI.more (by rw [List.length_append, List.length_singleton]; omega) hs, _, rfl⟩
      · rintro c ⟨⟨nums, s2, s3, s4, s5, rfl, hlen, hs⟩, _⟩
        exact ⟨nums, _, _, _, _, rfl, by rw [len_rgL] at hlen; simp; omega, hs⟩
    · refine .seq (.set (x := .d (.int ((if z < 0 then -z else z) % 2147483647))) (c1 := _) (by simp [gInt, bIntB, pMod_int (i := if z < 0 then -z else z) (j := 2147483647) (by decide)]; rfl) (go ?_))
      refine .for (xs := rgL 0 10) rfl (fun p c => StI (.d (.list (ns.map .int))) hp (60 * pre.length + p.length) c ∧ ∃ r : Int, c.sl[5]? = some (.v (.d (.int r))) ∧ 0 ≤ r ∧ r < 2147483647) ⟨⟨nums, _, _, _, _, rfl, by simpa using hlen, hs⟩, _, rfl, by omega, by omega⟩ ?_ ?_
      · rintro p y post c hp' ⟨⟨nums, s2, s3, s4, s5, rfl, hlen, hs⟩, r, hr, r0, r1⟩
        cases (show some s5 = _ from hr)
        obtain ⟨i, rfl⟩ : ∃ i : Int, y = .int i := mem_rgL (a := 0) (n := 10) (by rw [hp']; exact List.mem_append.mpr (.inr (.head _)))
        have hpl : p.length + 1 ≤ 10 := by
          have := congrArg List.length hp'
          rw [len_rgL, List.length_append, List.length_cons] at this
          omega
        have small : (nums.map PyData.int).length < 16777216 := by
          have : pre.length ≤ 63 := by
            have := congrArg List.length hx
            rw [List.length_map, List.length_append] at this
            omega
          rw [List.length_map]
          omega
        have w0 := Int.emod_nonneg (r * 48271 + 7 * i + 11) (b := 2147483647) (by decide)
        have w1 := Int.emod_lt_of_pos (r * 48271 + 7 * i + 11) (b := 2147483647) (by decide)
        refine ⟨_, rfl, .seq (.set (x := .d (.int ((r * 48271 + 7 * i + 11) % 2147483647))) (c1 := _) (by simp [gInt, bIntB, pMulT_int (i := r) (j := 48271) (.inl (by decide)), pMulT_int (i := 7) (j := i) (.inr (by decide)), pMod_int (i := r * 48271 + 7 * i + 11) (j := 2147483647) (by decide)]; rfl) (go ?_))⟩
        generalize (r * 48271 + 7 * i + 11) % 2147483647 = r' at w0 w1 ⊢
        refine .drop (x := .d .none) (c1 := ⟨[.v (.d (.list (ns.map .int))), .ol (nums.map .int ++ [.int ((r' * 69621 + i) % 2147483629 % 1009)]), s2, s3, .v (.d (.int i)), .v (.d (.int r'))], hp⟩) ?_ ?_
        · simp only [cSet_mk, mApp_ap, chkL_ap]
          simp [-List.map_append, gInt, bIntB, onSl_app small, pMulT_int (i := r') (j := 69621) (.inl (by decide)), pMod_int (i := r' * 69621 + i) (j := 2147483629) (by decide), pMod_int (i := (r' * 69621 + i) % 2147483629) (j := 1009) (by decide)]
        · exact ⟨StI.more (by rw [List.length_append, List.length_singleton]; omega) hs, _, rfl, w0, w1⟩
      · rintro c ⟨⟨nums, s2, s3, s4, s5, rfl, hlen, hs⟩, _⟩
        exact ⟨nums, _, _, _, _, rfl, by rw [len_rgL] at hlen; simp; omega, hs⟩
  · rintro c ⟨nums, s2, s3, s4, s5, rfl, hlen, hs⟩
    rw [List.length_map] at hlen
    refine go ?_
    cases nums with
    | nil =>
      refine .seq (.ift rfl (.drop (x := .d .none) (c1 := ⟨[.v (.d (.list (ns.map .int))), .ol ([0].map .int), s2, s3, s4, s5], hp⟩) rfl (go (.ret rfl ?_))))
      exact ⟨[0], by decide, by decide, rfl⟩
    | cons n nums =>
      refine .seq (.iff (c1 := ⟨[.v (.d (.list (ns.map .int))), .ol ((n :: nums).map .int), s2, s3, s4, s5], hp⟩) ?_ (.nx (go (.ret rfl ?_))))
      · simp [gLen, lenB]
        omega
      · exact ⟨n :: nums, by simp, by omega, rfl⟩
end Cl

set_option Elab.async false
set_option maxRecDepth 100000
set_option maxHeartbeats 2000000
/-! Comprehensions worked out. -/
namespace Cl
open PySem PySem.Spec PyProof.Rows
theorem lc_inv {mi : Mo (List PyData)} {g : Tg} {tt : Mo Bool} {te : Mo CV} {vs : List Nat} {xs : List PyData} {c c0 : CS} (e : mi c = .ok xs c0) (hl : xs.length ≤ 16777216) (I : List PyData → List PyData → CS → Prop) (h0 : I [] [] (wipeC vs c0))
    (h : ∀ pre x post acc w, xs = pre ++ x :: post → I pre acc w → ∃ c1 b c2, g.f (.d x) w = some c1 ∧ tt c1 = .ok b c2 ∧ (b = false → I (pre ++ [x]) acc (wipeC vs c2)) ∧ (b = true → ∃ y c3, te c2 = .ok (.d y) c3 ∧ I (pre ++ [x]) (acc ++ [y]) (wipeC vs c3))) :
    ∃ acc w, I xs acc w ∧ mLc mi g tt te vs c = .ok acc (restC vs c0 w) := by
  suffices ∀ (post pre acc : List PyData) (c1 : CS), xs = pre ++ post → acc.length ≤ pre.length → I pre acc (wipeC vs c1) → ∃ acc1 c2, compL g.f tt te vs post acc c1 = .ok acc1 c2 ∧ I xs acc1 (wipeC vs c2) by
    obtain ⟨acc, c2, e2, i2⟩ := this xs [] [] c0 rfl (Nat.le_refl _) h0
    refine ⟨acc, _, i2, ?_⟩
    unfold mLc
    rw [mBind_ap, e, rb_ok, e2]
  intro post
  induction post with
  | nil =>
    intro pre acc c1 e1 _ i
    rw [List.append_nil] at e1
    subst e1
    exact ⟨acc, c1, rfl, i⟩
  | cons x post ih =>
    intro pre acc c1 e1 la i
    have e' : xs = (pre ++ [x]) ++ post := by rw [e1, List.append_assoc]; rfl
    have lx : pre.length < xs.length := by
      rw [e1, List.length_append, List.length_cons]
      omega
    obtain ⟨c2, b, c3, q1, q2, q3, q4⟩ := h pre x post acc _ e1 i
    unfold compL
    rw [q1]
    cases b with
    | false =>
      obtain ⟨acc1, c4, r1, r2⟩ := ih (pre ++ [x]) acc c3 e' (by rw [List.length_append]; omega) (q3 rfl)
      refine ⟨acc1, c4, ?_, r2⟩
      show (match tt c2 with
        | .ok true c2 => _
        | .ok false c2 => compL g.f tt te vs post acc c2
        | _ => .no) = _
      rw [q2]
      exact r1
    | true =>
      obtain ⟨y, c4, q5, q6⟩ := q4 rfl
      obtain ⟨acc1, c5, r1, r2⟩ := ih (pre ++ [x]) (acc ++ [y]) c4 e' (by rw [List.length_append, List.length_append]; exact Nat.add_le_add_right la 1) q6
      refine ⟨acc1, c5, ?_, r2⟩
      show (match tt c2 with
        | .ok true c2 => match te c2 with
          | .ok (.d y) c3 => if acc.length < 16777216 then compL g.f tt te vs post (acc ++ [y]) c3 else .no
          | _ => .no
        | .ok false c2 => compL g.f tt te vs post acc c2
        | _ => .no) = _
      rw [q2]
      show (match te c3 with
          | .ok (.d y) c3 => if acc.length < 16777216 then compL g.f tt te vs post (acc ++ [y]) c3 else .no
          | _ => .no) = _
      rw [q5]
      show (if acc.length < 16777216 then compL g.f tt te vs post (acc ++ [y]) c4 else .no) = _
      rw [if_pos (by omega)]
      exact r1
/-- elements that leave the state as it was -/
theorem lc_pure {mi : Mo (List PyData)} {g : Tg} {tt : Mo Bool} {te : Mo CV} {vs : List Nat} {xs : List PyData} {c c0 w : CS} (k : PyData → Bool) (f : PyData → PyData) (e : mi c = .ok xs c0) (hl : xs.length ≤ 16777216) (hw : wipeC vs c0 = w)
    (h : ∀ x ∈ xs, ∃ c1 c2, g.f (.d x) w = some c1 ∧ tt c1 = .ok (k x) c2 ∧ (k x = false → wipeC vs c2 = w) ∧ (k x = true → ∃ c3, te c2 = .ok (.d (f x)) c3 ∧ wipeC vs c3 = w)) :
    mLc mi g tt te vs c = .ok ((xs.filter k).map f) (restC vs c0 w) := by
  obtain ⟨acc, w', ⟨i1, i2⟩, i3⟩ := lc_inv (mi := mi) (g := g) (tt := tt) (te := te) (vs := vs) e hl (fun pre acc v => acc = (pre.filter k).map f ∧ v = w) ⟨rfl, hw⟩ fun pre x post acc v ex ⟨e1, e2⟩ => by
    subst e2
    obtain ⟨c1, c2, q1, q2, q3, q4⟩ := h x (by rw [ex]; exact List.mem_append.mpr (.inr (.head _)))
    refine ⟨c1, k x, c2, q1, q2, fun hk => ⟨?_, q3 hk⟩, fun hk => ?_⟩
    · rw [List.filter_append, List.map_append, e1]
      simp [hk]
    · obtain ⟨c3, q5, q6⟩ := q4 hk
      refine ⟨_, c3, q5, ?_, q6⟩
      rw [List.filter_append, List.map_append, e1]
      simp [hk]
  rw [i3, i1, i2]
/-- without a test -/
theorem lc_map {mi : Mo (List PyData)} {g : Tg} {te : Mo CV} {vs : List Nat} {xs : List PyData} {c c0 w : CS} (f : PyData → PyData) (e : mi c = .ok xs c0) (hl : xs.length ≤ 16777216) (hw : wipeC vs c0 = w)
    (h : ∀ x ∈ xs, ∃ c1 c3, g.f (.d x) w = some c1 ∧ te c1 = .ok (.d (f x)) c3 ∧ wipeC vs c3 = w) :
    mLc mi g mYes te vs c = .ok (xs.map f) (restC vs c0 w) := by
  have := lc_pure (tt := mYes) (te := te) (fun _ => true) f e hl hw fun x m => by
    obtain ⟨c1, c3, q1, q2, q3⟩ := h x m
    exact ⟨c1, c1, q1, rfl, fun q => Bool.noConfusion q, fun _ => ⟨c3, q2, q3⟩⟩
  rwa [List.filter_eq_self.mpr fun _ _ => rfl] at this
end Cl

set_option Elab.async false
set_option maxRecDepth 100000
set_option maxHeartbeats 2000000
/-! Data: sizes, order. -/
namespace Cl
open PySem PySem.Spec PyProof.Rows
theorem plainAll_of {xs : List PyData} (h : ∀ x ∈ xs, x.plain = true) : PyData.plainAll xs = true := by
  induction xs with
  | nil => rfl
  | cons x xs ih => simp [PyData.plainAll, h x (.head _), ih fun y m => h y (.tail _ m)]
theorem showAll_of {xs : List PyData} (h : ∀ x ∈ xs, x.showable = true) : PyData.showableAll xs = true := by
  induction xs with
  | nil => simp [PyData.showableAll]
  | cons x xs ih => simp [PyData.showableAll, h x (.head _), ih fun y m => h y (.tail _ m)]
theorem depthAll_of {xs : List PyData} {n : Nat} (h : ∀ x ∈ xs, x.depth ≤ n) : PyData.depthAll xs ≤ n := by
  induction xs with
  | nil => simp [PyData.depthAll]
  | cons x xs ih =>
    simp only [PyData.depthAll]
    exact Nat.max_le.mpr ⟨h x (.head _), ih fun y m => h y (.tail _ m)⟩
theorem sumLen_of {xs : List PyData} {n : Nat} (h : ∀ x ∈ xs, x.shown.length ≤ n) : ((PyData.shownAll xs).map (·.length)).sum ≤ xs.length * n ∧ (PyData.shownAll xs).length = xs.length := by
  induction xs with
  | nil => simp [PyData.shownAll]
  | cons x xs ih =>
    obtain ⟨i1, i2⟩ := ih fun y m => h y (.tail _ m)
    have := h x (.head _)
    simp only [PyData.shownAll, List.map_cons, List.sum_cons, List.length_cons, Nat.add_mul, Nat.one_mul]
    omega
/-- a datum that can be compared and shown -/
structure Fine (d s : Nat) (x : PyData) : Prop where
  pl : x.plain = true
  sh : x.showable = true
  dp : x.depth ≤ d
  le : x.shown.length ≤ s
theorem Fine.up {d s d' s' : Nat} {x : PyData} (h : Fine d s x) (h1 : d ≤ d') (h2 : s ≤ s') : Fine d' s' x := ⟨h.pl, h.sh, Nat.le_trans h.dp h1, Nat.le_trans h.le h2⟩
theorem Fine.tuple {d s k : Nat} {xs : List PyData} (h : ∀ x ∈ xs, Fine d s x) (hk : xs.length ≤ k) : Fine (d + 1) (k * (s + 2) + 3) (.tuple xs) where
  pl := by
    simp only [PyData.plain]
    exact plainAll_of fun x m => (h x m).pl
  sh := by
    simp only [PyData.showable]
    exact showAll_of fun x m => (h x m).sh
  dp := by
    simp only [PyData.depth]
    exact Nat.succ_le_succ (depthAll_of fun x m => (h x m).dp)
  le := by
    simp only [PyData.shown]
    obtain ⟨a, b⟩ := sumLen_of fun x m => (h x m).le
    have := tupleText_len_le (PyData.shownAll xs)
    rw [b] at this
    have e := Nat.mul_le_mul_right (s + 2) hk
    rw [Nat.mul_add] at e
    omega
theorem Fine.list {d s k : Nat} {xs : List PyData} (h : ∀ x ∈ xs, Fine d s x) (hk : xs.length ≤ k) : Fine (d + 1) (k * (s + 2) + 3) (.list xs) where
  pl := by
    simp only [PyData.plain]
    exact plainAll_of fun x m => (h x m).pl
  sh := by
    simp only [PyData.showable]
    exact showAll_of fun x m => (h x m).sh
  dp := by
    simp only [PyData.depth]
    exact Nat.succ_le_succ (depthAll_of fun x m => (h x m).dp)
  le := by
    simp only [PyData.shown]
    obtain ⟨a, b⟩ := sumLen_of fun x m => (h x m).le
    have := listText_len_le (PyData.shownAll xs)
    rw [b] at this
    have e := Nat.mul_le_mul_right (s + 2) hk
    rw [Nat.mul_add] at e
    omega
theorem Fine.eq {d s : Nat} {x : PyData} (h : Fine d s x) (hd : d ≤ 60) : pEq x x = some (.bool true) := by
  unfold pEq
  rw [if_pos ⟨h.pl, h.pl, by have := h.dp; omega⟩, SeqAt.eqv_refl_plain x h.pl]
theorem Fine.ne {d s : Nat} {x : PyData} (h : Fine d s x) (hd : d ≤ 60) : pNe x x = some (.bool false) := by
  unfold pNe
  rw [if_pos ⟨h.pl, h.pl, by have := h.dp; omega⟩, SeqAt.eqv_refl_plain x h.pl]
  rfl
theorem Fine.rep {d s : Nat} {x : PyData} {hp : List CO} (h : Fine d s x) (hd : d ≤ 60) (hs : s ≤ 16777216) : bRep (.c (.d x)) hp = some x.shown := by
  show (if x.plain = true ∧ x.showable = true ∧ x.depth ≤ 60 ∧ x.shown.length ≤ 16777216 then some x.shown else none) = _
  rw [if_pos ⟨h.pl, h.sh, by have := h.dp; omega, by have := h.le; omega⟩]
theorem Fine.repL {d s : Nat} {xs : List PyData} {hp : List CO} (h : Fine d s (.list xs)) (hd : d ≤ 60) (hs : s ≤ 16777216) : bRep (.l xs) hp = some (PyData.list xs).shown := by
  have h1 := h.pl
  have h2 := h.sh
  have h3 := h.dp
  have h4 := h.le
  simp only [PyData.plain] at h1
  simp only [PyData.showable] at h2
  simp only [PyData.depth] at h3
  show (if PyData.plainAll xs = true ∧ PyData.showableAll xs = true ∧ PyData.depthAll xs ≤ 59 ∧ (PyData.list xs).shown.length ≤ 16777216 then some (PyData.list xs).shown else none) = _
  rw [if_pos ⟨h1, h2, by omega, by omega⟩]
theorem fine_str {s : Str} {n : Nat} (h : (PyData.str s).shown.length ≤ n) : Fine 0 n (.str s) := ⟨rfl, by simp [PyData.showable], by simp [PyData.depth], h⟩
theorem pEq_str {x y : Str} : pEq (.str x) (.str y) = some (.bool (x == y)) := rfl
theorem pNe_str {x y : Str} : pNe (.str x) (.str y) = some (.bool (!(x == y))) := rfl
/-! ### order -/
theorem dLe_tot : PySem.W.TotalLe dLe := dLe_total
theorem dLe_tok {a b : PyData} (h1 : dLe a b = true) (h2 : dLe b a = true) : PySem.W.keyToks a = PySem.W.keyToks b := by
  have e1 : (!PyProof.Rows.lexLt itemOrd (PySem.W.keyToks b) (PySem.W.keyToks a)) = true := h1
  have e2 : (!PyProof.Rows.lexLt itemOrd (PySem.W.keyToks a) (PySem.W.keyToks b)) = true := h2
  rw [Bool.not_eq_true'] at e1 e2
  exact lex_total _ _ e2 e1
theorem all_same_perm {α : Type} : ∀ {l m : List α}, l.Perm m → (∀ a ∈ l, ∀ b ∈ l, a = b) → l = m
  | [], m, p, _ => (List.nil_perm.mp p).symm
  | x :: l, m, p, h => by
    have e1 : x :: l = List.replicate (x :: l).length x := List.eq_replicate_iff.mpr ⟨rfl, fun y my => h y my x (.head _)⟩
    rw [e1] at p
    rw [e1]
    exact List.replicate_perm.mp p
theorem sort_perm {l m : List PyData} (p : l.Perm m) (h : ∀ a ∈ l, ∀ b ∈ l, PySem.W.keyToks a = PySem.W.keyToks b → a = b) : sortD l = sortD m := by
  refine PySem.W.sort_one dLe_tot _ _ (PySem.W.sort_pairwise dLe_tot l) (PySem.W.sort_pairwise dLe_tot m) fun c => ?_
  unfold sortD
  rw [PySem.W.sort_stable dLe_tot, PySem.W.sort_stable dLe_tot]
  refine all_same_perm (p.filter _) fun a ma b mb => ?_
  obtain ⟨a1, a2⟩ := List.mem_filter.mp ma
  obtain ⟨b1, b2⟩ := List.mem_filter.mp mb
  unfold PySem.W.sameRank at a2 b2
  rw [Bool.and_eq_true] at a2 b2
  exact h a a1 b b1 (dLe_tok (dLe_tot.trans _ _ _ a2.2 b2.1) (dLe_tot.trans _ _ _ b2.2 a2.1))
theorem sortD_prm (l : List PyData) : List.Perm (sortD l) l := List.mergeSort_perm l _
theorem sortD_mem {l : List PyData} {x : PyData} : x ∈ sortD l ↔ x ∈ l := (sortD_prm l).mem_iff
/-! ### logs -/
abbrev Log := List (Str × Int)
def evD (p : Str × Int) : PyData := .tuple [.str p.1, .int p.2]
def logD (l : Log) : PyData := .tuple (l.map evD)
theorem ev_toks (p : Str × Int) : PySem.W.keyToks (evD p) = [.inl 1, .inr p.1.cps.toList, .inl 1, .inl p.2, .inl 0] := by
  simp [evD, PySem.W.keyToks, PySem.W.keyToksAll]
theorem evD_inj {p q : Str × Int} (h : evD p = evD q) : p = q := by
  unfold evD at h
  injection h with h
  injection h with h1 h
  injection h with h2 h
  injection h1 with h1
  injection h2 with h2
  exact Prod.ext h1 h2
theorem logs_toks : ∀ {l m : Log}, PySem.W.keyToksAll (l.map evD) = PySem.W.keyToksAll (m.map evD) → l = m
  | [], [], _ => rfl
  | [], q :: m, h => by
    simp [PySem.W.keyToksAll] at h
  | p :: l, [], h => by
    simp [PySem.W.keyToksAll] at h
  | p :: l, q :: m, h => by
    simp only [List.map_cons, PySem.W.keyToksAll, ev_toks] at h
    simp only [List.cons_append, List.nil_append, List.cons.injEq, Sum.inl.injEq, Sum.inr.injEq, true_and] at h
    obtain ⟨h1, h2, h3⟩ := h
    have : p = q := Prod.ext (PySem.W.str_of_cps h1) h2
    rw [this, logs_toks h3]
theorem logD_toks {l m : Log} (h : PySem.W.keyToks (logD l) = PySem.W.keyToks (logD m)) : l = m := by
  unfold logD at h
  simp only [PySem.W.keyToks] at h
  exact logs_toks h
theorem logs_sort {l m : List Log} (p : l.Perm m) : sortD (l.map logD) = sortD (m.map logD) := by
  refine sort_perm (p.map _) fun a ma b mb e => ?_
  obtain ⟨x, _, rfl⟩ := List.mem_map.mp ma
  obtain ⟨y, _, rfl⟩ := List.mem_map.mp mb
  rw [logD_toks e]
theorem logs_sorted (l : List Log) : ∃ m : List Log, sortD (l.map logD) = m.map logD ∧ m.Perm l :=
  ⟨l.mergeSort fun a b => dLe (logD a) (logD b), (PySem.W.sort_maps logD fun _ _ _ _ => rfl).symm, List.mergeSort_perm _ _⟩
end Cl

set_option Elab.async false
/-! Merges of two rows, plainly. -/
namespace Mg
variable {α β : Type}
def cell0 (b : Nat → α) : Nat → List (List α)
  | 0 => [[]]
  | j + 1 => (cell0 b j).map (· ++ [b j])
def cellS (x : α) (b : Nat → α) (up : Nat → List (List α)) : Nat → List (List α)
  | 0 => (up 0).map (· ++ [x])
  | j + 1 => (up (j + 1)).map (· ++ [x]) ++ (cellS x b up j).map (· ++ [b j])
def cell (a b : Nat → α) : Nat → Nat → List (List α)
  | 0 => cell0 b
  | i + 1 => cellS (a i) b (cell a b i)
theorem map_snoc {f : α → β} {x : α} (l : List (List α)) : (l.map (· ++ [x])).map (List.map f) = (l.map (List.map f)).map (· ++ [f x]) := by
  simp [List.map_map, Function.comp_def]
theorem cell0_nat (f : α → β) (b : Nat → α) : ∀ j, cell0 (fun k => f (b k)) j = (cell0 b j).map (List.map f)
  | 0 => rfl
  | j + 1 => by
    rw [cell0, cell0, cell0_nat f b j, map_snoc]
theorem cellS_nat (f : α → β) (x : α) (b : Nat → α) (up : Nat → List (List α)) : ∀ j, cellS (f x) (fun k => f (b k)) (fun k => (up k).map (List.map f)) j = (cellS x b up j).map (List.map f)
  | 0 => by rw [cellS, cellS, map_snoc]
  | j + 1 => by
    rw [cellS, cellS, cellS_nat f x b up j, List.map_append, map_snoc, map_snoc]
theorem cell_nat (f : α → β) (a b : Nat → α) : ∀ i j, cell (fun k => f (a k)) (fun k => f (b k)) i j = (cell a b i j).map (List.map f)
  | 0, j => cell0_nat f b j
  | i + 1, j => by
    rw [cell, cell, ← cellS_nat]
    congr 1
    funext k
    exact cell_nat f a b i k
/-- only the elements asked matter -/
theorem cell0_congr {b b' : Nat → α} : ∀ {j : Nat}, (∀ k, k < j → b k = b' k) → cell0 b j = cell0 b' j
  | 0, _ => rfl
  | j + 1, h => by rw [cell0, cell0, cell0_congr fun k hk => h k (by omega), h j (by omega)]
theorem cellS_congr {x : α} {b b' : Nat → α} {up up' : Nat → List (List α)} : ∀ {j : Nat}, (∀ k, k < j → b k = b' k) → (∀ k, k ≤ j → up k = up' k) → cellS x b up j = cellS x b' up' j
  | 0, _, u => by rw [cellS, cellS, u 0 (by omega)]
  | j + 1, h, u => by rw [cellS, cellS, cellS_congr (fun k hk => h k (by omega)) fun k hk => u k (by omega), h j (by omega), u (j + 1) (by omega)]
theorem cell_congr {a a' b b' : Nat → α} : ∀ {i j : Nat}, (∀ k, k < i → a k = a' k) → (∀ k, k < j → b k = b' k) → cell a b i j = cell a' b' i j
  | 0, j, _, h => cell0_congr h
  | i + 1, j, g, h => by
    rw [cell, cell, g i (by omega)]
    exact cellS_congr h fun k hk => cell_congr (fun q hq => g q (by omega)) fun q hq => h q (by omega)
/-- how many -/
def numS (up : Nat → Nat) : Nat → Nat
  | 0 => up 0
  | j + 1 => up (j + 1) + numS up j
def num : Nat → Nat → Nat
  | 0 => fun _ => 1
  | i + 1 => numS (num i)
theorem num_0 {j : Nat} : num 0 j = 1 := rfl
theorem num_s0 {i : Nat} : num (i + 1) 0 = num i 0 := rfl
theorem num_ss {i j : Nat} : num (i + 1) (j + 1) = num i (j + 1) + num (i + 1) j := rfl
theorem cell0_len (b : Nat → α) : ∀ j, (cell0 b j).length = 1
  | 0 => rfl
  | j + 1 => by rw [cell0, List.length_map, cell0_len b j]
theorem cellS_len (x : α) (b : Nat → α) (up : Nat → List (List α)) (i : Nat) (h : ∀ k, (up k).length = num i k) : ∀ j, (cellS x b up j).length = num (i + 1) j
  | 0 => by rw [cellS, List.length_map, h, num_s0]
  | j + 1 => by rw [cellS, List.length_append, List.length_map, List.length_map, h, cellS_len x b up i h j, num_ss]
theorem cell_len (a b : Nat → α) : ∀ i j, (cell a b i j).length = num i j
  | 0, j => by rw [cell, cell0_len, num_0]
  | i + 1, j => by
    rw [cell]
    exact cellS_len _ _ _ i (fun k => cell_len a b i k) j
theorem cell_00 (a b : Nat → α) : cell a b 0 0 = [[]] := rfl
theorem cell_0s (a b : Nat → α) (j : Nat) : cell a b 0 (j + 1) = (cell a b 0 j).map (· ++ [b j]) := rfl
theorem cell_s0 (a b : Nat → α) (i : Nat) : cell a b (i + 1) 0 = (cell a b i 0).map (· ++ [a i]) := rfl
theorem cell_ss (a b : Nat → α) (i j : Nat) : cell a b (i + 1) (j + 1) = (cell a b i (j + 1)).map (· ++ [a i]) ++ (cell a b (i + 1) j).map (· ++ [b j]) := rfl
/-- each row has the elements of each, in order -/
theorem cell_filter {a b : Nat → α} {p : α → Bool} {n m : Nat} (ha : ∀ k, k < n → p (a k) = true) (hb : ∀ k, k < m → p (b k) = false) : ∀ i j, i ≤ n → j ≤ m → ∀ r ∈ cell a b i j, r.filter p = (List.range i).map a ∧ r.filter (fun x => !p x) = (List.range j).map b
  | 0, 0, _, _, r, h => by
    rw [cell_00, List.mem_singleton] at h
    subst h
    exact ⟨rfl, rfl⟩
  | 0, j + 1, h1, h2, r, h => by
    rw [cell_0s, List.mem_map] at h
    obtain ⟨q, hq, rfl⟩ := h
    obtain ⟨e1, e2⟩ := cell_filter ha hb 0 j h1 (by omega) q hq
    rw [List.filter_append, List.filter_append, e1, e2, List.range_succ, List.map_append]
    simp [hb j (by omega)]
  | i + 1, 0, h1, h2, r, h => by
    rw [cell_s0, List.mem_map] at h
    obtain ⟨q, hq, rfl⟩ := h
    obtain ⟨e1, e2⟩ := cell_filter ha hb i 0 (by omega) h2 q hq
    rw [List.filter_append, List.filter_append, e1, e2, List.range_succ, List.map_append]
    simp [ha i (by omega)]
  | i + 1, j + 1, h1, h2, r, h => by
    rw [cell_ss, List.mem_append, List.mem_map, List.mem_map] at h
    rcases h with ⟨q, hq, rfl⟩ | ⟨q, hq, rfl⟩
    · obtain ⟨e1, e2⟩ := cell_filter ha hb i (j + 1) (by omega) h2 q hq
      rw [List.filter_append, List.filter_append, e1, e2]
      constructor
      · rw [List.range_succ (n := i), List.map_append]
        simp [ha i (by omega)]
      · simp [ha i (by omega)]
    · obtain ⟨e1, e2⟩ := cell_filter ha hb (i + 1) j h1 (by omega) q hq
      rw [List.filter_append, List.filter_append, e1, e2]
      constructor
      · simp [hb j (by omega)]
      · rw [List.range_succ (n := j), List.map_append]
        simp [hb j (by omega)]
/-- every element is one of both -/
theorem cell_mem {a b : Nat → α} {P : α → Prop} {n m : Nat} (ha : ∀ k, k < n → P (a k)) (hb : ∀ k, k < m → P (b k)) : ∀ i j, i ≤ n → j ≤ m → ∀ r ∈ cell a b i j, ∀ x ∈ r, P x
  | 0, 0, _, _, r, h => by
    rw [cell_00, List.mem_singleton] at h
    subst h
    simp
  | 0, j + 1, h1, h2, r, h => by
    rw [cell_0s, List.mem_map] at h
    obtain ⟨q, hq, rfl⟩ := h
    intro x hx
    rcases List.mem_append.mp hx with hx | hx
    · exact cell_mem ha hb 0 j h1 (by omega) q hq x hx
    · rw [List.mem_singleton.mp hx]; exact hb j (by omega)
  | i + 1, 0, h1, h2, r, h => by
    rw [cell_s0, List.mem_map] at h
    obtain ⟨q, hq, rfl⟩ := h
    intro x hx
    rcases List.mem_append.mp hx with hx | hx
    · exact cell_mem ha hb i 0 (by omega) h2 q hq x hx
    · rw [List.mem_singleton.mp hx]; exact ha i (by omega)
  | i + 1, j + 1, h1, h2, r, h => by
    rw [cell_ss, List.mem_append, List.mem_map, List.mem_map] at h
    intro x hx
    rcases h with ⟨q, hq, rfl⟩ | ⟨q, hq, rfl⟩
    · rcases List.mem_append.mp hx with hx | hx
      · exact cell_mem ha hb i (j + 1) (by omega) h2 q hq x hx
      · rw [List.mem_singleton.mp hx]; exact ha i (by omega)
    · rcases List.mem_append.mp hx with hx | hx
      · exact cell_mem ha hb (i + 1) j h1 (by omega) q hq x hx
      · rw [List.mem_singleton.mp hx]; exact hb j (by omega)
theorem cell_length {a b : Nat → α} : ∀ i j, ∀ r ∈ cell a b i j, r.length = i + j
  | 0, 0, r, h => by
    rw [cell_00, List.mem_singleton] at h
    subst h
    rfl
  | 0, j + 1, r, h => by
    rw [cell_0s, List.mem_map] at h
    obtain ⟨q, hq, rfl⟩ := h
    rw [List.length_append, cell_length 0 j q hq, List.length_singleton, Nat.add_assoc]
  | i + 1, 0, r, h => by
    rw [cell_s0, List.mem_map] at h
    obtain ⟨q, hq, rfl⟩ := h
    rw [List.length_append, cell_length i 0 q hq, List.length_singleton]
  | i + 1, j + 1, r, h => by
    rw [cell_ss, List.mem_append, List.mem_map, List.mem_map] at h
    rcases h with ⟨q, hq, rfl⟩ | ⟨q, hq, rfl⟩
    · rw [List.length_append, cell_length i (j + 1) q hq, List.length_singleton]
      omega
    · rw [List.length_append, cell_length (i + 1) j q hq, List.length_singleton]
      omega
/-! the law's own way -/
def choices (many : Nat) : Nat → List (List Nat)
  | 0 => [[]]
  | k + 1 => (choices many k).flatMap fun row => (List.range (many - (row.getLast?.map (· + 1)).getD 0)).map fun i => row ++ [(row.getLast?.map (· + 1)).getD 0 + i]
def mrg (ps : List Nat) : List Nat → List α → List α → Option (List α)
  | [], _, _ => some []
  | k :: ks, a, b => if ps.contains k then match a with
      | x :: a => (mrg ps ks a b).map (x :: ·)
      | [] => none
    else match b with
      | x :: b => (mrg ps ks a b).map (x :: ·)
      | [] => none
theorem mrg_nat (f : α → β) (ps : List Nat) : ∀ (ks : List Nat) (a b : List α), mrg ps ks (a.map f) (b.map f) = (mrg ps ks a b).map (List.map f)
  | [], a, b => rfl
  | k :: ks, a, b => by
    unfold mrg
    split
    · cases a with
      | nil => rfl
      | cons x a =>
        show Option.map _ (mrg ps ks (a.map f) (b.map f)) = _
        rw [mrg_nat f ps ks a b]
        simp [Option.map_map, Function.comp_def]
    · cases b with
      | nil => rfl
      | cons x b =>
        show Option.map _ (mrg ps ks (a.map f) (b.map f)) = _
        rw [mrg_nat f ps ks a b]
        simp [Option.map_map, Function.comp_def]
def seqO : List (Option β) → Option (List β)
  | [] => some []
  | some x :: r => (seqO r).map (x :: ·)
  | none :: _ => none
theorem seqO_map (f : α → β) : ∀ l : List (Option α), seqO (l.map (Option.map f)) = (seqO l).map (List.map f)
  | [] => rfl
  | some x :: r => by
    show (seqO (r.map (Option.map f))).map _ = _
    rw [seqO_map f r]
    show _ = Option.map _ (Option.map _ (seqO r))
    simp [Option.map_map, Function.comp_def]
  | none :: r => rfl
theorem seqO_some : ∀ {l : List (Option β)} {r : List β}, seqO l = some r → l = r.map some
  | [], r, h => by cases h; rfl
  | some x :: l, r, h => by
    show some x :: l = _
    have h' : (seqO l).map (x :: ·) = some r := h
    cases e : seqO l with
    | none => rw [e] at h'; cases h'
    | some q =>
      rw [e] at h'
      cases h'
      rw [seqO_some e]
      rfl
  | none :: _, r, h => by cases h
def merges (a b : List α) : Option (List (List α)) := seqO ((choices (a.length + b.length) a.length).map fun ps => mrg ps (List.range (a.length + b.length)) a b)
theorem merges_nat (f : α → β) (a b : List α) : merges (a.map f) (b.map f) = (merges a b).map (List.map (List.map f)) := by
  unfold merges
  rw [List.length_map, List.length_map, ← seqO_map, List.map_map]
  congr 1
  refine List.map_congr_left fun ps _ => ?_
  exact mrg_nat f ps _ a b
def same (n m : Nat) : Bool := match merges (List.range n) ((List.range m).map (n + ·)) with
  | some rows => rows.isPerm (cell (fun k => k) (n + ·) n m)
  | none => false
theorem same_all : ∀ n, n ≤ 4 → ∀ m, m ≤ 4 → same n m = true := by decide +kernel
theorem merges_perm {a b : List α} [Inhabited α] (h1 : a.length ≤ 4) (h2 : b.length ≤ 4) : ∃ rows, merges a b = some rows ∧ rows.Perm (cell (fun k => a.getD k default) (fun k => b.getD k default) a.length b.length) := by
  have s := same_all a.length h1 b.length h2
  have ea : a = (List.range a.length).map fun k => (a ++ b).getD k default := by
    apply List.ext_getElem
    · simp
    · intro i p q
      simp [List.getD_eq_getElem?_getD, List.getElem?_append, p]
  have eb : b = ((List.range b.length).map (a.length + ·)).map fun k => (a ++ b).getD k default := by
    apply List.ext_getElem
    · simp
    · intro i p q
      have : ¬ a.length + i < a.length := by omega
      simp [List.getD_eq_getElem?_getD, List.getElem?_append, p, this]
  unfold same at s
  cases e : merges (List.range a.length) ((List.range b.length).map (a.length + ·)) with
  | none => rw [e] at s; cases s
  | some rows =>
    rw [e] at s
    have s' := List.isPerm_iff.mp s
    refine ⟨rows.map (List.map fun k => (a ++ b).getD k default), ?_, ?_⟩
    · have t := merges_nat (fun k => (a ++ b).getD k default) (List.range a.length) ((List.range b.length).map (a.length + ·))
      rw [← ea, ← eb, e] at t
      exact t
    · have c : cell (fun k => a.getD k default) (fun k => b.getD k default) a.length b.length = (cell (fun k => k) (a.length + ·) a.length b.length).map (List.map fun k => (a ++ b).getD k default) := by
        rw [← cell_nat]
        refine cell_congr (fun k hk => ?_) fun k hk => ?_
        · simp [List.getD_eq_getElem?_getD, List.getElem?_append, hk]
        · have : ¬ a.length + k < a.length := by omega
          simp [List.getD_eq_getElem?_getD, List.getElem?_append, this]
      rw [c]
      exact s'.map _
end Mg

set_option Elab.async false
set_option maxRecDepth 100000
set_option maxHeartbeats 4000000
namespace Lw
open PySem PySem.Spec PyProof.Rows L2 Cl
def topS (i : Nat) : Stmt := PySem.Challenge.pw_namewarden_k87_all_merges_of_two_logs.main.body.getD i (.Pass ⟨0, 0, 0, 0⟩)
abbrev s__law_choices : Stmt := topS 28
theorem sc__law_choices : FnScope ["many", "few", "rows", "k", "longer", "row", "start", "at"] ["many", "few"] (defScope s__law_choices) := ⟨rfl, rfl, rfl, by decide +kernel, rfl, by decide +kernel, by decide +kernel⟩
abbrev s__law_next : Stmt := topS 22
theorem sc__law_next : FnScope ["state", "many", "turn"] ["state", "many"] (defScope s__law_next) := ⟨rfl, rfl, rfl, by decide +kernel, rfl, by decide +kernel, by decide +kernel⟩
abbrev s__law_log : Stmt := topS 26
theorem sc__law_log : FnScope ["state", "words", "most", "names", "k"] ["state", "words", "most", "names"] (defScope s__law_log) := ⟨rfl, rfl, rfl, by decide +kernel, rfl, by decide +kernel, by decide +kernel⟩
abbrev s__law_merged : Stmt := topS 29
theorem sc__law_merged : FnScope ["one", "other", "places", "found", "left", "k"] ["one", "other", "places"] (defScope s__law_merged) := ⟨rfl, rfl, rfl, by decide +kernel, rfl, by decide +kernel, by decide +kernel⟩
abbrev s__law_names : Stmt := topS 25
theorem sc__law_names : FnScope ["log", "word", "name"] ["log"] (defScope s__law_names) := ⟨rfl, rfl, rfl, by decide +kernel, rfl, by decide +kernel, by decide +kernel⟩
abbrev s__law_same : Stmt := topS 20
theorem sc__law_same : FnScope ["told", "due"] ["told", "due"] (defScope s__law_same) := ⟨rfl, rfl, rfl, by decide +kernel, rfl, by decide +kernel, by decide +kernel⟩
abbrev s__law_stream : Stmt := topS 21
theorem sc__law_stream : FnScope ["script", "numbers", "cell", "rest", "k", "stirred"] ["script"] (defScope s__law_stream) := ⟨rfl, rfl, rfl, by decide +kernel, rfl, by decide +kernel, by decide +kernel⟩
abbrev s_is_word : Stmt := topS 13
theorem sc_is_word : FnScope ["text", "sign"] ["text"] (defScope s_is_word) := ⟨rfl, rfl, rfl, by decide +kernel, rfl, by decide +kernel, by decide +kernel⟩
abbrev s_check_log : Stmt := topS 14
theorem sc_check_log : FnScope ["log", "word", "name"] ["log"] (defScope s_check_log) := ⟨rfl, rfl, rfl, by decide +kernel, rfl, by decide +kernel, by decide +kernel⟩
abbrev s_names_of_known : Stmt := topS 17
theorem sc_names_of_known : FnScope ["log", "_", "name"] ["log"] (defScope s_names_of_known) := ⟨rfl, rfl, rfl, by decide +kernel, rfl, by decide +kernel, by decide +kernel⟩
abbrev s_all_merges : Stmt := topS 18
theorem sc_all_merges : FnScope ["one", "other", "name", "rows", "at", "to", "found", "log"] ["one", "other"] (defScope s_all_merges) := ⟨rfl, rfl, rfl, by decide +kernel, rfl, by decide +kernel, by decide +kernel⟩
abbrev s__law_told : Stmt := topS 27
theorem sc__law_told : FnScope ["one", "other", "e"] ["one", "other"] (defScope s__law_told) := ⟨rfl, rfl, rfl, by decide +kernel, rfl, by decide +kernel, by decide +kernel⟩
abbrev s__law_words : Stmt := topS 24
theorem sc__law_words : FnScope ["state"] ["state"] (defScope s__law_words) := ⟨rfl, rfl, rfl, by decide +kernel, rfl, by decide +kernel, by decide +kernel⟩
abbrev s_law : Stmt := topS 30
theorem sc_law : FnScope ["script", "state", "turn", "words", "one", "shift", "other", "word", "name", "kept", "due", "rows", "places", "told", "log", "event", "bad", "first", "k", "second"] ["script"] (defScope s_law) := ⟨rfl, rfl, rfl, by decide +kernel, rfl, by decide +kernel, by decide +kernel⟩
abbrev s__law_error : Stmt := topS 23
theorem sc__law_error : FnScope ["e", "names", "one"] ["e"] (defScope s__law_error) := ⟨rfl, rfl, rfl, by decide +kernel, rfl, by decide +kernel, by decide +kernel⟩
def errF : Str → Option Str := fun x => if x = "Missing" then some "missing" else if x = "NotAllowed" then some "refused" else if x = "TooLarge" then some "large" else none
def m_err (a : Addr) (b0 b1 b2 b3 b4 : Bool) : MS := sSeq (sOwn 1 (mLst (mCons (mIsE a 0 b0) (mCons (mIsE a 0 b1) (mCons (mIsE a 0 b2) (mCons (mIsE a 0 b3) (mCons (mIsE a 0 b4) mNil)))))))
  (sSeq (sIf (mTru (m2 (lift2 pNe) (mBind (mPeek 1) gSumB) (mC (.int 1)))) (sRet (mC (.str "odd"))) sNx)
  (sRet (mIxG (mFz (mLst (mCons (mC (.str "refused")) (mCons (mC (.str "large")) (mCons (mC (.str "missing")) (mCons (mC (.str "paper")) (mCons (mC (.str "form")) mNil))))))) (mIndexN 1 (mC (.bool true))))))
def m__law_choices : MS :=
  (sSeq (sOwn 2 (mLst (mCons (mTup mNil) mNil)))
  (sSeq (sFor (mRg1 (mVar 1)) (gN 3)
  (sSeq (sOwn 4 (mLst mNil))
  (sSeq (sFor (mItems (mVar 2)) (gN 5)
  (sSeq (sSet 6 (mC (.int 0)))
  (sSeq (sIf (mTru (m2 (lift2 pGt) (mBind (mPeek 5) gLen) (mC (.int 0)))) (sSet 6 (m2 (lift2 pAdd) (mIxNG 5 (mBind (mC (.int 1)) gNeg)) (mC (.int 1)))) sNx)
  (sDrop (mExt 4 (mBf (mLc (mRg2 (mVar 6) (mVar 0)) (gN 7) mYes (m2 (lift2 pAdd) (mVar 5) (mTup (mCons (mVar 7) mNil))) [7])))))))
  (sSet 2 (mVar 4)))))
  (sRet (mVar 2))))
def F__law_choices : Fn := fnOf m__law_choices 8
def m__law_next : MS :=
  (sSeq (sPutG 0 (mC (.int 1)) (m2 (lift2 pAdd) (mIxNG 0 (mC (.int 1))) (mC (.int 1))))
  (sSeq (sSet 2 (m2 (lift2 pDiv) (mIxNG 0 (mC (.int 1))) (mBind (mBo (mIxNG 0 (mC (.int 0)))) gLen)))
  (sRet (m2 (lift2 pMod) (mBind (mBo (m2 (lift2 pAdd) (m2 (lift2 pAdd) (mIxG (mIxNG 0 (mC (.int 0))) (m2 (lift2 pMod) (mIxNG 0 (mC (.int 1))) (mBind (mBo (mIxNG 0 (mC (.int 0)))) gLen))) (m2 (lift2 pMulT) (mVar 2) (mC (.int 389)))) (m2 (lift2 pMulT) (m2 (lift2 pMulT) (mIxNG 0 (mC (.int 1))) (mVar 2)) (mC (.int 17))))) gInt) (mVar 1)))))
def F__law_next : Fn := fnOf m__law_next 3
def m__law_log : MS :=
  (sRet (mBind (mBf (mLc (mRg1 (mCall 2 F__law_next (mCons (mVar 0) (mCons (m2 (lift2 pAdd) (mVar 2) (mC (.int 1))) mNil)))) (gN 4) mYes (mTup (mCons (mIxNG 1 (mCall 2 F__law_next (mCons (mVar 0) (mCons (mBind (mPeek 1) gLen) mNil)))) (mCons (mCall 2 F__law_next (mCons (mVar 0) (mCons (mVar 3) mNil))) mNil))) [4])) gTupc))
def F__law_log : Fn := fnOf m__law_log 5
def m__law_merged : MS :=
  (sSeq (sOwn 3 (mLst mNil))
  (sSeq (sSet 4 (mNewD (mCons (mNewL (mBind (mPeek 0) gLstD)) (mCons (mNewL (mBind (mPeek 1) gLstD)) mNil))))
  (sSeq (sFor (mRg1 (m2 (lift2 pAdd) (mBind (mPeek 0) gLen) (mBind (mPeek 1) gLen))) (gN 5)
  (sDrop (mApp 3 (mPopO (mIxNG 4 (mBind (mBo (m2b (gInG true) (mVar 5) (mPeek 2))) gInt)) (mC (.int 0))))))
  (sRet (mBind (mPeek 3) gTupc)))))
def F__law_merged : Fn := fnOf m__law_merged 6
def m__law_names : MS :=
  (sRet (mFz (mBind (mBind (mBf (mLc (mItems (mVar 0)) (gT (unCons (gN 1) (unCons (gN 2) unNil)) ((gN 1).ix ++ ((gN 2).ix ++ []))) mYes (mVar 2) [1, 2])) gSet) gSortM)))
def F__law_names : Fn := fnOf m__law_names 3
def m__law_same : MS :=
  (sRet (m2 (lift2 pEq) (mBind (mBf (mLst (mCons (mVar 0) mNil))) gRep) (mBind (mBf (mLst (mCons (mVar 1) mNil))) gRep)))
def F__law_same : Fn := fnOf m__law_same 2
def m__law_stream : MS :=
  (sSeq (sOwn 1 (mLst mNil))
  (sSeq (sFor (mItems (mFz (mSlL (mVar 0) (mRet none) (mPart (mC (.int 63)))))) (gN 2)
  (sSeq (sSet 3 (mBind (mBo (mBind (mPeek 2) gInt)) gAbs))
  (sIf (mTru (m2 (lift2 pGe) (mVar 3) (m2 (lift2 pPow) (mC (.int 10)) (mC (.int 18))))) (sFor (mRg1 (mC (.int 60))) (gN 4)
  (sSeq (sDrop (mApp 1 (m2 (lift2 pMod) (mBind (mPeek 3) gInt) (mC (.int 1009)))))
  (sSeq (sSet 3 (m2 (lift2 pDiv) (mVar 3) (mC (.int 1009))))
  (sIf (mTru (m2 (lift2 pEq) (mVar 3) (mC (.int 0)))) sBk sNx)))) (sSeq (sSet 5 (m2 (lift2 pMod) (mBind (mPeek 3) gInt) (mC (.int 2147483647))))
  (sFor (mRg1 (mC (.int 10))) (gN 4)
  (sSeq (sSet 5 (m2 (lift2 pMod) (mBind (mBo (m2 (lift2 pAdd) (m2 (lift2 pAdd) (m2 (lift2 pMulT) (mVar 5) (mC (.int 48271))) (m2 (lift2 pMulT) (mC (.int 7)) (mVar 4))) (mC (.int 11)))) gInt) (mC (.int 2147483647))))
  (sDrop (mApp 1 (m2 (lift2 pMod) (m2 (lift2 pMod) (mBind (mBo (m2 (lift2 pAdd) (m2 (lift2 pMulT) (mVar 5) (mC (.int 69621))) (mVar 4))) gInt) (mC (.int 2147483629))) (mC (.int 1009)))))))))))
  (sSeq (sIf (mTru (m2 (lift2 pEq) (mBind (mPeek 1) gLen) (mC (.int 0)))) (sDrop (mApp 1 (mC (.int 0)))) sNx)
  (sRet (mVar 1)))))
def F__law_stream : Fn := fnOf m__law_stream 6
def m_is_word : MS :=
  (sSeq (sIf (mOr (mNot (mTru (mChain (lift2 pLe) (lift2 pLe) (mC (.int 1)) (mBind (mPeek 0) gLen) (mC (.int 12))))) (mTru (m2b (gInG true) (mIxNG 0 (mC (.int 0))) (mBo (mC (.str "abcdefghijklmnopqrstuvwxyz")))))) (sRet (mC (.bool false))) sNx)
  (sRet (mBind (mBf (mLc (mItems (mVar 0)) (gN 1) mYes (m2b (gInG false) (mVar 1) (mBo (mC (.str "abcdefghijklmnopqrstuvwxyz0123456789")))) [1])) gAll)))
def F_is_word : Fn := fnOf m_is_word 2
def m_check_log : MS :=
  (sSeq (sIf (mTru (m2 (lift2 pGt) (mBind (mPeek 0) gLen) (mC (.int 60)))) (sRaise "TooLarge") sNx)
  (sSeq (sIf (mNot (mTru (mBind (mBf (mLc (mItems (mVar 0)) (gT (unCons (gN 1) (unCons (gN 2) unNil)) ((gN 1).ix ++ ((gN 2).ix ++ []))) mYes (mAndV (mCall 1 F_is_word (mCons (mVar 1) mNil)) (mChain (lift2 pLe) (lift2 pLe) (mC (.int 0)) (mVar 2) (mC (.int 999)))) [1, 2])) gAll))) (sRaise "NotAllowed") sNx)
  (sRet (mC .none))))
def F_check_log : Fn := fnOf m_check_log 3
def m_names_of_known : MS :=
  (sRet (mFz (mBind (mBd (mDc (mItems (mVar 0)) (gT (unCons (gN 1) (unCons (gN 2) unNil)) ((gN 1).ix ++ ((gN 2).ix ++ []))) mYes (mVar 2) (mC (.bool true)) [1, 2])) gLstD)))
def F_names_of_known : Fn := fnOf m_names_of_known 3
def m_all_merges : MS :=
  (sSeq (sDrop (mCall 1 F_check_log (mCons (mVar 0) mNil)))
  (sSeq (sDrop (mCall 1 F_check_log (mCons (mVar 1) mNil)))
  (sSeq (sIf (mTru (mBind (mBf (mLc (mItems (mCall 1 F_names_of_known (mCons (mVar 1) mNil))) (gN 2) mYes (m2b (gInG false) (mVar 2) (mBo (mCall 1 F_names_of_known (mCons (mVar 0) mNil)))) [2])) gAny)) (sRaise "Missing") sNx)
  (sSeq (sOwnD 3 (mOne (mTup (mCons (mC (.int 0)) (mCons (mC (.int 0)) mNil))) (mFz (mLst (mCons (mTup mNil) mNil)))))
  (sSeq (sFor (mRg1 (m2 (lift2 pAdd) (mBind (mPeek 0) gLen) (mC (.int 1)))) (gN 4)
  (sFor (mRg1 (m2 (lift2 pAdd) (mBind (mPeek 1) gLen) (mC (.int 1)))) (gN 5)
  (sIf (mTru (m2 (lift2 pNe) (mTup (mCons (mVar 4) (mCons (mVar 5) mNil))) (mTup (mCons (mC (.int 0)) (mCons (mC (.int 0)) mNil))))) (sSeq (sOwn 6 (mIf (mTru (m2 (lift2 pGt) (mVar 4) (mC (.int 0)))) (mLc (mItems (mIxNG 3 (mTup (mCons (m2 (lift2 pSub) (mVar 4) (mC (.int 1))) (mCons (mVar 5) mNil))))) (gN 7) mYes (mTup (mStar (mPeek 7) (mCons (mIxNG 0 (m2 (lift2 pSub) (mVar 4) (mC (.int 1)))) mNil))) [7]) (mLst mNil)))
  (sSeq (sDrop (mExt 6 (mBf (mIf (mTru (m2 (lift2 pGt) (mVar 5) (mC (.int 0)))) (mLc (mItems (mIxNG 3 (mTup (mCons (mVar 4) (mCons (m2 (lift2 pSub) (mVar 5) (mC (.int 1))) mNil))))) (gN 7) mYes (mTup (mStar (mPeek 7) (mCons (mIxNG 1 (m2 (lift2 pSub) (mVar 5) (mC (.int 1)))) mNil))) [7]) (mLst mNil)))))
  (sSeq (sPutG 3 (mTup (mCons (mVar 4) (mCons (mVar 5) mNil))) (mVar 6))
  (sIf (mTru (m2 (lift2 pGt) (mBind (mPeek 6) gLen) (mC (.int 200)))) (sRaise "TooLarge") sNx)))) sNx)))
  (sRet (mFz (mBind (mBo (mIxNG 3 (mTup (mCons (mBind (mPeek 0) gLen) (mCons (mBind (mPeek 1) gLen) mNil))))) gSort))))))))
def F_all_merges : Fn := fnOf m_all_merges 8
def m__law_told : MS :=
  (sTryE 2 errF (sRet (mTup (mCons (mC (.str "told")) (mCons (mCall 2 F_all_merges (mCons (mVar 0) (mCons (mVar 1) mNil))) mNil)))))
def F__law_told : Fn := fnOf m__law_told 3
def m__law_words : MS :=
  (sRet (mIxG (mFz (mLst (mCons (mTup (mCons (mC (.str "in")) (mCons (mC (.str "out")) mNil))) (mCons (mTup (mCons (mC (.str "a")) mNil)) (mCons (mTup (mCons (mC (.str "a")) (mCons (mC (.str "b")) (mCons (mC (.str "c2")) mNil)))) (mCons (mTup (mCons (mC (.str "go")) (mCons (mC (.str "in")) mNil))) mNil)))))) (mCall 2 F__law_next (mCons (mVar 0) (mCons (mC (.int 4)) mNil)))))
def F__law_words : Fn := fnOf m__law_words 1
def m_law : MS :=
  (sSeq (sSet 1 (mNewD (mCons (mCall 1 F__law_stream (mCons (mVar 0) mNil)) (mCons (mC (.int 0)) mNil))))
  (sSeq (sFor (mRg1 (mC (.int 10))) (gN 2)
  (sSeq (sSet 3 (mCall 1 F__law_words (mCons (mVar 1) mNil)))
  (sSeq (sSet 4 (mCall 4 F__law_log (mCons (mVar 1) (mCons (mVar 3) (mCons (mC (.int 4)) (mCons (mC (.int 3)) mNil))))))
  (sSeq (sSet 5 (mIxG (mFz (mLst (mCons (mC (.int 3)) (mCons (mC (.int 2)) (mCons (mC (.int 0)) mNil))))) (mCall 2 F__law_next (mCons (mVar 1) (mCons (mC (.int 3)) mNil)))))
  (sSeq (sSet 6 (mBind (mBf (mLc (mItems (mCall 4 F__law_log (mCons (mVar 1) (mCons (mVar 3) (mCons (mC (.int 4)) (mCons (mC (.int 3)) mNil)))))) (gT (unCons (gN 7) (unCons (gN 8) unNil)) ((gN 7).ix ++ ((gN 8).ix ++ []))) mYes (mTup (mCons (mVar 7) (mCons (m2 (lift2 pAdd) (mVar 8) (mVar 5)) mNil))) [7, 8])) gTupc))
  (sSeq (sSet 9 (mBind (mBo (mTup (mCons (mVar 4) (mCons (mVar 6) mNil)))) gRep))
  (sSeq (sSet 10 (mC (.str "missing")))
  (sSeq (sIf (mNot (mTru (mBind (mBf (mLc (mItems (mCall 1 F__law_names (mCons (mVar 6) mNil))) (gN 8) mYes (m2b (gInG false) (mVar 8) (mBo (mCall 1 F__law_names (mCons (mVar 4) mNil)))) [8])) gAny))) (sSeq (sOwn 11 (mLc (mItems (mCall 2 F__law_choices (mCons (m2 (lift2 pAdd) (mBind (mPeek 4) gLen) (mBind (mPeek 6) gLen)) (mCons (mBind (mPeek 4) gLen) mNil)))) (gN 12) mYes (mCall 3 F__law_merged (mCons (mVar 4) (mCons (mVar 6) (mCons (mVar 12) mNil)))) [12]))
  (sSet 10 (mTup (mCons (mC (.str "told")) (mCons (mFz (mBind (mPeek 11) gSort)) mNil))))) sNx)
  (sSeq (sSet 13 (mCall 2 F__law_told (mCons (mVar 4) (mCons (mVar 6) mNil))))
  (sSeq (sIf (mNot (mTru (mCall 2 F__law_same (mCons (mVar 13) (mCons (mVar 10) mNil))))) (sRet (mC (.bool false))) sNx)
  (sSeq (sIf (mTru (m2 (lift2 pNe) (mVar 10) (mC (.str "missing")))) (sFor (mItems (mIxNG 13 (mC (.int 1)))) (gN 14)
  (sIf (mOr (mTru (m2 (lift2 pNe) (mBind (mBf (mLc (mItems (mVar 14)) (gN 15) (mTru (m2b (gInG false) (mIxNG 15 (mC (.int 1))) (mBo (mCall 1 F__law_names (mCons (mVar 4) mNil))))) (mVar 15) [15])) gTupc) (mVar 4))) (mTru (m2 (lift2 pNe) (mBind (mBf (mLc (mItems (mVar 14)) (gN 15) (mTru (m2b (gInG true) (mIxNG 15 (mC (.int 1))) (mBo (mCall 1 F__law_names (mCons (mVar 4) mNil))))) (mVar 15) [15])) gTupc) (mVar 6)))) (sRet (mC (.bool false))) sNx)) sNx)
  (sSeq (sSet 16 (mIxG (mFz (mLst (mCons (mTup (mCons (mTup (mCons (mC (.str "A")) (mCons (mC (.int 0)) mNil))) mNil)) (mCons (mTup (mCons (mTup (mCons (mC (.str "a")) (mCons (mBind (mC (.int 1)) gNeg) mNil))) mNil)) (mCons (mTup (mCons (mTup (mCons (mC (.str "a")) (mCons (mC (.int 1000)) mNil))) mNil)) mNil))))) (mCall 2 F__law_next (mCons (mVar 1) (mCons (mC (.int 3)) mNil)))))
  (sIf (mOr (mTru (m2 (lift2 pNe) (mFz (mLst (mCons (mCall 2 F__law_told (mCons (mVar 16) (mCons (mVar 6) mNil))) (mCons (mCall 2 F__law_told (mCons (mVar 4) (mCons (mVar 16) mNil))) mNil)))) (mFz (mBind (mLst (mCons (mC (.str "refused")) mNil)) (gRepL 2))))) (mTru (m2 (lift2 pNe) (mBind (mBo (mTup (mCons (mVar 4) (mCons (mVar 6) mNil)))) gRep) (mVar 9)))) (sRet (mC (.bool false))) sNx)))))))))))))
  (sSeq (sSet 17 (mBind (mBf (mLc (mRg1 (mC (.int 5))) (gN 18) mYes (mTup (mCons (mC (.str "a")) (mCons (mVar 18) mNil))) [18])) gTupc))
  (sSeq (sSet 19 (mBind (mBf (mLc (mRg1 (mC (.int 5))) (gN 18) mYes (mTup (mCons (mC (.str "a")) (mCons (m2 (lift2 pAdd) (mC (.int 10)) (mVar 18)) mNil))) [18])) gTupc))
  (sSeq (sOwn 13 (mLst (mCons (mCall 2 F__law_told (mCons (mVar 17) (mCons (mVar 19) mNil))) (mCons (mCall 2 F__law_told (mCons (mVar 17) (mCons (mSl (mVar 19) (mRet none) (mPart (mC (.int 3)))) mNil))) (mCons (mCall 2 F__law_told (mCons (mVar 17) (mCons (mVar 17) mNil))) (mCons (mCall 2 F__law_told (mCons (mSl (mVar 17) (mRet none) (mPart (mC (.int 1)))) (mCons (m2 (lift2 pMulT) (mTup (mCons (mTup (mCons (mC (.str "a")) (mCons (mC (.int 9)) mNil))) mNil)) (mC (.int 60))) mNil))) (mCons (mCall 2 F__law_told (mCons (mTup mNil) (mCons (mVar 19) mNil))) mNil)))))))
  (sRet (mAndV (m2 (lift2 pEq) (mFz (mLst (mCons (mIxNG 13 (mC (.int 0))) (mCons (mBind (mBo (mIxG (mIxNG 13 (mC (.int 1))) (mC (.int 1)))) gLen) (mCons (mIxNG 13 (mC (.int 2))) (mCons (mBind (mBo (mIxG (mIxNG 13 (mC (.int 3))) (mC (.int 1)))) gLen) (mCons (mIxNG 13 (mC (.int 4))) mNil))))))) (mFz (mLst (mCons (mC (.str "large")) (mCons (mC (.int 56)) (mCons (mC (.str "missing")) (mCons (mC (.int 61)) (mCons (mTup (mCons (mC (.str "told")) (mCons (mFz (mLst (mCons (mVar 19) mNil))) mNil))) mNil)))))))) (m2 (lift2 pEq) (mC (.int 200)) (mC (.int 200))))))))))
def F_law : Fn := fnOf m_law 20
/-- what the written part says -/
structure Txt (K : PySem.W.Frag) (mg : Str → Option Value) where
  b_abs : mg "abs" = none
  b_all : mg "all" = none
  b_any : mg "any" = none
  b_int : mg "int" = none
  b_isinstance : mg "isinstance" = none
  b_len : mg "len" = none
  b_list : mg "list" = none
  b_range : mg "range" = none
  b_repr : mg "repr" = none
  b_set : mg "set" = none
  b_sorted : mg "sorted" = none
  b_sum : mg "sum" = none
  b_tuple : mg "tuple" = none
  t_FIRST : Tok
  c_FIRST : mg "FIRST" = some (.str "abcdefghijklmnopqrstuvwxyz" t_FIRST)
  t_LATER : Tok
  c_LATER : mg "LATER" = some (.str "abcdefghijklmnopqrstuvwxyz0123456789" t_LATER)
  t_MAX_LISTED : Tok
  c_MAX_LISTED : mg "MAX_LISTED" = some (.int 200 t_MAX_LISTED)
  t_MAX_LOG : Tok
  c_MAX_LOG : mg "MAX_LOG" = some (.int 60 t_MAX_LOG)
  t_MAX_NAME : Tok
  c_MAX_NAME : mg "MAX_NAME" = some (.int 999 t_MAX_NAME)
  t_MAX_WORD : Tok
  c_MAX_WORD : mg "MAX_WORD" = some (.int 12 t_MAX_WORD)
  a__law_choices : Addr
  d__law_choices : FuncData
  g__law_choices : mg "_law_choices" = some (.ref a__law_choices)
  u__law_choices : L2.Fun K "_law_choices" "_law_choices" s__law_choices a__law_choices d__law_choices
  n__law_choices : Binds K d__law_choices ["many", "few"] []
  a__law_next : Addr
  d__law_next : FuncData
  g__law_next : mg "_law_next" = some (.ref a__law_next)
  u__law_next : L2.Fun K "_law_next" "_law_next" s__law_next a__law_next d__law_next
  n__law_next : Binds K d__law_next ["state", "many"] []
  a__law_log : Addr
  d__law_log : FuncData
  g__law_log : mg "_law_log" = some (.ref a__law_log)
  u__law_log : L2.Fun K "_law_log" "_law_log" s__law_log a__law_log d__law_log
  n__law_log : Binds K d__law_log ["state", "words", "most", "names"] []
  a__law_merged : Addr
  d__law_merged : FuncData
  g__law_merged : mg "_law_merged" = some (.ref a__law_merged)
  u__law_merged : L2.Fun K "_law_merged" "_law_merged" s__law_merged a__law_merged d__law_merged
  n__law_merged : Binds K d__law_merged ["one", "other", "places"] []
  a__law_names : Addr
  d__law_names : FuncData
  g__law_names : mg "_law_names" = some (.ref a__law_names)
  u__law_names : L2.Fun K "_law_names" "_law_names" s__law_names a__law_names d__law_names
  n__law_names : Binds K d__law_names ["log"] []
  a__law_same : Addr
  d__law_same : FuncData
  g__law_same : mg "_law_same" = some (.ref a__law_same)
  u__law_same : L2.Fun K "_law_same" "_law_same" s__law_same a__law_same d__law_same
  n__law_same : Binds K d__law_same ["told", "due"] []
  a__law_stream : Addr
  d__law_stream : FuncData
  g__law_stream : mg "_law_stream" = some (.ref a__law_stream)
  u__law_stream : L2.Fun K "_law_stream" "_law_stream" s__law_stream a__law_stream d__law_stream
  n__law_stream : Binds K d__law_stream ["script"] []
  a_is_word : Addr
  d_is_word : FuncData
  g_is_word : mg "is_word" = some (.ref a_is_word)
  u_is_word : L2.Fun K "is_word" "is_word" s_is_word a_is_word d_is_word
  n_is_word : Binds K d_is_word ["text"] []
  a_check_log : Addr
  d_check_log : FuncData
  g_check_log : mg "check_log" = some (.ref a_check_log)
  u_check_log : L2.Fun K "check_log" "check_log" s_check_log a_check_log d_check_log
  n_check_log : Binds K d_check_log ["log"] []
  a_names_of_known : Addr
  d_names_of_known : FuncData
  g_names_of_known : mg "names_of_known" = some (.ref a_names_of_known)
  u_names_of_known : L2.Fun K "names_of_known" "names_of_known" s_names_of_known a_names_of_known d_names_of_known
  n_names_of_known : Binds K d_names_of_known ["log"] []
  a_all_merges : Addr
  d_all_merges : FuncData
  g_all_merges : mg "all_merges" = some (.ref a_all_merges)
  u_all_merges : L2.Fun K "all_merges" "all_merges" s_all_merges a_all_merges d_all_merges
  n_all_merges : Binds K d_all_merges ["one", "other"] []
  a__law_told : Addr
  d__law_told : FuncData
  g__law_told : mg "_law_told" = some (.ref a__law_told)
  u__law_told : L2.Fun K "_law_told" "_law_told" s__law_told a__law_told d__law_told
  n__law_told : Binds K d__law_told ["one", "other"] []
  a__law_words : Addr
  d__law_words : FuncData
  g__law_words : mg "_law_words" = some (.ref a__law_words)
  u__law_words : L2.Fun K "_law_words" "_law_words" s__law_words a__law_words d__law_words
  n__law_words : Binds K d__law_words ["state"] []
  a_law : Addr
  d_law : FuncData
  g_law : mg "law" = some (.ref a_law)
  u_law : L2.Fun K "law" "law" s_law a_law d_law
  n_law : Binds K d_law ["script"] []
  a__law_error : Addr
  d__law_error : FuncData
  g__law_error : mg "_law_error" = some (.ref a__law_error)
  u__law_error : L2.Fun K "_law_error" "_law_error" s__law_error a__law_error d__law_error
  n__law_error : Binds K d__law_error ["e"] []
  C_Missing : Addr
  x_Missing : ExcK K mg "Missing" C_Missing
  C_NotAllowed : Addr
  x_NotAllowed : ExcK K mg "NotAllowed" C_NotAllowed
  C_TooLarge : Addr
  x_TooLarge : ExcK K mg "TooLarge" C_TooLarge
  C_BadPaper : Addr
  g_BadPaper : mg "BadPaper" = some (.ref C_BadPaper)
  C_BadForm : Addr
  g_BadForm : mg "BadForm" = some (.ref C_BadForm)
  C_WardenError : Addr
  w_WardenError : mg "WardenError" = some (.ref C_WardenError)
  e_Missing : ExcC K C_Missing
  m_Missing : PySem.W.exmOne K (.ref C_Missing) (.ref C_WardenError) = some true
  i_Missing_NotAllowed : PySem.W.kitOne K (.ref C_Missing) (.ref C_NotAllowed) = some false
  i_Missing_TooLarge : PySem.W.kitOne K (.ref C_Missing) (.ref C_TooLarge) = some false
  i_Missing_Missing : PySem.W.kitOne K (.ref C_Missing) (.ref C_Missing) = some true
  i_Missing_BadPaper : PySem.W.kitOne K (.ref C_Missing) (.ref C_BadPaper) = some false
  i_Missing_BadForm : PySem.W.kitOne K (.ref C_Missing) (.ref C_BadForm) = some false
  e_NotAllowed : ExcC K C_NotAllowed
  m_NotAllowed : PySem.W.exmOne K (.ref C_NotAllowed) (.ref C_WardenError) = some true
  i_NotAllowed_NotAllowed : PySem.W.kitOne K (.ref C_NotAllowed) (.ref C_NotAllowed) = some true
  i_NotAllowed_TooLarge : PySem.W.kitOne K (.ref C_NotAllowed) (.ref C_TooLarge) = some false
  i_NotAllowed_Missing : PySem.W.kitOne K (.ref C_NotAllowed) (.ref C_Missing) = some false
  i_NotAllowed_BadPaper : PySem.W.kitOne K (.ref C_NotAllowed) (.ref C_BadPaper) = some false
  i_NotAllowed_BadForm : PySem.W.kitOne K (.ref C_NotAllowed) (.ref C_BadForm) = some false
  e_TooLarge : ExcC K C_TooLarge
  m_TooLarge : PySem.W.exmOne K (.ref C_TooLarge) (.ref C_WardenError) = some true
  i_TooLarge_NotAllowed : PySem.W.kitOne K (.ref C_TooLarge) (.ref C_NotAllowed) = some false
  i_TooLarge_TooLarge : PySem.W.kitOne K (.ref C_TooLarge) (.ref C_TooLarge) = some true
  i_TooLarge_Missing : PySem.W.kitOne K (.ref C_TooLarge) (.ref C_Missing) = some false
  i_TooLarge_BadPaper : PySem.W.kitOne K (.ref C_TooLarge) (.ref C_BadPaper) = some false
  i_TooLarge_BadForm : PySem.W.kitOne K (.ref C_TooLarge) (.ref C_BadForm) = some false
section
variable {P : Program} {w : World} {K : PySem.W.Frag} {mg : Str → Option Value}
abbrev Txt.k__law_choices (T : Txt K mg) : PySem.W.keepIn K (.ref T.a__law_choices) = true := T.u__law_choices.kp
abbrev Txt.k__law_next (T : Txt K mg) : PySem.W.keepIn K (.ref T.a__law_next) = true := T.u__law_next.kp
abbrev Txt.k__law_log (T : Txt K mg) : PySem.W.keepIn K (.ref T.a__law_log) = true := T.u__law_log.kp
abbrev Txt.k__law_merged (T : Txt K mg) : PySem.W.keepIn K (.ref T.a__law_merged) = true := T.u__law_merged.kp
abbrev Txt.k__law_names (T : Txt K mg) : PySem.W.keepIn K (.ref T.a__law_names) = true := T.u__law_names.kp
abbrev Txt.k__law_same (T : Txt K mg) : PySem.W.keepIn K (.ref T.a__law_same) = true := T.u__law_same.kp
abbrev Txt.k__law_stream (T : Txt K mg) : PySem.W.keepIn K (.ref T.a__law_stream) = true := T.u__law_stream.kp
abbrev Txt.k_is_word (T : Txt K mg) : PySem.W.keepIn K (.ref T.a_is_word) = true := T.u_is_word.kp
abbrev Txt.k_check_log (T : Txt K mg) : PySem.W.keepIn K (.ref T.a_check_log) = true := T.u_check_log.kp
abbrev Txt.k_names_of_known (T : Txt K mg) : PySem.W.keepIn K (.ref T.a_names_of_known) = true := T.u_names_of_known.kp
abbrev Txt.k_all_merges (T : Txt K mg) : PySem.W.keepIn K (.ref T.a_all_merges) = true := T.u_all_merges.kp
abbrev Txt.k__law_told (T : Txt K mg) : PySem.W.keepIn K (.ref T.a__law_told) = true := T.u__law_told.kp
abbrev Txt.k__law_words (T : Txt K mg) : PySem.W.keepIn K (.ref T.a__law_words) = true := T.u__law_words.kp
abbrev Txt.k_law (T : Txt K mg) : PySem.W.keepIn K (.ref T.a_law) = true := T.u_law.kp
abbrev Txt.k__law_error (T : Txt K mg) : PySem.W.keepIn K (.ref T.a__law_error) = true := T.u__law_error.kp
theorem errF_cases {x t : Str} (h : errF x = some t) : (x = "Missing" ∧ t = "missing") ∨ (x = "NotAllowed" ∧ t = "refused") ∨ (x = "TooLarge" ∧ t = "large") := by
  unfold errF at h
  by_cases h0 : x = "Missing"
  · rw [if_pos h0] at h
    cases h
    exact .inl ⟨h0, rfl⟩
  · rw [if_neg h0] at h
    by_cases h1 : x = "NotAllowed"
    · rw [if_pos h1] at h
      cases h
      exact .inr (.inl ⟨h1, rfl⟩)
    · rw [if_neg h1] at h
      by_cases h2 : x = "TooLarge"
      · rw [if_pos h2] at h
        cases h
        exact .inr (.inr (⟨h2, rfl⟩))
      · rw [if_neg h2] at h
        cases h
theorem err_cls (T : Txt K mg) : ∀ nm t, errF nm = some t → ∃ C, mg nm = some (.ref C) := fun nm t h => by
  rcases errF_cases h with ⟨rfl, rfl⟩ | ⟨rfl, rfl⟩ | ⟨rfl, rfl⟩
  · exact ⟨_, T.x_Missing.gC⟩
  · exact ⟨_, T.x_NotAllowed.gC⟩
  · exact ⟨_, T.x_TooLarge.gC⟩
theorem err_is (T : Txt K mg) : ∀ nm t C, errF nm = some t → mg nm = some (.ref C) → PySem.W.exmOne K (.ref C) (.ref T.C_WardenError) = some true := fun nm t C h e => by
  rcases errF_cases h with ⟨rfl, rfl⟩ | ⟨rfl, rfl⟩ | ⟨rfl, rfl⟩
  · cases T.x_Missing.gC.symm.trans e
    exact T.m_Missing
  · cases T.x_NotAllowed.gC.symm.trans e
    exact T.m_NotAllowed
  · cases T.x_TooLarge.gC.symm.trans e
    exact T.m_TooLarge
theorem ok_error (T : Txt K mg) (base : Heap) : FnX P w K mg base 2 T.a__law_error T.d__law_error "e" errF := by
  obtain ⟨oc, od, kV, doc, pm, an, cdv, ct, osl, e0, lk, hcd⟩ := T.u__law_error.ex
  rw [e0] at lk ⊢
  refine fnX_of lk hcd sc__law_error fun A oo s H a C oe en t hr hh zn fl hm hF => ?_
  have hu : (A.deeper (envOfC "_law_error" (defScope s__law_error) s.heap.objs.size T.a__law_error cdv)).units + 100 < cLine := by
    have := hr.un
    omega
  have fl' : ∃ vs, oe.data = .fields vs := fl.imp fun _ h => h.1
  have hp : (a, oe) ∈ (L2H.cxH (L2N.CX P w) P w K mg base ["e", "names", "one"] "_law_error" (defScope s__law_error) T.a__law_error cdv A oo s H (fun _ _ _ => False) (a, oe)).pn := .head _
  have hot : Hot (L2H.cxH (L2N.CX P w) P w K mg base ["e", "names", "one"] "_law_error" (defScope s__law_error) T.a__law_error cdv A oo s H (fun _ _ _ => False) (a, oe)) a oe := ⟨hh, .head _, fl⟩
  rcases errF_cases hF with ⟨rfl, rfl⟩ | ⟨rfl, rfl⟩ | ⟨rfl, rfl⟩
  · cases T.x_Missing.gC.symm.trans hm
    refine ⟨m_err a false false true false false, _, ?_, (own_at (lst_at (cons_at (isE_at a _ _ _) (cons_at (isE_at a _ _ _) (cons_at (isE_at a _ _ _) (cons_at (isE_at a _ _ _) (cons_at (isE_at a _ _ _) rfl))))) rfl)).trans rfl⟩
    exact (css_cons (cs_own 1 (cf_lst (ca_cons (ce_isE 0 hp T.e_Missing zn.zc fl' T.x_NotAllowed.gC T.i_Missing_NotAllowed T.b_isinstance) (ca_cons (ce_isE 0 hp T.e_Missing zn.zc fl' T.x_TooLarge.gC T.i_Missing_TooLarge T.b_isinstance) (ca_cons (ce_isE 0 hp T.e_Missing zn.zc fl' T.x_Missing.gC T.i_Missing_Missing T.b_isinstance) (ca_cons (ce_isE 0 hp T.e_Missing zn.zc fl' T.g_BadPaper T.i_Missing_BadPaper T.b_isinstance) (ca_cons (ce_isE 0 hp T.e_Missing zn.zc fl' T.g_BadForm T.i_Missing_BadForm T.b_isinstance) ca_nil)))))) sc__law_error.nd)
      (css_cons (cs_if (ct_cmp (cc_of (opp_ne hu).c (ce_sumB hot (cb_var 1) T.b_int T.b_sum (by decide +kernel) (by decide +kernel) rfl (by decide +kernel) rfl (fun _ => rfl)) ce_int)) (css_one (cs_ret ce_str)) css_nil)
      (css_one (cs_ret (ce_ixg hu (ce_f (cf_lst (ca_cons ce_str (ca_cons ce_str (ca_cons ce_str (ca_cons ce_str (ca_cons ce_str ca_nil))))))) (ce_indexN 1 hu ce_bool))))))
  · cases T.x_NotAllowed.gC.symm.trans hm
    refine ⟨m_err a true false false false false, _, ?_, (own_at (lst_at (cons_at (isE_at a _ _ _) (cons_at (isE_at a _ _ _) (cons_at (isE_at a _ _ _) (cons_at (isE_at a _ _ _) (cons_at (isE_at a _ _ _) rfl))))) rfl)).trans rfl⟩
    exact (css_cons (cs_own 1 (cf_lst (ca_cons (ce_isE 0 hp T.e_NotAllowed zn.zc fl' T.x_NotAllowed.gC T.i_NotAllowed_NotAllowed T.b_isinstance) (ca_cons (ce_isE 0 hp T.e_NotAllowed zn.zc fl' T.x_TooLarge.gC T.i_NotAllowed_TooLarge T.b_isinstance) (ca_cons (ce_isE 0 hp T.e_NotAllowed zn.zc fl' T.x_Missing.gC T.i_NotAllowed_Missing T.b_isinstance) (ca_cons (ce_isE 0 hp T.e_NotAllowed zn.zc fl' T.g_BadPaper T.i_NotAllowed_BadPaper T.b_isinstance) (ca_cons (ce_isE 0 hp T.e_NotAllowed zn.zc fl' T.g_BadForm T.i_NotAllowed_BadForm T.b_isinstance) ca_nil)))))) sc__law_error.nd)
      (css_cons (cs_if (ct_cmp (cc_of (opp_ne hu).c (ce_sumB hot (cb_var 1) T.b_int T.b_sum (by decide +kernel) (by decide +kernel) rfl (by decide +kernel) rfl (fun _ => rfl)) ce_int)) (css_one (cs_ret ce_str)) css_nil)
      (css_one (cs_ret (ce_ixg hu (ce_f (cf_lst (ca_cons ce_str (ca_cons ce_str (ca_cons ce_str (ca_cons ce_str (ca_cons ce_str ca_nil))))))) (ce_indexN 1 hu ce_bool))))))
  · cases T.x_TooLarge.gC.symm.trans hm
    refine ⟨m_err a false true false false false, _, ?_, (own_at (lst_at (cons_at (isE_at a _ _ _) (cons_at (isE_at a _ _ _) (cons_at (isE_at a _ _ _) (cons_at (isE_at a _ _ _) (cons_at (isE_at a _ _ _) rfl))))) rfl)).trans rfl⟩
    exact (css_cons (cs_own 1 (cf_lst (ca_cons (ce_isE 0 hp T.e_TooLarge zn.zc fl' T.x_NotAllowed.gC T.i_TooLarge_NotAllowed T.b_isinstance) (ca_cons (ce_isE 0 hp T.e_TooLarge zn.zc fl' T.x_TooLarge.gC T.i_TooLarge_TooLarge T.b_isinstance) (ca_cons (ce_isE 0 hp T.e_TooLarge zn.zc fl' T.x_Missing.gC T.i_TooLarge_Missing T.b_isinstance) (ca_cons (ce_isE 0 hp T.e_TooLarge zn.zc fl' T.g_BadPaper T.i_TooLarge_BadPaper T.b_isinstance) (ca_cons (ce_isE 0 hp T.e_TooLarge zn.zc fl' T.g_BadForm T.i_TooLarge_BadForm T.b_isinstance) ca_nil)))))) sc__law_error.nd)
      (css_cons (cs_if (ct_cmp (cc_of (opp_ne hu).c (ce_sumB hot (cb_var 1) T.b_int T.b_sum (by decide +kernel) (by decide +kernel) rfl (by decide +kernel) rfl (fun _ => rfl)) ce_int)) (css_one (cs_ret ce_str)) css_nil)
      (css_one (cs_ret (ce_ixg hu (ce_f (cf_lst (ca_cons ce_str (ca_cons ce_str (ca_cons ce_str (ca_cons ce_str (ca_cons ce_str ca_nil))))))) (ce_indexN 1 hu ce_bool))))))
theorem ok__law_choices (T : Txt K mg) (base : Heap) : FnG P w K mg base (L2N.CX P w) 1 T.a__law_choices T.d__law_choices ["many", "few"] (spC ⟨K, w⟩ mg F__law_choices 2) := by
  refine fn_clean T.u__law_choices sc__law_choices fun cdv A outer s H E μ hr => ?_
  have hu : (A.deeper (envOfC "_law_choices" (defScope s__law_choices) s.heap.objs.size T.a__law_choices cdv)).units + 100 < cLine := by
    have := hr.room.un
    omega
  exact (css_cons (cs_own 2 (cf_lst (ca_cons (ce_tup ca_nil) ca_nil)) sc__law_choices.nd)
    (css_cons (cs_for (passes_of rfl) rfl (ci_rg1 T.b_range (ce_var 1)) (cg_name 3 sc__law_choices.nd)
    (css_cons (cs_own 4 (cf_lst ca_nil) sc__law_choices.nd)
    (css_cons (cs_for (passes_of rfl) rfl (ci_of (ce_var 2)) (cg_name 5 sc__law_choices.nd)
    (css_cons (cs_set 6 ce_int sc__law_choices.nd)
    (css_cons (cs_if (ct_cmp (cc_of (opp_gt hu).c (ce_len (cb_var 5) T.b_len) ce_int)) (css_one (cs_set 6 (ce_bin opp_add.c (ce_ixng 5 hu (ce_neg ce_int)) ce_int) sc__law_choices.nd)) css_nil)
    (css_one (cs_expr (ce_extend 4 (cb_f (cf_lc (own := [("at", 7)]) rfl sc__law_choices.nd (ci_rg2 T.b_range (ce_var 6) (ce_var 0)) (blkOk_by (N := ["many", "few", "rows", "k", "longer", "row", "start", "at"]) (sc := defScope s__law_choices) (by decide +kernel)) (by decide) (fun _ _ _ _ _ => (cg_name 7 sc__law_choices.nd)) (fun _ _ _ _ _ => pts_yes) (fun _ _ _ _ _ _ _ => (ce_bin opp_add.c (ce_var 5) (ce_tup (ca_cons (ce_var 7) ca_nil))))))))))))
    (css_one (cs_set 2 (ce_var 4) sc__law_choices.nd)))))
    (css_one (cs_ret (ce_var 2)))))
theorem ok__law_next (T : Txt K mg) (base : Heap) : FnG P w K mg base (L2N.CX P w) 1 T.a__law_next T.d__law_next ["state", "many"] (spC ⟨K, w⟩ mg F__law_next 2) := by
  refine fn_clean T.u__law_next sc__law_next fun cdv A outer s H E μ hr => ?_
  have hu : (A.deeper (envOfC "_law_next" (defScope s__law_next) s.heap.objs.size T.a__law_next cdv)).units + 100 < cLine := by
    have := hr.room.un
    omega
  exact (css_cons (cs_putG 0 hu (ce_bin opp_add.c (ce_ixng 0 hu ce_int) ce_int) ce_int)
    (css_cons (cs_set 2 (ce_bin opp_div.c (ce_ixng 0 hu ce_int) (ce_len (cb_of (ce_ixng 0 hu ce_int)) T.b_len)) sc__law_next.nd)
    (css_one (cs_ret (ce_bin opp_mod.c (ce_intc (cb_of (ce_bin opp_add.c (ce_bin opp_add.c (ce_ixg hu (ce_ixng 0 hu ce_int) (ce_bin opp_mod.c (ce_ixng 0 hu ce_int) (ce_len (cb_of (ce_ixng 0 hu ce_int)) T.b_len))) (ce_bin opp_mulT.c (ce_var 2) ce_int)) (ce_bin opp_mulT.c (ce_bin opp_mulT.c (ce_ixng 0 hu ce_int) (ce_var 2)) ce_int))) T.b_int) (ce_var 1))))))
theorem ok__law_log (T : Txt K mg) (base : Heap) : FnG P w K mg base (L2N.CX P w) 2 T.a__law_log T.d__law_log ["state", "words", "most", "names"] (spC ⟨K, w⟩ mg F__law_log 4) := by
  refine fn_clean T.u__law_log sc__law_log fun cdv A outer s H E μ hr => ?_
  have hu : (A.deeper (envOfC "_law_log" (defScope s__law_log) s.heap.objs.size T.a__law_log cdv)).units + 100 < cLine := by
    have := hr.room.un
    omega
  exact (css_one (cs_ret (ce_tupc (cb_f (cf_lc (own := [("k", 4)]) rfl sc__law_log.nd (ci_rg1 T.b_range (ce_call (ok__law_next T base) (hr.mono (by decide)) T.g__law_next T.k__law_next T.n__law_next (L2N.takes_of rfl rfl rfl rfl) (ca_cons (ce_var 0) (ca_cons (ce_bin opp_add.c (ce_var 2) ce_int) ca_nil)))) (blkOk_by (N := ["state", "words", "most", "names", "k"]) (sc := defScope s__law_log) (by decide +kernel)) (by decide) (fun _ _ _ _ _ => (cg_name 4 sc__law_log.nd)) (fun _ _ _ _ _ => pts_yes) (fun _ _ _ _ _ _ _ => (ce_tup (ca_cons (ce_ixng 1 hu (ce_call (ok__law_next T base) (hr.mono (by decide)) T.g__law_next T.k__law_next T.n__law_next takes_q (ca_cons (ce_var 0) (ca_cons (ce_len (cb_var 1) T.b_len) ca_nil)))) (ca_cons (ce_call (ok__law_next T base) (hr.mono (by decide)) T.g__law_next T.k__law_next T.n__law_next takes_q (ca_cons (ce_var 0) (ca_cons (ce_var 3) ca_nil))) ca_nil)))))) T.b_tuple)))
theorem ok__law_merged (T : Txt K mg) (base : Heap) : FnG P w K mg base (L2N.CX P w) 1 T.a__law_merged T.d__law_merged ["one", "other", "places"] (spC ⟨K, w⟩ mg F__law_merged 3) := by
  refine fn_clean T.u__law_merged sc__law_merged fun cdv A outer s H E μ hr => ?_
  have hu : (A.deeper (envOfC "_law_merged" (defScope s__law_merged) s.heap.objs.size T.a__law_merged cdv)).units + 100 < cLine := by
    have := hr.room.un
    omega
  exact (css_cons (cs_own 3 (cf_lst ca_nil) sc__law_merged.nd)
    (css_cons (cs_set 4 (ce_newd (ca_cons (ce_newl (cf_lstd rfl (cb_var 0) T.b_list)) (ca_cons (ce_newl (cf_lstd rfl (cb_var 1) T.b_list)) ca_nil))) sc__law_merged.nd)
    (css_cons (cs_for (passes_of rfl) rfl (ci_rg1 T.b_range (ce_bin opp_add.c (ce_len (cb_var 0) T.b_len) (ce_len (cb_var 1) T.b_len))) (cg_name 5 sc__law_merged.nd)
    (css_one (cs_expr (ce_append 3 (ce_popAtO (ce_ixng 4 hu (ce_intc (cb_of (ce_cmp (cc_b (opb_notInG hu) (ce_var 5) (cb_var 2)))) T.b_int)) ce_int)))))
    (css_one (cs_ret (ce_tupc (cb_var 3) T.b_tuple))))))
theorem ok__law_names (T : Txt K mg) (base : Heap) : FnG P w K mg base (L2N.CX P w) 1 T.a__law_names T.d__law_names ["log"] (spC ⟨K, w⟩ mg F__law_names 1) := by
  refine fn_clean T.u__law_names sc__law_names fun cdv A outer s H E μ hr => ?_
  have hu : (A.deeper (envOfC "_law_names" (defScope s__law_names) s.heap.objs.size T.a__law_names cdv)).units + 100 < cLine := by
    have := hr.room.un
    omega
  exact (css_one (cs_ret (ce_f (cf_sortSet rfl hu (cset rfl (cb_f (cf_lc (own := [("word", 1), ("name", 2)]) rfl sc__law_names.nd (ci_of (ce_var 0)) (blkOk_by (N := ["log", "word", "name"]) (sc := defScope s__law_names) (by decide +kernel)) (by decide) (fun _ _ _ _ _ => (cg_tup rfl (cgs_cons (cg_name 1 sc__law_names.nd) (cgs_cons (cg_name 2 sc__law_names.nd) cgs_nil)) (unCons_len (unCons_len unNil_len)))) (fun _ _ _ _ _ => pts_yes) (fun _ _ _ _ _ _ _ => (ce_var 2)))) T.b_set) T.b_sorted))))
theorem ok__law_same (T : Txt K mg) (base : Heap) : FnG P w K mg base (L2N.CX P w) 1 T.a__law_same T.d__law_same ["told", "due"] (spC ⟨K, w⟩ mg F__law_same 2) := by
  refine fn_clean T.u__law_same sc__law_same fun cdv A outer s H E μ hr => ?_
  have hu : (A.deeper (envOfC "_law_same" (defScope s__law_same) s.heap.objs.size T.a__law_same cdv)).units + 100 < cLine := by
    have := hr.room.un
    omega
  exact (css_one (cs_ret (ce_cmp (cc_of (opp_eq hu).c (ce_repr hr.gd hu (cb_f (cf_lst (ca_cons (ce_var 0) ca_nil))) T.b_repr) (ce_repr hr.gd hu (cb_f (cf_lst (ca_cons (ce_var 1) ca_nil))) T.b_repr)))))
theorem ok__law_stream (T : Txt K mg) (base : Heap) : FnG P w K mg base (L2N.CX P w) 1 T.a__law_stream T.d__law_stream ["script"] (spC ⟨K, w⟩ mg F__law_stream 1) := by
  refine fn_clean T.u__law_stream sc__law_stream fun cdv A outer s H E μ hr => ?_
  have hu : (A.deeper (envOfC "_law_stream" (defScope s__law_stream) s.heap.objs.size T.a__law_stream cdv)).units + 100 < cLine := by
    have := hr.room.un
    omega
  exact (css_cons (cs_own 1 (cf_lst ca_nil) sc__law_stream.nd)
    (css_cons (cs_for (passes_of rfl) rfl (ci_of (ce_f (cf_sl (ce_var 0) cp_none (cp_some ce_int)))) (cg_name 2 sc__law_stream.nd)
    (css_cons (cs_set 3 (ce_abs (cb_of (ce_intc (cb_var 2) T.b_int)) T.b_abs) sc__law_stream.nd)
    (css_one (cs_if (ct_cmp (cc_of (opp_ge hu).c (ce_var 3) (ce_bin opp_pow.c ce_int ce_int))) (css_one (cs_for (passes_of rfl) rfl (ci_rg1 T.b_range ce_int) (cg_name 4 sc__law_stream.nd)
    (css_cons (cs_expr (ce_append 1 (ce_bin opp_mod.c (ce_intc (cb_var 3) T.b_int) ce_int)))
    (css_cons (cs_set 3 (ce_bin opp_div.c (ce_var 3) ce_int) sc__law_stream.nd)
    (css_one (cs_if (ct_cmp (cc_of (opp_eq hu).c (ce_var 3) ce_int)) (css_one cs_break) css_nil)))))) (css_cons (cs_set 5 (ce_bin opp_mod.c (ce_intc (cb_var 3) T.b_int) ce_int) sc__law_stream.nd)
    (css_one (cs_for (passes_of rfl) rfl (ci_rg1 T.b_range ce_int) (cg_name 4 sc__law_stream.nd)
    (css_cons (cs_set 5 (ce_bin opp_mod.c (ce_intc (cb_of (ce_bin opp_add.c (ce_bin opp_add.c (ce_bin opp_mulT.c (ce_var 5) ce_int) (ce_bin opp_mulT.c ce_int (ce_var 4))) ce_int)) T.b_int) ce_int) sc__law_stream.nd)
    (css_one (cs_expr (ce_append 1 (ce_bin opp_mod.c (ce_bin opp_mod.c (ce_intc (cb_of (ce_bin opp_add.c (ce_bin opp_mulT.c (ce_var 5) ce_int) (ce_var 4))) T.b_int) ce_int) ce_int))))))))))))
    (css_cons (cs_if (ct_cmp (cc_of (opp_eq hu).c (ce_len (cb_var 1) T.b_len) ce_int)) (css_one (cs_expr (ce_append 1 ce_int))) css_nil)
    (css_one (cs_ret (ce_var 1))))))
theorem ok_is_word (T : Txt K mg) (base : Heap) : FnG P w K mg base (L2N.CX P w) 1 T.a_is_word T.d_is_word ["text"] (spC ⟨K, w⟩ mg F_is_word 1) := by
  refine fn_clean T.u_is_word sc_is_word fun cdv A outer s H E μ hr => ?_
  have hu : (A.deeper (envOfC "is_word" (defScope s_is_word) s.heap.objs.size T.a_is_word cdv)).units + 100 < cLine := by
    have := hr.room.un
    omega
  exact (css_cons (cs_if (ct_w (cw_or (ct_not (ct_chain (opp_le hu).c (opp_le hu).c ce_int (ce_len (cb_var 0) T.b_len) (ce_glob (y := .int 12) (v := .int 12) T.c_MAX_WORD ⟨_, rfl⟩ (fun _ => den_int _)))) (cw_or1 (ct_cmp (cc_b (opb_notInG hu) (ce_ixng 0 hu ce_int) (cb_of (ce_glob (y := .str "abcdefghijklmnopqrstuvwxyz") (v := .str "abcdefghijklmnopqrstuvwxyz") T.c_FIRST ⟨_, rfl⟩ (fun _ => den_str _)))))))) (css_one (cs_ret ce_bool)) css_nil)
    (css_one (cs_ret (ce_all rfl (cb_f (cf_lc (own := [("sign", 1)]) rfl sc_is_word.nd (ci_of (ce_var 0)) (blkOk_by (N := ["text", "sign"]) (sc := defScope s_is_word) (by decide +kernel)) (by decide) (fun _ _ _ _ _ => (cg_name 1 sc_is_word.nd)) (fun _ _ _ _ _ => pts_yes) (fun _ _ _ _ _ _ _ => (ce_cmp (cc_b (opb_inG hu) (ce_var 1) (cb_of (ce_glob (y := .str "abcdefghijklmnopqrstuvwxyz0123456789") (v := .str "abcdefghijklmnopqrstuvwxyz0123456789") T.c_LATER ⟨_, rfl⟩ (fun _ => den_str _)))))))) T.b_all))))
theorem ok_check_log (T : Txt K mg) (base : Heap) : FnG P w K mg base (L2N.CX P w) 2 T.a_check_log T.d_check_log ["log"] (spC ⟨K, w⟩ mg F_check_log 1) := by
  refine fn_clean T.u_check_log sc_check_log fun cdv A outer s H E μ hr => ?_
  have hu : (A.deeper (envOfC "check_log" (defScope s_check_log) s.heap.objs.size T.a_check_log cdv)).units + 100 < cLine := by
    have := hr.room.un
    omega
  exact (css_cons (cs_if (ct_cmp (cc_of (opp_gt hu).c (ce_len (cb_var 0) T.b_len) (ce_glob (y := .int 60) (v := .int 60) T.c_MAX_LOG ⟨_, rfl⟩ (fun _ => den_int _)))) (css_one (cs_raise rfl (L2N.takes_of rfl rfl rfl rfl) T.x_TooLarge)) css_nil)
    (css_cons (cs_if (ct_not (ct_val (ce_all rfl (cb_f (cf_lc (own := [("word", 1), ("name", 2)]) rfl sc_check_log.nd (ci_of (ce_var 0)) (blkOk_by (N := ["log", "word", "name"]) (sc := defScope s_check_log) (by decide +kernel)) (by decide) (fun _ _ _ _ _ => (cg_tup rfl (cgs_cons (cg_name 1 sc_check_log.nd) (cgs_cons (cg_name 2 sc_check_log.nd) cgs_nil)) (unCons_len (unCons_len unNil_len)))) (fun _ _ _ _ _ => pts_yes) (fun _ _ _ _ _ _ _ => (ce_and (ce_call (ok_is_word T base) (hr.mono (by decide)) T.g_is_word T.k_is_word T.n_is_word takes_q (ca_cons (ce_var 1) ca_nil)) (ce_one (ce_chain (opp_le hu).c (opp_le hu).c ce_int (ce_var 2) (ce_glob (y := .int 999) (v := .int 999) T.c_MAX_NAME ⟨_, rfl⟩ (fun _ => den_int _)))))))) T.b_all))) (css_one (cs_raise rfl (L2N.takes_of rfl rfl rfl rfl) T.x_NotAllowed)) css_nil)
    (css_one (cs_ret ce_none))))
theorem ok_names_of_known (T : Txt K mg) (base : Heap) : FnG P w K mg base (L2N.CX P w) 1 T.a_names_of_known T.d_names_of_known ["log"] (spC ⟨K, w⟩ mg F_names_of_known 1) := by
  refine fn_clean T.u_names_of_known sc_names_of_known fun cdv A outer s H E μ hr => ?_
  have hu : (A.deeper (envOfC "names_of_known" (defScope s_names_of_known) s.heap.objs.size T.a_names_of_known cdv)).units + 100 < cLine := by
    have := hr.room.un
    omega
  exact (css_one (cs_ret (ce_f (cf_lstd rfl (cb_d (cd_dc (own := [("_", 1), ("name", 2)]) rfl sc_names_of_known.nd (ci_of (ce_var 0)) (blkOk_by (N := ["log", "_", "name"]) (sc := defScope s_names_of_known) (by decide +kernel)) (by decide) (fun _ _ _ _ _ => (cg_tup rfl (cgs_cons (cg_name 1 sc_names_of_known.nd) (cgs_cons (cg_name 2 sc_names_of_known.nd) cgs_nil)) (unCons_len (unCons_len unNil_len)))) (fun _ _ _ _ _ => pts_yes) (fun _ _ _ _ _ _ _ => (ce_var 2)) (fun _ _ _ _ _ _ _ => ce_bool))) T.b_list))))
theorem ok_all_merges (T : Txt K mg) (base : Heap) : FnG P w K mg base (L2N.CX P w) 3 T.a_all_merges T.d_all_merges ["one", "other"] (spC ⟨K, w⟩ mg F_all_merges 2) := by
  refine fn_clean T.u_all_merges sc_all_merges fun cdv A outer s H E μ hr => ?_
  have hu : (A.deeper (envOfC "all_merges" (defScope s_all_merges) s.heap.objs.size T.a_all_merges cdv)).units + 100 < cLine := by
    have := hr.room.un
    omega
  exact (css_cons (cs_expr (ce_call (ok_check_log T base) (hr.mono (by decide)) T.g_check_log T.k_check_log T.n_check_log (L2N.takes_of rfl rfl rfl rfl) (ca_cons (ce_var 0) ca_nil)))
    (css_cons (cs_expr (ce_call (ok_check_log T base) (hr.mono (by decide)) T.g_check_log T.k_check_log T.n_check_log (L2N.takes_of rfl rfl rfl rfl) (ca_cons (ce_var 1) ca_nil)))
    (css_cons (cs_if (ct_val (ce_any rfl (cb_f (cf_lc (own := [("name", 2)]) rfl sc_all_merges.nd (ci_of (ce_call (ok_names_of_known T base) (hr.mono (by decide)) T.g_names_of_known T.k_names_of_known T.n_names_of_known (L2N.takes_of rfl rfl rfl rfl) (ca_cons (ce_var 1) ca_nil))) (blkOk_by (N := ["one", "other", "name", "rows", "at", "to", "found", "log"]) (sc := defScope s_all_merges) (by decide +kernel)) (by decide) (fun _ _ _ _ _ => (cg_name 2 sc_all_merges.nd)) (fun _ _ _ _ _ => pts_yes) (fun _ _ _ _ _ _ _ => (ce_cmp (cc_b (opb_inG hu) (ce_var 2) (cb_of (ce_call (ok_names_of_known T base) (hr.mono (by decide)) T.g_names_of_known T.k_names_of_known T.n_names_of_known takes_q (ca_cons (ce_var 0) ca_nil)))))))) T.b_any)) (css_one (cs_raise rfl (L2N.takes_of rfl rfl rfl rfl) T.x_Missing)) css_nil)
    (css_cons (cs_ownD 3 (cd_one hu (fun _ _ => (ce_tup (ca_cons ce_int (ca_cons ce_int ca_nil)))) (fun _ _ => (ce_f (cf_lst (ca_cons (ce_tup ca_nil) ca_nil))))) sc_all_merges.nd)
    (css_cons (cs_for (passes_of rfl) rfl (ci_rg1 T.b_range (ce_bin opp_add.c (ce_len (cb_var 0) T.b_len) ce_int)) (cg_name 4 sc_all_merges.nd)
    (css_one (cs_for (passes_of rfl) rfl (ci_rg1 T.b_range (ce_bin opp_add.c (ce_len (cb_var 1) T.b_len) ce_int)) (cg_name 5 sc_all_merges.nd)
    (css_one (cs_if (ct_cmp (cc_of (opp_ne hu).c (ce_tup (ca_cons (ce_var 4) (ca_cons (ce_var 5) ca_nil))) (ce_tup (ca_cons ce_int (ca_cons ce_int ca_nil))))) (css_cons (cs_own 6 (cf_if (ct_cmp (cc_of (opp_gt hu).c (ce_var 4) ce_int)) (cf_lc (own := [("log", 7)]) rfl sc_all_merges.nd (ci_of (ce_ixng 3 hu (ce_tup (ca_cons (ce_bin opp_sub.c (ce_var 4) ce_int) (ca_cons (ce_var 5) ca_nil))))) (blkOk_by (N := ["one", "other", "name", "rows", "at", "to", "found", "log"]) (sc := defScope s_all_merges) (by decide +kernel)) (by decide) (fun _ _ _ _ _ => (cg_name 7 sc_all_merges.nd)) (fun _ _ _ _ _ => pts_yes) (fun _ _ _ _ _ _ _ => (ce_tup (ca_star (cb_var 7) (ca_cons (ce_ixng 0 hu (ce_bin opp_sub.c (ce_var 4) ce_int)) ca_nil))))) (cf_lst ca_nil)) sc_all_merges.nd)
    (css_cons (cs_expr (ce_extend 6 (cb_f (cf_if (ct_cmp (cc_of (opp_gt hu).c (ce_var 5) ce_int)) (cf_lc (own := [("log", 7)]) rfl sc_all_merges.nd (ci_of (ce_ixng 3 hu (ce_tup (ca_cons (ce_var 4) (ca_cons (ce_bin opp_sub.c (ce_var 5) ce_int) ca_nil))))) (blkOk_by (N := ["one", "other", "name", "rows", "at", "to", "found", "log"]) (sc := defScope s_all_merges) (by decide +kernel)) (by decide) (fun _ _ _ _ _ => (cg_name 7 sc_all_merges.nd)) (fun _ _ _ _ _ => pts_yes) (fun _ _ _ _ _ _ _ => (ce_tup (ca_star (cb_var 7) (ca_cons (ce_ixng 1 hu (ce_bin opp_sub.c (ce_var 5) ce_int)) ca_nil))))) (cf_lst ca_nil)))))
    (css_cons (cs_putG 3 hu (ce_var 6) (ce_tup (ca_cons (ce_var 4) (ca_cons (ce_var 5) ca_nil))))
    (css_one (cs_if (ct_cmp (cc_of (opp_gt hu).c (ce_len (cb_var 6) T.b_len) (ce_glob (y := .int 200) (v := .int 200) T.c_MAX_LISTED ⟨_, rfl⟩ (fun _ => den_int _)))) (css_one (cs_raise rfl (L2N.takes_of rfl rfl rfl rfl) T.x_TooLarge)) css_nil))))) css_nil)))))
    (css_one (cs_ret (ce_f (cf_sort hu (cb_of (ce_ixng 3 hu (ce_tup (ca_cons (ce_len (cb_var 0) T.b_len) (ca_cons (ce_len (cb_var 1) T.b_len) ca_nil))))) T.b_sorted)))))))))
theorem ok__law_told (T : Txt K mg) (base : Heap) : FnG P w K mg base (L2N.CX P w) 4 T.a__law_told T.d__law_told ["one", "other"] (spC ⟨K, w⟩ mg F__law_told 2) := by
  refine fn_clean T.u__law_told sc__law_told fun cdv A outer s H E μ hr => ?_
  have hu : (A.deeper (envOfC "_law_told" (defScope s__law_told) s.heap.objs.size T.a__law_told cdv)).units + 100 < cLine := by
    have := hr.room.un
    omega
  exact (css_one (cs_tryE (i := 2) (ok_error T base) (L2H.roomH_of (hr.room.mono (by decide))) T.g__law_error T.k__law_error T.n__law_error rfl rfl sc__law_told.nd ⟨rfl, by decide, Or.inl T.w_WardenError⟩ (L2N.takes_of rfl rfl rfl rfl) (err_is T) (err_cls T) (fun _ _ _ tk po => (css_one (cs_ret (ce_tup (ca_cons ce_str (ca_cons (ce_call (ok_all_merges T base) (hr.mono (by decide)) T.g_all_merges T.k_all_merges T.n_all_merges tk (ca_cons (ce_var 0) (ca_cons (ce_var 1) ca_nil))) ca_nil))))))))
theorem ok__law_words (T : Txt K mg) (base : Heap) : FnG P w K mg base (L2N.CX P w) 2 T.a__law_words T.d__law_words ["state"] (spC ⟨K, w⟩ mg F__law_words 1) := by
  refine fn_clean T.u__law_words sc__law_words fun cdv A outer s H E μ hr => ?_
  have hu : (A.deeper (envOfC "_law_words" (defScope s__law_words) s.heap.objs.size T.a__law_words cdv)).units + 100 < cLine := by
    have := hr.room.un
    omega
  exact (css_one (cs_ret (ce_ixg hu (ce_f (cf_lst (ca_cons (ce_tup (ca_cons ce_str (ca_cons ce_str ca_nil))) (ca_cons (ce_tup (ca_cons ce_str ca_nil)) (ca_cons (ce_tup (ca_cons ce_str (ca_cons ce_str (ca_cons ce_str ca_nil)))) (ca_cons (ce_tup (ca_cons ce_str (ca_cons ce_str ca_nil))) ca_nil)))))) (ce_call (ok__law_next T base) (hr.mono (by decide)) T.g__law_next T.k__law_next T.n__law_next (L2N.takes_of rfl rfl rfl rfl) (ca_cons (ce_var 0) (ca_cons ce_int ca_nil))))))
theorem ok_law (T : Txt K mg) (base : Heap) : FnG P w K mg base (L2N.CX P w) 5 T.a_law T.d_law ["script"] (spC ⟨K, w⟩ mg F_law 1) := by
  refine fn_clean T.u_law sc_law fun cdv A outer s H E μ hr => ?_
  have hu : (A.deeper (envOfC "law" (defScope s_law) s.heap.objs.size T.a_law cdv)).units + 100 < cLine := by
    have := hr.room.un
    omega
  exact (css_cons (cs_set 1 (ce_newd (ca_cons (ce_call (ok__law_stream T base) (hr.mono (by decide)) T.g__law_stream T.k__law_stream T.n__law_stream (L2N.takes_of rfl rfl rfl rfl) (ca_cons (ce_var 0) ca_nil)) (ca_cons ce_int ca_nil))) sc_law.nd)
    (css_cons (cs_for (passes_of rfl) rfl (ci_rg1 T.b_range ce_int) (cg_name 2 sc_law.nd)
    (css_cons (cs_set 3 (ce_call (ok__law_words T base) (hr.mono (by decide)) T.g__law_words T.k__law_words T.n__law_words (L2N.takes_of rfl rfl rfl rfl) (ca_cons (ce_var 1) ca_nil)) sc_law.nd)
    (css_cons (cs_set 4 (ce_call (ok__law_log T base) (hr.mono (by decide)) T.g__law_log T.k__law_log T.n__law_log (L2N.takes_of rfl rfl rfl rfl) (ca_cons (ce_var 1) (ca_cons (ce_var 3) (ca_cons ce_int (ca_cons ce_int ca_nil))))) sc_law.nd)
    (css_cons (cs_set 5 (ce_ixg hu (ce_f (cf_lst (ca_cons ce_int (ca_cons ce_int (ca_cons ce_int ca_nil))))) (ce_call (ok__law_next T base) (hr.mono (by decide)) T.g__law_next T.k__law_next T.n__law_next (L2N.takes_of rfl rfl rfl rfl) (ca_cons (ce_var 1) (ca_cons ce_int ca_nil)))) sc_law.nd)
    (css_cons (cs_set 6 (ce_tupc (cb_f (cf_lc (own := [("word", 7), ("name", 8)]) rfl sc_law.nd (ci_of (ce_call (ok__law_log T base) (hr.mono (by decide)) T.g__law_log T.k__law_log T.n__law_log (L2N.takes_of rfl rfl rfl rfl) (ca_cons (ce_var 1) (ca_cons (ce_var 3) (ca_cons ce_int (ca_cons ce_int ca_nil)))))) (blkOk_by (N := ["script", "state", "turn", "words", "one", "shift", "other", "word", "name", "kept", "due", "rows", "places", "told", "log", "event", "bad", "first", "k", "second"]) (sc := defScope s_law) (by decide +kernel)) (by decide) (fun _ _ _ _ _ => (cg_tup rfl (cgs_cons (cg_name 7 sc_law.nd) (cgs_cons (cg_name 8 sc_law.nd) cgs_nil)) (unCons_len (unCons_len unNil_len)))) (fun _ _ _ _ _ => pts_yes) (fun _ _ _ _ _ _ _ => (ce_tup (ca_cons (ce_var 7) (ca_cons (ce_bin opp_add.c (ce_var 8) (ce_var 5)) ca_nil)))))) T.b_tuple) sc_law.nd)
    (css_cons (cs_set 9 (ce_repr hr.gd hu (cb_of (ce_tup (ca_cons (ce_var 4) (ca_cons (ce_var 6) ca_nil)))) T.b_repr) sc_law.nd)
    (css_cons (cs_set 10 ce_str sc_law.nd)
    (css_cons (cs_if (ct_not (ct_val (ce_any rfl (cb_f (cf_lc (own := [("name", 8)]) rfl sc_law.nd (ci_of (ce_call (ok__law_names T base) (hr.mono (by decide)) T.g__law_names T.k__law_names T.n__law_names (L2N.takes_of rfl rfl rfl rfl) (ca_cons (ce_var 6) ca_nil))) (blkOk_by (N := ["script", "state", "turn", "words", "one", "shift", "other", "word", "name", "kept", "due", "rows", "places", "told", "log", "event", "bad", "first", "k", "second"]) (sc := defScope s_law) (by decide +kernel)) (by decide) (fun _ _ _ _ _ => (cg_name 8 sc_law.nd)) (fun _ _ _ _ _ => pts_yes) (fun _ _ _ _ _ _ _ => (ce_cmp (cc_b (opb_inG hu) (ce_var 8) (cb_of (ce_call (ok__law_names T base) (hr.mono (by decide)) T.g__law_names T.k__law_names T.n__law_names takes_q (ca_cons (ce_var 4) ca_nil)))))))) T.b_any))) (css_cons (cs_lcOwn 11 (own := [("places", 12)]) rfl sc_law.nd (ci_of (ce_call (ok__law_choices T base) (hr.mono (by decide)) T.g__law_choices T.k__law_choices T.n__law_choices (L2N.takes_of rfl rfl rfl rfl) (ca_cons (ce_bin opp_add.c (ce_len (cb_var 4) T.b_len) (ce_len (cb_var 6) T.b_len)) (ca_cons (ce_len (cb_var 4) T.b_len) ca_nil)))) (blkOk_by (N := ["script", "state", "turn", "words", "one", "shift", "other", "word", "name", "kept", "due", "rows", "places", "told", "log", "event", "bad", "first", "k", "second"]) (sc := defScope s_law) (by decide +kernel)) (by decide) (fun _ _ _ _ _ => (cg_name 12 sc_law.nd)) (fun _ _ _ _ _ => pts_yes) (fun _ _ _ _ _ _ _ => (ce_call (ok__law_merged T base) (hr.mono (by decide)) T.g__law_merged T.k__law_merged T.n__law_merged takes_q (ca_cons (ce_var 4) (ca_cons (ce_var 6) (ca_cons (ce_var 12) ca_nil))))) (sw_true rfl rfl rfl (by decide +kernel)))
    (css_one (cs_set 10 (ce_tup (ca_cons ce_str (ca_cons (ce_f (cf_sort hu (cb_var 11) T.b_sorted)) ca_nil))) sc_law.nd))) css_nil)
    (css_cons (cs_set 13 (ce_call (ok__law_told T base) (hr.mono (by decide)) T.g__law_told T.k__law_told T.n__law_told (L2N.takes_of rfl rfl rfl rfl) (ca_cons (ce_var 4) (ca_cons (ce_var 6) ca_nil))) sc_law.nd)
    (css_cons (cs_if (ct_not (ct_val (ce_call (ok__law_same T base) (hr.mono (by decide)) T.g__law_same T.k__law_same T.n__law_same (L2N.takes_of rfl rfl rfl rfl) (ca_cons (ce_var 13) (ca_cons (ce_var 10) ca_nil))))) (css_one (cs_ret ce_bool)) css_nil)
    (css_cons (cs_if (ct_cmp (cc_of (opp_ne hu).c (ce_var 10) ce_str)) (css_one (cs_for (passes_of rfl) rfl (ci_of (ce_ixng 13 hu ce_int)) (cg_name 14 sc_law.nd)
    (css_one (cs_if (ct_w (cw_or (ct_cmp (cc_of (opp_ne hu).c (ce_tupc (cb_f (cf_lc (own := [("event", 15)]) rfl sc_law.nd (ci_of (ce_var 14)) (blkOk_by (N := ["script", "state", "turn", "words", "one", "shift", "other", "word", "name", "kept", "due", "rows", "places", "told", "log", "event", "bad", "first", "k", "second"]) (sc := defScope s_law) (by decide +kernel)) (by decide) (fun _ _ _ _ _ => (cg_name 15 sc_law.nd)) (fun _ _ _ _ _ => pts_c fun _ _ => (ct_cmp (cc_b (opb_inG hu) (ce_ixng 15 hu ce_int) (cb_of (ce_call (ok__law_names T base) (hr.mono (by decide)) T.g__law_names T.k__law_names T.n__law_names takes_q (ca_cons (ce_var 4) ca_nil)))))) (fun _ _ _ _ _ _ _ => (ce_var 15)))) T.b_tuple) (ce_var 4))) (cw_or1 (ct_cmp (cc_of (opp_ne hu).c (ce_tupc (cb_f (cf_lc (own := [("event", 15)]) rfl sc_law.nd (ci_of (ce_var 14)) (blkOk_by (N := ["script", "state", "turn", "words", "one", "shift", "other", "word", "name", "kept", "due", "rows", "places", "told", "log", "event", "bad", "first", "k", "second"]) (sc := defScope s_law) (by decide +kernel)) (by decide) (fun _ _ _ _ _ => (cg_name 15 sc_law.nd)) (fun _ _ _ _ _ => pts_c fun _ _ => (ct_cmp (cc_b (opb_notInG hu) (ce_ixng 15 hu ce_int) (cb_of (ce_call (ok__law_names T base) (hr.mono (by decide)) T.g__law_names T.k__law_names T.n__law_names takes_q (ca_cons (ce_var 4) ca_nil)))))) (fun _ _ _ _ _ _ _ => (ce_var 15)))) T.b_tuple) (ce_var 6)))))) (css_one (cs_ret ce_bool)) css_nil)))) css_nil)
    (css_cons (cs_set 16 (ce_ixg hu (ce_f (cf_lst (ca_cons (ce_tup (ca_cons (ce_tup (ca_cons ce_str (ca_cons ce_int ca_nil))) ca_nil)) (ca_cons (ce_tup (ca_cons (ce_tup (ca_cons ce_str (ca_cons (ce_neg ce_int) ca_nil))) ca_nil)) (ca_cons (ce_tup (ca_cons (ce_tup (ca_cons ce_str (ca_cons ce_int ca_nil))) ca_nil)) ca_nil))))) (ce_call (ok__law_next T base) (hr.mono (by decide)) T.g__law_next T.k__law_next T.n__law_next (L2N.takes_of rfl rfl rfl rfl) (ca_cons (ce_var 1) (ca_cons ce_int ca_nil)))) sc_law.nd)
    (css_one (cs_if (ct_w (cw_or (ct_cmp (cc_of (opp_ne hu).c (ce_f (cf_lst (ca_cons (ce_call (ok__law_told T base) (hr.mono (by decide)) T.g__law_told T.k__law_told T.n__law_told (L2N.takes_of rfl rfl rfl rfl) (ca_cons (ce_var 16) (ca_cons (ce_var 6) ca_nil))) (ca_cons (ce_call (ok__law_told T base) (hr.mono (by decide)) T.g__law_told T.k__law_told T.n__law_told (L2N.takes_of rfl rfl rfl rfl) (ca_cons (ce_var 4) (ca_cons (ce_var 16) ca_nil))) ca_nil)))) (ce_f (cf_mul (cf_lst (ca_cons ce_str ca_nil)))))) (cw_or1 (ct_cmp (cc_of (opp_ne hu).c (ce_repr hr.gd hu (cb_of (ce_tup (ca_cons (ce_var 4) (ca_cons (ce_var 6) ca_nil)))) T.b_repr) (ce_var 9)))))) (css_one (cs_ret ce_bool)) css_nil))))))))))))))
    (css_cons (cs_set 17 (ce_tupc (cb_f (cf_lc (own := [("k", 18)]) rfl sc_law.nd (ci_rg1 T.b_range ce_int) (blkOk_by (N := ["script", "state", "turn", "words", "one", "shift", "other", "word", "name", "kept", "due", "rows", "places", "told", "log", "event", "bad", "first", "k", "second"]) (sc := defScope s_law) (by decide +kernel)) (by decide) (fun _ _ _ _ _ => (cg_name 18 sc_law.nd)) (fun _ _ _ _ _ => pts_yes) (fun _ _ _ _ _ _ _ => (ce_tup (ca_cons ce_str (ca_cons (ce_var 18) ca_nil)))))) T.b_tuple) sc_law.nd)
    (css_cons (cs_set 19 (ce_tupc (cb_f (cf_lc (own := [("k", 18)]) rfl sc_law.nd (ci_rg1 T.b_range ce_int) (blkOk_by (N := ["script", "state", "turn", "words", "one", "shift", "other", "word", "name", "kept", "due", "rows", "places", "told", "log", "event", "bad", "first", "k", "second"]) (sc := defScope s_law) (by decide +kernel)) (by decide) (fun _ _ _ _ _ => (cg_name 18 sc_law.nd)) (fun _ _ _ _ _ => pts_yes) (fun _ _ _ _ _ _ _ => (ce_tup (ca_cons ce_str (ca_cons (ce_bin opp_add.c ce_int (ce_var 18)) ca_nil)))))) T.b_tuple) sc_law.nd)
    (css_cons (cs_own 13 (cf_lst (ca_cons (ce_call (ok__law_told T base) (hr.mono (by decide)) T.g__law_told T.k__law_told T.n__law_told (L2N.takes_of rfl rfl rfl rfl) (ca_cons (ce_var 17) (ca_cons (ce_var 19) ca_nil))) (ca_cons (ce_call (ok__law_told T base) (hr.mono (by decide)) T.g__law_told T.k__law_told T.n__law_told (L2N.takes_of rfl rfl rfl rfl) (ca_cons (ce_var 17) (ca_cons (ce_sl (ce_var 19) cp_none (cp_some ce_int)) ca_nil))) (ca_cons (ce_call (ok__law_told T base) (hr.mono (by decide)) T.g__law_told T.k__law_told T.n__law_told (L2N.takes_of rfl rfl rfl rfl) (ca_cons (ce_var 17) (ca_cons (ce_var 17) ca_nil))) (ca_cons (ce_call (ok__law_told T base) (hr.mono (by decide)) T.g__law_told T.k__law_told T.n__law_told (L2N.takes_of rfl rfl rfl rfl) (ca_cons (ce_sl (ce_var 17) cp_none (cp_some ce_int)) (ca_cons (ce_bin opp_mulT.c (ce_tup (ca_cons (ce_tup (ca_cons ce_str (ca_cons ce_int ca_nil))) ca_nil)) ce_int) ca_nil))) (ca_cons (ce_call (ok__law_told T base) (hr.mono (by decide)) T.g__law_told T.k__law_told T.n__law_told (L2N.takes_of rfl rfl rfl rfl) (ca_cons (ce_tup ca_nil) (ca_cons (ce_var 19) ca_nil))) ca_nil)))))) sc_law.nd)
    (css_one (cs_ret (ce_and (ce_cmp (cc_of (opp_eq hu).c (ce_f (cf_lst (ca_cons (ce_ixng 13 hu ce_int) (ca_cons (ce_len (cb_of (ce_ixg hu (ce_ixng 13 hu ce_int) ce_int)) T.b_len) (ca_cons (ce_ixng 13 hu ce_int) (ca_cons (ce_len (cb_of (ce_ixg hu (ce_ixng 13 hu ce_int) ce_int)) T.b_len) (ca_cons (ce_ixng 13 hu ce_int) ca_nil))))))) (ce_f (cf_lst (ca_cons ce_str (ca_cons ce_int (ca_cons ce_str (ca_cons ce_int (ca_cons (ce_tup (ca_cons ce_str (ca_cons (ce_f (cf_lst (ca_cons (ce_var 19) ca_nil))) ca_nil))) ca_nil))))))))) (ce_one (ce_cmp (cc_of (opp_eq hu).c (ce_glob (y := .int 200) (v := .int 200) T.c_MAX_LISTED ⟨_, rfl⟩ (fun _ => den_int _)) ce_int)))))))))))
end
end Lw

set_option Elab.async false
set_option maxRecDepth 100000
set_option maxHeartbeats 4000000
namespace Cl
open PySem PySem.Spec PyProof.Rows
/-- a comprehension over things that stand for b's -/
theorem lc_fil {β : Type} {mi : Mo (List PyData)} {g : Tg} {tt : Mo Bool} {te : Mo CV} {vs : List Nat} {l : List β} {c c0 w : CS} (s t : β → PyData) (k : β → Bool) (e : mi c = .ok (l.map s) c0) (hl : l.length ≤ 16777216) (hw : wipeC vs c0 = w)
    (h : ∀ x ∈ l, ∃ c1 c2, g.f (.d (s x)) w = some c1 ∧ tt c1 = .ok (k x) c2 ∧ (k x = false → wipeC vs c2 = w) ∧ (k x = true → ∃ c3, te c2 = .ok (.d (t x)) c3 ∧ wipeC vs c3 = w)) :
    mLc mi g tt te vs c = .ok ((l.filter k).map t) (restC vs c0 w) := by
  have := lc_inv (mi := mi) (g := g) (tt := tt) (te := te) (vs := vs) e (by rw [List.length_map]; exact hl) (fun pre acc v => ∃ m, pre = m.map s ∧ m <+: l ∧ acc = (m.filter k).map t ∧ v = w) ⟨[], rfl, List.nil_prefix, rfl, hw⟩ fun pre x post acc v ex ⟨m, e1, e2, e3, e4⟩ => by
    subst e1 e3 e4
    obtain ⟨r, rfl⟩ := e2
    rw [List.map_append] at ex
    have ex := List.append_cancel_left ex
    cases r with
    | nil => cases ex
    | cons y r =>
      rw [List.map_cons] at ex
      injection ex with ex1 ex2
      subst ex1
      obtain ⟨c1, c2, q1, q2, q3, q4⟩ := h y (List.mem_append.mpr (.inr (.head _)))
      refine ⟨c1, k y, c2, q1, q2, fun hk => ⟨m ++ [y], by simp, ⟨r, by simp⟩, by simp [hk], q3 hk⟩, fun hk => ?_⟩
      obtain ⟨c3, q5, q6⟩ := q4 hk
      exact ⟨_, c3, q5, m ++ [y], by simp, ⟨r, by simp⟩, by simp [hk], q6⟩
  obtain ⟨acc, w', ⟨m, e1, ⟨r, e2⟩, e3, e4⟩, i3⟩ := this
  have : r = [] := by
    have := congrArg List.length e1
    rw [List.length_map, List.length_map, ← e2, List.length_append] at this
    exact List.eq_nil_of_length_eq_zero (by omega)
  subst this
  rw [List.append_nil] at e2
  subst e2 e4 e3
  exact i3
theorem lc_all {β : Type} {mi : Mo (List PyData)} {g : Tg} {te : Mo CV} {vs : List Nat} {l : List β} {c c0 w : CS} (s t : β → PyData) (e : mi c = .ok (l.map s) c0) (hl : l.length ≤ 16777216) (hw : wipeC vs c0 = w)
    (h : ∀ x ∈ l, ∃ c1 c3, g.f (.d (s x)) w = some c1 ∧ te c1 = .ok (.d (t x)) c3 ∧ wipeC vs c3 = w) :
    mLc mi g mYes te vs c = .ok (l.map t) (restC vs c0 w) := by
  have := lc_fil (tt := mYes) (te := te) s t (fun _ => true) e hl hw fun x m => by
    obtain ⟨c1, c3, q1, q2, q3⟩ := h x m
    exact ⟨c1, c1, q1, rfl, fun q => Bool.noConfusion q, fun _ => ⟨c3, q2, q3⟩⟩
  rwa [List.filter_eq_self.mpr fun _ _ => rfl] at this
/-- {f(x): .. for x in ..} -/
theorem dc_all {β : Type} {mi : Mo (List PyData)} {g : Tg} {tk tv : Mo CV} {vs : List Nat} {l : List β} {c c0 w : CS} (s kf vf : β → PyData) (e : mi c = .ok (l.map s) c0) (hl : l.length ≤ 16777216) (hw : wipeC vs c0 = w)
    (h : ∀ x ∈ l, ∃ c1 c2 c3, g.f (.d (s x)) w = some c1 ∧ tk c1 = .ok (.d (kf x)) c2 ∧ tv c2 = .ok (.d (vf x)) c3 ∧ isSc (kf x) = true ∧ wipeC vs c3 = w) :
    mDc mi g mYes tk tv vs c = .ok (l.foldl (fun a x => putD a (kf x) (vf x)) []) (restC vs c0 w) := by
  have putLen : ∀ (a : List (PyData × PyData)) (x y : PyData), (putD a x y).length ≤ a.length + 1 := fun a x y => by
    unfold putD
    split
    · rw [List.length_map]; omega
    · rw [List.length_append]; exact Nat.le_refl _
  suffices ∀ (r : List β) (acc : List (PyData × PyData)) (c1 : CS), (∀ x ∈ r, x ∈ l) → acc.length + r.length ≤ 16777216 → wipeC vs c1 = w → ∃ c2, compD g.f mYes tk tv vs (r.map s) acc c1 = .ok (r.foldl (fun a x => putD a (kf x) (vf x)) acc) c2 ∧ wipeC vs c2 = w by
    obtain ⟨c2, e2, w2⟩ := this l [] c0 (fun _ m => m) (by simpa using hl) hw
    unfold mDc
    rw [mBind_ap, e, rb_ok, e2, ← w2]
  intro r
  induction r with
  | nil => exact fun acc c1 _ _ hw => ⟨c1, rfl, hw⟩
  | cons x r ih =>
    intro acc c1 hm hlen hw1
    obtain ⟨d1, d2, d3, q1, q2, q3, q4, q5⟩ := h x (hm x (.head _))
    rw [List.length_cons] at hlen
    obtain ⟨c2, r1, r2⟩ := ih (putD acc (kf x) (vf x)) d3 (fun y m => hm y (.tail _ m)) (by have := putLen acc (kf x) (vf x); omega) q5
    refine ⟨c2, ?_, r2⟩
    rw [List.map_cons, List.foldl_cons]
    unfold compD
    rw [hw1, q1]
    show (match tk d1 with
        | .ok (.d k) c3 => match tv c3 with
          | .ok (.d y) c4 => if isSc k = true ∧ acc.length < 16777216 then compD g.f mYes tk tv vs (r.map s) (putD acc k y) c4 else .no
          | _ => .no
        | _ => .no) = _
    rw [q2]
    show (match tv d2 with
          | .ok (.d y) c4 => if isSc (kf x) = true ∧ acc.length < 16777216 then compD g.f mYes tk tv vs (r.map s) (putD acc (kf x) y) c4 else .no
          | _ => .no) = _
    rw [q3]
    show (if isSc (kf x) = true ∧ acc.length < 16777216 then compD g.f mYes tk tv vs (r.map s) (putD acc (kf x) (vf x)) d3 else .no) = _
    rw [if_pos ⟨q4, by omega⟩]
    exact r1
/-- the keys of {n: .. for ints n} -/
theorem putInts {v : PyData} : ∀ (ns : List Int) (acc : List (PyData × PyData)) (ks : List Int), acc.map (·.1) = ks.map PyData.int → ∃ ms : List Int, (ns.foldl (fun a n => putD a (.int n) v) acc).map (·.1) = ms.map .int ∧ (∀ z, z ∈ ms ↔ z ∈ ks ∨ z ∈ ns) ∧ ms.length ≤ ks.length + ns.length
  | [], acc, ks, h => ⟨ks, h, fun z => by simp, by simp⟩
  | n :: ns, acc, ks, h => by
    rw [List.foldl_cons]
    by_cases hn : n ∈ ks
    · have e1 : (putD acc (.int n) v).map (·.1) = ks.map PyData.int := by
        unfold putD
        split
        · rw [List.map_map, ← h]
          refine List.map_congr_left fun p _ => ?_
          simp only [Function.comp_apply]
          split <;> rfl
        · rename_i hh
          exfalso
          apply hh
          have : PyData.int n ∈ acc.map (·.1) := by rw [h]; exact List.mem_map.mpr ⟨n, hn, rfl⟩
          obtain ⟨p, hp, e⟩ := List.mem_map.mp this
          exact List.any_eq_true.mpr ⟨p, hp, by rw [e]; exact decide_eq_true rfl⟩
      obtain ⟨ms, a, b, d⟩ := putInts ns _ ks e1
      refine ⟨ms, a, fun z => ?_, by rw [List.length_cons]; omega⟩
      rw [b, List.mem_cons]
      constructor
      · rintro (x | x)
        · exact .inl x
        · exact .inr (.inr x)
      · rintro (x | rfl | x)
        · exact .inl x
        · exact .inl hn
        · exact .inr x
    · have e1 : (putD acc (.int n) v).map (·.1) = (ks ++ [n]).map PyData.int := by
        unfold putD
        split
        · rename_i hh
          exfalso
          obtain ⟨p, hp, e⟩ := List.any_eq_true.mp hh
          have hp1 : p.1 ∈ acc.map (·.1) := List.mem_map.mpr ⟨p, hp, rfl⟩
          rw [h] at hp1
          obtain ⟨z, hz, ez⟩ := List.mem_map.mp hp1
          rw [← ez] at e
          have e := of_decide_eq_true e
          have : z = n := by simpa [nk] using e
          exact hn (this ▸ hz)
        · rw [List.map_append, List.map_append, h]
          rfl
      obtain ⟨ms, a, b, d⟩ := putInts ns _ _ e1
      refine ⟨ms, a, fun z => ?_, by rw [List.length_append, List.length_singleton] at d; rw [List.length_cons]; omega⟩
      rw [b, List.mem_append, List.mem_singleton, List.mem_cons, or_assoc]
theorem in_ints {xs : List Int} {n : Int} {neg : Bool} {c : CS} : gInG neg (.d (.int n)) (.c (.d (.list (xs.map .int)))) c = .ok (.d (.bool (if neg then !decide (n ∈ xs) else decide (n ∈ xs)))) c := by
  have h1 : PyData.plainAll (xs.map PyData.int) = true := plainAll_of fun x m => by
    obtain ⟨_, _, rfl⟩ := List.mem_map.mp m
    rfl
  have h2 : ((xs.map PyData.int).any fun z => PyData.eqv z (.int n)) = decide (n ∈ xs) := by
    rw [Bool.eq_iff_iff, List.any_eq_true, decide_eq_true_eq]
    constructor
    · rintro ⟨x, m, e⟩
      obtain ⟨z, m', rfl⟩ := List.mem_map.mp m
      have : z = n := by simpa [PyData.eqv] using e
      exact this ▸ m'
    · exact fun m => ⟨_, List.mem_map.mpr ⟨n, m, rfl⟩, by simp [PyData.eqv]⟩
  show mOpt ((if PyData.plainAll (xs.map PyData.int) = true ∧ PyData.plain (.int n) = true ∧ min (PyData.depthAll (xs.map PyData.int)) (PyData.depth (.int n)) ≤ 60 then some (.bool (if neg then !((xs.map PyData.int).any fun z => PyData.eqv z (.int n)) else (xs.map PyData.int).any fun z => PyData.eqv z (.int n))) else none).map CV.d) c = _
  rw [if_pos ⟨h1, rfl, by simp [PyData.depth]⟩, h2]
  rfl
end Cl

set_option Elab.async false
set_option maxRecDepth 100000
set_option maxHeartbeats 4000000
namespace Lw
open PySem PySem.Spec PyProof.Rows Cl
theorem next_is : F__law_next = F_next := rfl
theorem stream_is : F__law_stream = F_stream := rfl
def WordOk (t : Str) : Prop := ∀ hp, F_is_word [.d (.str t)] hp = .ok (.d (.bool true)) hp
def wsets : List (List Str) := [["in", "out"], ["a"], ["a", "b", "c2"], ["go", "in"]]
def allW : List Str := ["in", "out", "a", "b", "c2", "go"]
theorem w_in : WordOk "in" := fun _ => rfl
theorem w_out : WordOk "out" := fun _ => rfl
theorem w_a : WordOk "a" := fun _ => rfl
theorem w_b : WordOk "b" := fun _ => rfl
theorem w_c2 : WordOk "c2" := fun _ => rfl
theorem w_go : WordOk "go" := fun _ => rfl
theorem w_all : ∀ w ∈ allW, WordOk w := by
  intro w h
  simp only [allW, List.mem_cons, List.not_mem_nil, or_false] at h
  rcases h with rfl | rfl | rfl | rfl | rfl | rfl
  · exact w_in
  · exact w_out
  · exact w_a
  · exact w_b
  · exact w_c2
  · exact w_go
structure LogOk (l : Log) : Prop where
  len : l.length ≤ 60
  ev : ∀ p ∈ l, WordOk p.1 ∧ 0 ≤ p.2 ∧ p.2 ≤ 999
theorem all_true : ∀ {n : Nat} {c : CS}, gAll (.l (List.replicate n (.bool true))) c = .ok (.d (.bool true)) c := by
  intro n c
  have : bBs (.l (List.replicate n (PyData.bool true))) c.hp = some (List.replicate n true) := by
    show asBs (List.replicate n (PyData.bool true)) = _
    induction n with
    | zero => rfl
    | succ n ih => rw [List.replicate_succ, List.replicate_succ]; show (asBs _).map _ = _; rw [ih]; rfl
  obtain ⟨sl, hp⟩ := c
  have e : (List.replicate n true).all id = true := List.all_eq_true.mpr fun x m => List.eq_of_mem_replicate m
  unfold gAll
  rw [gO_ap, this]
  show Res.ok (CV.d (.bool ((List.replicate n true).all id))) _ = _
  rw [e]
theorem map_const {α β : Type} (l : List α) (b : β) : l.map (fun _ => b) = List.replicate l.length b := List.map_const' ..
theorem check_ok {l : Log} (h : LogOk l) (hp : List CO) : F_check_log [.d (logD l)] hp = .ok (.d .none) hp := by
  refine fn_wp (m := m_check_log) (n := 3) (P := fun r => r = .ok (.d .none) hp) ?_
  refine .seq (.iff (c1 := ⟨[.v (.d (logD l)), .un, .un], hp⟩) ?_ (.nx (go (.seq (.iff (c1 := ⟨[.v (.d (logD l)), .un, .un], hp⟩) ?_ (.nx (go (.ret rfl rfl))))))))
  · have := h.len
    simp [gLen, lenB, logD]
    omega
  · rw [mNot_ap, mTru_ap, mBind_ap, mBf_ap, lc_all (l := l) evD (fun _ => .bool true) (c0 := ⟨[.v (.d (logD l)), .un, .un], hp⟩) (w := ⟨[.v (.d (logD l)), .un, .un], hp⟩) ?e ?hl ?hw ?h]
    case e => rfl
    case hw => rfl
    case hl =>
      have := h.len
      omega
    case h =>
      rintro p m
      obtain ⟨h1, h2, h3⟩ := h.ev p m
      refine ⟨⟨[.v (.d (logD l)), .v (.d (.str p.1)), .v (.d (.int p.2))], hp⟩, ⟨[.v (.d (logD l)), .v (.d (.str p.1)), .v (.d (.int p.2))], hp⟩, rfl, ?_, rfl⟩
      simp [runF_ap, h1 hp, h2, h3]
    rw [map_const, rb_ok, mRet_ap, rb_ok, all_true]
    rfl
theorem bad1 : ∀ hp, F_check_log [.d (logD [("A", 0)])] hp = .ex ⟨"NotAllowed", []⟩ hp := fun _ => rfl
theorem bad2 : ∀ hp, F_check_log [.d (logD [("a", -1)])] hp = .ex ⟨"NotAllowed", []⟩ hp := fun _ => rfl
theorem bad3 : ∀ hp, F_check_log [.d (logD [("a", 1000)])] hp = .ex ⟨"NotAllowed", []⟩ hp := fun _ => rfl
/-- the names of a log, as the program lists them -/
theorem names_known {l : Log} (hl : l.length ≤ 60) (hp : List CO) : ∃ ks : List Int, F_names_of_known [.d (logD l)] hp = .ok (.d (.list (ks.map .int))) hp ∧ (∀ z, z ∈ ks ↔ ∃ p ∈ l, p.2 = z) ∧ ks.length ≤ 60 := by
  obtain ⟨ks, e1, e2, e3⟩ := putInts (v := .bool true) (l.map (·.2)) [] [] rfl
  refine ⟨ks, ?_, fun z => by rw [e2]; simp, by simp at e3; omega⟩
  refine fn_wp (m := m_names_of_known) (n := 3) (P := fun r => r = .ok (.d (.list (ks.map .int))) hp) ?_
  refine .ret (x := .d (.list (ks.map .int))) (c1 := ⟨[.v (.d (logD l)), .un, .un], hp⟩) ?_ rfl
  rw [mFz_ap, mBind_ap, mBd_ap, dc_all (l := l) evD (fun p => .int p.2) (fun _ => .bool true) (c0 := ⟨[.v (.d (logD l)), .un, .un], hp⟩) (w := ⟨[.v (.d (logD l)), .un, .un], hp⟩) ?e ?hl ?hw ?h]
  case e => rfl
  case hw => rfl
  case hl => omega
  case h => exact fun p m => ⟨_, _, _, rfl, rfl, rfl, rfl, rfl⟩
  rw [List.foldl_map] at e1
  have e4 : bSeqD (.k (l.foldl (fun a p => putD a (.int p.2) (.bool true)) [])) hp = some (ks.map .int) := by
    show some ((upC _).map (·.1)) = _
    unfold upC
    rw [List.map_map]
    exact congrArg some e1
  rw [rb_ok, mRet_ap, rb_ok]
  unfold gLstD
  rw [show restC [1, 2] (⟨[.v (.d (logD l)), .un, .un], hp⟩ : CS) ⟨[.v (.d (logD l)), .un, .un], hp⟩ = ⟨[.v (.d (logD l)), .un, .un], hp⟩ from rfl, gO_ap, e4]
  rfl
end Lw

set_option Elab.async false
set_option maxRecDepth 100000
set_option maxHeartbeats 4000000
namespace Lw
open PySem PySem.Spec PyProof.Rows Cl
def kD (p : Nat × Nat) : PyData := .tuple [.int (p.1 : Nat), .int (p.2 : Nat)]
theorem kD_nk (p : Nat × Nat) : nk (kD p) = .tup [.num (p.1 : Nat), .num (p.2 : Nat)] := by simp [kD, nk, nks]
theorem kD_inj {p q : Nat × Nat} (h : nk (kD p) = nk (kD q)) : p = q := by
  rw [kD_nk, kD_nk] at h
  injection h with h
  injection h with h1 h
  injection h with h2 h
  injection h1 with h1
  injection h2 with h2
  exact Prod.ext (by omega) (by omega)
theorem kD_ok (p : Nat × Nat) : keyOk (kD p) = true := by
  simp [kD, keyOk, hashbs, hashb, nks, nk]
  simp [PySem.NestedKey.depth, PySem.NestedKey.depthAll]
section
variable {α : Type} {L : List (Nat × Nat)} {p : Nat × Nat} {v : Nat × Nat → PyData}
def ent (v : Nat × Nat → PyData) (L : List (Nat × Nat)) : List (PyData × PyData) := L.map fun p => (kD p, v p)
theorem ent_fit : keyFit (upC (ent v L)) (kD p) = true := by
  unfold keyFit
  rw [Bool.or_eq_true]
  right
  rw [kD_ok, Bool.true_and]
  unfold upC ent
  rw [List.all_map, List.all_map]
  exact List.all_eq_true.mpr fun q _ => kD_ok q
theorem ent_fit' : keyFit (ent v L) (kD p) = true := by
  unfold keyFit
  rw [Bool.or_eq_true]
  right
  rw [kD_ok, Bool.true_and]
  unfold ent
  rw [List.all_map]
  exact List.all_eq_true.mpr fun q _ => kD_ok q
theorem ent_look (h : p ∈ L) : lookD (upC (ent v L)) (kD p) = some (.d (v p)) := by
  unfold lookD upC ent
  induction L with
  | nil => cases h
  | cons q L ih =>
    simp only [List.map_cons, List.find?_cons]
    by_cases e : q = p
    · subst e
      simp
    · have : ¬ nk (kD q) = nk (kD p) := fun x => e (kD_inj x)
      simp only [this, decide_false]
      rcases List.mem_cons.mp h with h | h
      · exact absurd h.symm e
      · exact ih h
theorem ent_put (h : p ∉ L) : putD (ent v L) (kD p) (v p) = ent v (L ++ [p]) := by
  unfold putD ent
  rw [if_neg, List.map_append]
  · rfl
  · intro hh
    rw [List.any_map] at hh
    obtain ⟨q, m, e⟩ := List.any_eq_true.mp hh
    exact h (kD_inj (of_decide_eq_true e) ▸ m)
end
theorem atI_log {l : Log} {k : Nat} (h : k < l.length) : L2.atI (l.map evD) ((k : Nat) : Int) = some (evD (l.getD k default)) := by
  unfold L2.atI L2.ixN
  rw [List.length_map, if_pos (by omega), if_pos (by omega)]
  show (l.map evD)[((k : Nat) : Int).toNat]? = _
  rw [List.getElem?_map, Int.toNat_natCast, List.getElem?_eq_getElem h, List.getD_eq_getElem?_getD, List.getElem?_eq_getElem h]
  rfl
section
variable (l1 l2 : Log)
abbrev rw_ (p : Nat × Nat) : List Log := Mg.cell (fun k => l1.getD k default) (fun k => l2.getD k default) p.1 p.2
def rowsD (p : Nat × Nat) : PyData := .list ((rw_ l1 l2 p).map logD)
end
/-! ### the sort -/
theorem alike_ev (p q : Str × Int) : PySem.W.alike (evD p) (evD q) = true := by simp [evD, PySem.W.alike, PySem.W.alikeAll]
theorem alike_logs : ∀ l m : Log, PySem.W.alikeAll (l.map evD) (m.map evD) = true
  | [], m => by simp [PySem.W.alikeAll]
  | p :: l, [] => by simp [PySem.W.alikeAll]
  | p :: l, q :: m => by
    simp only [List.map_cons, PySem.W.alikeAll, alike_ev, Bool.true_and]
    exact alike_logs l m
theorem plain_log (l : Log) : (logD l).plain = true := by
  simp only [logD, PyData.plain]
  exact plainAll_of fun x m => by
    obtain ⟨p, _, rfl⟩ := List.mem_map.mp m
    rfl
theorem depth_log (l : Log) : (logD l).depth ≤ 2 := by
  simp only [logD, PyData.depth]
  exact Nat.succ_le_succ (depthAll_of fun x m => by
    obtain ⟨p, _, rfl⟩ := List.mem_map.mp m
    simp [evD, PyData.depth, PyData.depthAll])
theorem sort_ok {ls : List Log} (hl : ls.length ≤ 16777216) (h : (∀ l ∈ ls, l ≠ []) ∨ ls.length ≤ 1) : sortOk (ls.map logD) = true := by
  unfold sortOk
  rw [plainAll_of (fun x m => by obtain ⟨l, _, rfl⟩ := List.mem_map.mp m; exact plain_log l), decide_eq_true (Nat.le_trans (depthAll_of (n := 2) (fun x m => by obtain ⟨l, _, rfl⟩ := List.mem_map.mp m; exact depth_log l)) (by decide)), decide_eq_true (by rw [List.length_map]; exact hl)]
  have e : ((ls.map logD).all fun x => (ls.map logD).all fun y => PySem.W.alike x y) = true := List.all_eq_true.mpr fun x m => List.all_eq_true.mpr fun y m' => by
    obtain ⟨l, _, rfl⟩ := List.mem_map.mp m
    obtain ⟨l', _, rfl⟩ := List.mem_map.mp m'
    simp only [logD, PySem.W.alike]
    exact alike_logs l l'
  rw [e]
  simp only [Bool.true_and, Bool.or_eq_true, Bool.and_eq_true]
  rcases h with h | h
  · left
    exact List.all_eq_true.mpr fun x m => by
      obtain ⟨l, hl, rfl⟩ := List.mem_map.mp m
      cases l with
      | nil => exact absurd rfl (h _ hl)
      | cons p l => rfl
  · right
    refine ⟨List.all_eq_true.mpr fun x m => by obtain ⟨l, _, rfl⟩ := List.mem_map.mp m; rfl, .inl ?_⟩
    rw [List.length_map]
    exact decide_eq_true h
/-! ### all_merges -/
/-- both have a name -/
def Common (l1 l2 : Log) : Prop := ∃ p ∈ l1, ∃ q ∈ l2, p.2 = q.2
theorem asBs_map : ∀ l : List Bool, asBs (l.map .bool) = some l
  | [] => rfl
  | b :: l => by
    show (asBs (l.map .bool)).map _ = _
    rw [asBs_map l]
    rfl
theorem any_bools {l : List Bool} {c : CS} : gAny (.l (l.map .bool)) c = .ok (.d (.bool (l.any id))) c := by
  obtain ⟨sl, hp⟩ := c
  unfold gAny
  rw [gO_ap, show bBs (.l (l.map PyData.bool)) hp = some l from asBs_map l]
  rfl
theorem common_iff {l1 l2 : Log} {k1 k2 : List Int} (h1 : ∀ z, z ∈ k1 ↔ ∃ p ∈ l1, p.2 = z) (h2 : ∀ z, z ∈ k2 ↔ ∃ p ∈ l2, p.2 = z) : ((k2.map fun z => decide (z ∈ k1)).any id) = true ↔ Common l1 l2 := by
  rw [List.any_map, List.any_eq_true]
  constructor
  · rintro ⟨z, m, e⟩
    have e := of_decide_eq_true e
    obtain ⟨p, hp, ep⟩ := (h1 z).mp e
    obtain ⟨q, hq, eq⟩ := (h2 z).mp m
    exact ⟨p, hp, q, hq, ep.trans eq.symm⟩
  · rintro ⟨p, hp, q, hq, e⟩
    exact ⟨p.2, (h2 _).mpr ⟨q, hq, e.symm⟩, decide_eq_true ((h1 _).mpr ⟨p, hp, rfl⟩)⟩
theorem ne_spot {i j : Nat} : pNe (kD (i, j)) (kD (0, 0)) = some (.bool (!(decide (i = 0) && decide (j = 0)))) := by
  unfold pNe
  rw [if_pos ⟨rfl, rfl, by simp [kD, PyData.depth, PyData.depthAll]⟩]
  congr 3
  simp only [kD, PyData.eqv, PyData.eqvAll, Bool.and_true]
  congr 1 <;> (rw [Bool.eq_iff_iff]; simp)
def Done (n m : Nat) (at_ to : Nat) (L : List (Nat × Nat)) : Prop := (∀ i j, (i, j) ∈ L ↔ (i < at_ ∧ j ≤ m) ∨ (i = at_ ∧ j < to) ∨ (i = 0 ∧ j = 0)) ∧ ∀ p ∈ L, Mg.num p.1 p.2 ≤ 200
theorem rgl_mem {n : Nat} {pre post : List PyData} {x : PyData} (h : rgL 0 n = pre ++ x :: post) : x = .int (pre.length : Nat) ∧ pre.length < n := by
  have hl := congrArg List.length h
  rw [len_rgL, List.length_append, List.length_cons] at hl
  have hlt : pre.length < n := by omega
  have e := congrArg (fun l : List PyData => l[pre.length]?) h
  unfold rgL at e
  simp only [List.getElem?_map, List.getElem?_range hlt, List.getElem?_append_right (Nat.le_refl _), Nat.sub_self, List.getElem?_cons_zero] at e
  simp at e
  exact ⟨e.symm, hlt⟩
end Lw

set_option Elab.async false
set_option maxRecDepth 100000
set_option maxHeartbeats 4000000
namespace Cl
open PySem PySem.Spec PyProof.Rows
theorem Wp.ownD {D : RS → Prop} {c c1 : CS} {i : Nat} {m : Mo (List (PyData × PyData))} {x : List (PyData × PyData)} (e : m c = .ok x c1) (h : D (.nx (cSet i (.od x) c1))) : Wp D (sOwnD i m) c := by
  refine ⟨?_⟩
  rw [sOwnD_ap, e]
  exact h
theorem asD_map : ∀ xs : List PyData, asD (xs.map .d) = some xs
  | [] => rfl
  | x :: xs => by
    show (asD (xs.map .d)).map _ = _
    rw [asD_map xs]
    rfl
theorem mkT_d {xs : List PyData} (h : xs.length ≤ 16777216) : mkT (xs.map .d) = some (.d (.tuple xs)) := by
  unfold mkT
  rw [asD_map]
  exact if_pos h
end Cl
namespace Lw
open PySem PySem.Spec PyProof.Rows Cl
section
variable (l1 l2 : Log)
def upR (a b : Nat) : List Log := match a with
  | 0 => []
  | a + 1 => (rw_ l1 l2 (a, b)).map (· ++ [l1.getD a default])
def leR (a b : Nat) : List Log := match b with
  | 0 => []
  | b + 1 => (rw_ l1 l2 (a, b)).map (· ++ [l2.getD b default])
theorem up_le : ∀ a b : Nat, ¬ (a = 0 ∧ b = 0) → rw_ l1 l2 (a, b) = upR l1 l2 a b ++ leR l1 l2 a b
  | 0, 0, h => absurd ⟨rfl, rfl⟩ h
  | 0, b + 1, _ => rfl
  | a + 1, 0, _ => by
    show _ = _ ++ []
    rw [List.append_nil]
    rfl
  | a + 1, b + 1, _ => rfl
theorem rw_len {p : Nat × Nat} : (rw_ l1 l2 p).length = Mg.num p.1 p.2 := Mg.cell_len ..
end
abbrev stM (l1 l2 : Log) (s2 : Sl) (L : List (Nat × Nat)) (a b : Nat) (s6 : Sl) (hp : List CO) : CS := ⟨[.v (.d (logD l1)), .v (.d (logD l2)), s2, .od (ent (rowsD l1 l2) L), .v (.d (.int (a : Nat))), .v (.d (.int (b : Nat))), s6, .un], hp⟩
section
variable {l1 l2 : Log} {s2 : Sl} {L : List (Nat × Nat)} {a b : Nat} {s6 : Sl} {hp : List CO}
theorem row_get {c : CS} {p : Nat × Nat} (hm : p ∈ L) : gIxG (.k (ent (rowsD l1 l2) L)) (.d (kD p)) c = .ok (.d (rowsD l1 l2 p)) c := by
  show (if keyFit (upC (ent (rowsD l1 l2) L)) (kD p) = true then (match lookD (upC (ent (rowsD l1 l2) L)) (kD p) with
    | some z => Res.ok z c
    | none => .no) else Res.no) = _
  rw [if_pos ent_fit, ent_look hm]
theorem grow {l : Log} {ia : Nat} {cv : CV} {sl : List Sl} {k : Nat} {r : Log} {mi : Mo CV} (hi : sl[ia]? = some (.v (.d (logD l)))) (h7 : sl[7]? = some (.v (.d (logD r)))) (he : mi ⟨sl, hp⟩ = .ok (.d (.int (k : Nat))) ⟨sl, hp⟩) (hk : k < l.length) (hr : r.length ≤ 1000) :
    mTup (mStar (mPeek 7) (mCons (mIxNG ia mi) mNil)) ⟨sl, hp⟩ = .ok (.d (logD (r ++ [l.getD k default]))) ⟨sl, hp⟩ := by
  have e1 : gIxG (.c (.d (logD l))) (.d (.int (k : Nat))) ⟨sl, hp⟩ = .ok (.d (evD (l.getD k default))) ⟨sl, hp⟩ := by
    show (match (L2.atI (l.map evD) (k : Nat)).map CV.d with
      | some z => Res.ok z _
      | none => .no) = _
    rw [atI_log hk]
    rfl
  have e2 : mIxNG ia mi ⟨sl, hp⟩ = .ok (.d (evD (l.getD k default))) ⟨sl, hp⟩ := by
    rw [mIxNG_ap, mPeek_ap, hi, rdP_v, rb_ok, mBind_ap, he, rb_ok, mBind_ap, mPeek_ap, hi, rdP_v, rb_ok, e1]
  rw [mTup_ap, mStar_ap, mPeek_ap, h7, rdP_v, rb_ok, mBind_ap]
  rw [show itemsOf (.c (.d (logD r))) (⟨sl, hp⟩ : CS) = .ok ((r.map evD).map .d) ⟨sl, hp⟩ from rfl, rb_ok, mBind_ap, mCons_ap, e2, rb_ok, mBind_ap, mNil_ap, rb_ok, mRet_ap, rb_ok, mRet_ap, rb_ok]
  have e3 : (r.map evD).map CV.d ++ [.d (evD (l.getD k default))] = ((r ++ [l.getD k default]).map evD).map CV.d := by simp
  rw [e3, mkT_d (by simp; omega)]
  rfl
theorem up_run (hm : 0 < a → (a - 1, b) ∈ L) (ha : a ≤ l1.length) (hb : b ≤ l2.length) (h1 : l1.length ≤ 60) (h2 : l2.length ≤ 60) (hn : 0 < a → Mg.num (a - 1) b ≤ 200) :
    mIf (mTru (m2 (lift2 pGt) (mVar 4) (mC (.int 0)))) (mLc (mItems (mIxNG 3 (mTup (mCons (m2 (lift2 pSub) (mVar 4) (mC (.int 1))) (mCons (mVar 5) mNil))))) (gN 7) mYes (mTup (mStar (mPeek 7) (mCons (mIxNG 0 (m2 (lift2 pSub) (mVar 4) (mC (.int 1)))) mNil))) [7]) (mLst mNil) (stM l1 l2 s2 L a b s6 hp) =
      .ok ((upR l1 l2 a b).map logD) (stM l1 l2 s2 L a b s6 hp) := by
  cases a with
  | zero => rfl
  | succ a =>
    have es : ∀ s7 : Sl, m2 (lift2 pSub) (mVar 4) (mC (.int 1)) ⟨[.v (.d (logD l1)), .v (.d (logD l2)), s2, .od (ent (rowsD l1 l2) L), .v (.d (.int ((a + 1 : Nat) : Int))), .v (.d (.int (b : Nat))), s6, s7], hp⟩ = .ok (.d (.int (a : Nat))) ⟨[.v (.d (logD l1)), .v (.d (logD l2)), s2, .od (ent (rowsD l1 l2) L), .v (.d (.int ((a + 1 : Nat) : Int))), .v (.d (.int (b : Nat))), s6, s7], hp⟩ := fun s7 => by
      show Res.ok (CV.d (.int (((a + 1 : Nat) : Int) - 1))) _ = _
      rw [show ((a + 1 : Nat) : Int) - 1 = (a : Nat) by omega]
    have t : mTru (m2 (lift2 pGt) (mVar 4) (mC (.int 0))) (stM l1 l2 s2 L (a + 1) b s6 hp) = .ok true (stM l1 l2 s2 L (a + 1) b s6 hp) := by
      show Res.ok (decide ((0 : Int) < ((a + 1 : Nat) : Int))) _ = _
      rw [decide_eq_true (by omega)]
    have ei : mItems (mIxNG 3 (mTup (mCons (m2 (lift2 pSub) (mVar 4) (mC (.int 1))) (mCons (mVar 5) mNil)))) (stM l1 l2 s2 L (a + 1) b s6 hp) = .ok ((rw_ l1 l2 (a, b)).map logD) (stM l1 l2 s2 L (a + 1) b s6 hp) := by
      have ek : mTup (mCons (m2 (lift2 pSub) (mVar 4) (mC (.int 1))) (mCons (mVar 5) mNil)) (stM l1 l2 s2 L (a + 1) b s6 hp) = .ok (.d (kD (a, b))) (stM l1 l2 s2 L (a + 1) b s6 hp) := by
        rw [mTup_ap, mCons_ap, es]
        rfl
      rw [mItems_ap, mIxNG_ap, mPeek_ap]
      show Res.bind (Res.bind (Res.ok (BV.k (ent (rowsD l1 l2) L)) _) _) _ = _
      rw [rb_ok, mBind_ap, ek, rb_ok, mBind_ap, mPeek_ap]
      show Res.bind (Res.bind (Res.ok (BV.k (ent (rowsD l1 l2) L)) _) _) _ = _
      rw [rb_ok, row_get (by simpa using hm (Nat.succ_pos _))]
      rfl
    rw [mIf_ap, t, rb_ok, if_pos rfl, lc_all (l := rw_ l1 l2 (a, b)) logD (fun r => logD (r ++ [l1.getD a default])) ei ?hl ?hw ?h]
    case hl =>
      rw [rw_len]
      have := hn (by omega)
      rw [Nat.add_sub_cancel] at this
      show Mg.num a b ≤ _
      omega
    case hw => rfl
    case h =>
      intro r m
      have rl : r.length = a + b := Mg.cell_length _ _ r m
      exact ⟨_, _, rfl, grow (ia := 0) (cv := .d .none) rfl rfl (es _) (by omega) (by omega), rfl⟩
    show Res.ok _ _ = _
    congr 1
    unfold upR
    rw [List.map_map]
    rfl
theorem le_run (hm : 0 < b → (a, b - 1) ∈ L) (ha : a ≤ l1.length) (hb : b ≤ l2.length) (h1 : l1.length ≤ 60) (h2 : l2.length ≤ 60) (hn : 0 < b → Mg.num a (b - 1) ≤ 200) :
    mIf (mTru (m2 (lift2 pGt) (mVar 5) (mC (.int 0)))) (mLc (mItems (mIxNG 3 (mTup (mCons (mVar 4) (mCons (m2 (lift2 pSub) (mVar 5) (mC (.int 1))) mNil))))) (gN 7) mYes (mTup (mStar (mPeek 7) (mCons (mIxNG 1 (m2 (lift2 pSub) (mVar 5) (mC (.int 1)))) mNil))) [7]) (mLst mNil) (stM l1 l2 s2 L a b s6 hp) =
      .ok ((leR l1 l2 a b).map logD) (stM l1 l2 s2 L a b s6 hp) := by
  cases b with
  | zero => rfl
  | succ b =>
    have es : ∀ s7 : Sl, m2 (lift2 pSub) (mVar 5) (mC (.int 1)) ⟨[.v (.d (logD l1)), .v (.d (logD l2)), s2, .od (ent (rowsD l1 l2) L), .v (.d (.int (a : Nat))), .v (.d (.int ((b + 1 : Nat) : Int))), s6, s7], hp⟩ = .ok (.d (.int (b : Nat))) ⟨[.v (.d (logD l1)), .v (.d (logD l2)), s2, .od (ent (rowsD l1 l2) L), .v (.d (.int (a : Nat))), .v (.d (.int ((b + 1 : Nat) : Int))), s6, s7], hp⟩ := fun s7 => by
      show Res.ok (CV.d (.int (((b + 1 : Nat) : Int) - 1))) _ = _
      rw [show ((b + 1 : Nat) : Int) - 1 = (b : Nat) by omega]
    have t : mTru (m2 (lift2 pGt) (mVar 5) (mC (.int 0))) (stM l1 l2 s2 L a (b + 1) s6 hp) = .ok true (stM l1 l2 s2 L a (b + 1) s6 hp) := by
      show Res.ok (decide ((0 : Int) < ((b + 1 : Nat) : Int))) _ = _
      rw [decide_eq_true (by omega)]
    have ei : mItems (mIxNG 3 (mTup (mCons (mVar 4) (mCons (m2 (lift2 pSub) (mVar 5) (mC (.int 1))) mNil)))) (stM l1 l2 s2 L a (b + 1) s6 hp) = .ok ((rw_ l1 l2 (a, b)).map logD) (stM l1 l2 s2 L a (b + 1) s6 hp) := by
      have ek : mTup (mCons (mVar 4) (mCons (m2 (lift2 pSub) (mVar 5) (mC (.int 1))) mNil)) (stM l1 l2 s2 L a (b + 1) s6 hp) = .ok (.d (kD (a, b))) (stM l1 l2 s2 L a (b + 1) s6 hp) := by
        rw [mTup_ap, mCons_ap, show mVar 4 (stM l1 l2 s2 L a (b + 1) s6 hp) = .ok (.d (.int (a : Nat))) (stM l1 l2 s2 L a (b + 1) s6 hp) from rfl, rb_ok, mBind_ap, mCons_ap, es]
        rfl
      rw [mItems_ap, mIxNG_ap, mPeek_ap]
      show Res.bind (Res.bind (Res.ok (BV.k (ent (rowsD l1 l2) L)) _) _) _ = _
      rw [rb_ok, mBind_ap, ek, rb_ok, mBind_ap, mPeek_ap]
      show Res.bind (Res.bind (Res.ok (BV.k (ent (rowsD l1 l2) L)) _) _) _ = _
      rw [rb_ok, row_get (by simpa using hm (Nat.succ_pos _))]
      rfl
    rw [mIf_ap, t, rb_ok, if_pos rfl, lc_all (l := rw_ l1 l2 (a, b)) logD (fun r => logD (r ++ [l2.getD b default])) ei ?hl ?hw ?h]
    case hl =>
      rw [rw_len]
      have := hn (by omega)
      rw [Nat.add_sub_cancel] at this
      show Mg.num a b ≤ _
      omega
    case hw => rfl
    case h =>
      intro r m
      have rl : r.length = a + b := Mg.cell_length _ _ r m
      exact ⟨_, _, rfl, grow (ia := 1) (cv := .d .none) rfl rfl (es _) (by omega) (by omega), rfl⟩
    show Res.ok _ _ = _
    congr 1
    unfold leR
    rw [List.map_map]
    rfl
end
end Lw

set_option Elab.async false
set_option maxRecDepth 100000
set_option maxHeartbeats 4000000
namespace Lw
open PySem PySem.Spec PyProof.Rows Cl
theorem _root_.Cl.rg1_nat {m : Mo CV} {c c1 : CS} {n : Nat} (e : m c = .ok (.d (.int (n : Nat))) c1) (h : n ≤ 1000000) : mRg1 m c = .ok (rgL 0 n) c1 := by
  have ok : okRg ((n : Nat) : Int) = true := by
    unfold okRg
    rw [decide_eq_true (by omega), decide_eq_true (by omega)]
    rfl
  rw [mRg1_ap, e, rb_ok, mBind_ap, asI_ap, rb_ok, ok, if_pos rfl, Int.toNat_natCast]
  rfl
theorem Done.next {n m a b : Nat} {L : List (Nat × Nat)} (h : Done n m a b L) (hb : b ≤ m) (h0 : ¬ (a = 0 ∧ b = 0)) (hn : Mg.num a b ≤ 200) : Done n m a (b + 1) (L ++ [(a, b)]) := by
  refine ⟨fun i j => ?_, fun p hp => ?_⟩
  · rw [List.mem_append, h.1, List.mem_singleton, Prod.mk.injEq]
    omega
  · rcases List.mem_append.mp hp with hp | hp
    · exact h.2 p hp
    · rw [List.mem_singleton.mp hp]
      exact hn
theorem Done.skip {n m : Nat} {L : List (Nat × Nat)} (h : Done n m 0 0 L) : Done n m 0 1 L := by
  refine ⟨fun i j => ?_, h.2⟩
  rw [h.1]
  omega
theorem Done.row {n m a : Nat} {L : List (Nat × Nat)} (h : Done n m a (m + 1) L) : Done n m (a + 1) 0 L := by
  refine ⟨fun i j => ?_, h.2⟩
  rw [h.1]
  omega
theorem allm_spec {l1 l2 : Log} (h1 : LogOk l1) (h2 : LogOk l2) {hp : List CO} {P : FR → Prop} (hm : Common l1 l2 → P (.ex ⟨"Missing", []⟩ hp))
    (hl : ¬ Common l1 l2 → (∃ i j, i ≤ l1.length ∧ j ≤ l2.length ∧ 200 < Mg.num i j) → P (.ex ⟨"TooLarge", []⟩ hp))
    (ho : ¬ Common l1 l2 → (∀ i j, i ≤ l1.length → j ≤ l2.length → Mg.num i j ≤ 200) → P (.ok (.d (.list (sortD ((rw_ l1 l2 (l1.length, l2.length)).map logD)))) hp)) :
    P (F_all_merges [.d (logD l1), .d (logD l2)] hp) := by
  have n1 := h1.len
  have n2 := h2.len
  obtain ⟨k1, ek1, mk1, lk1⟩ := names_known n1 hp
  obtain ⟨k2, ek2, mk2, lk2⟩ := names_known n2 hp
  refine fn_wp (m := m_all_merges) (n := 8) (P := P) ?_
  have c0 : (⟨[.v (.d (logD l1)), .v (.d (logD l2)), .un, .un, .un, .un, .un, .un], hp⟩ : CS) = ⟨[.v (.d (logD l1)), .v (.d (logD l2)), .un, .un, .un, .un, .un, .un], hp⟩ := rfl
  refine .seq (.drop (x := .d .none) (c1 := ⟨[.v (.d (logD l1)), .v (.d (logD l2)), .un, .un, .un, .un, .un, .un], hp⟩) ?_ (go (.seq (.drop (x := .d .none) (c1 := ⟨[.v (.d (logD l1)), .v (.d (logD l2)), .un, .un, .un, .un, .un, .un], hp⟩) ?_ (go (.seq (.ite (k := (k2.map fun z => decide (z ∈ k1)).any id) (c1 := ⟨[.v (.d (logD l1)), .v (.d (logD l2)), .un, .un, .un, .un, .un, .un], hp⟩) ?_ (fun hk => .raise (hm ((common_iff mk1 mk2).mp hk))) fun hk => .nx (go ?_))))))))
  · simp [runF_ap, check_ok h1]
  · simp [runF_ap, check_ok h2]
  · rw [mTru_ap, mBind_ap, mBf_ap, lc_all (l := k2) .int (fun z => .bool (decide (z ∈ k1))) (c0 := ⟨[.v (.d (logD l1)), .v (.d (logD l2)), .un, .un, .un, .un, .un, .un], hp⟩) (w := ⟨[.v (.d (logD l1)), .v (.d (logD l2)), .un, .un, .un, .un, .un, .un], hp⟩) ?e ?hl ?hw ?h]
    case e => simp [runF_ap, ek2, vItems]
    case hl => omega
    case hw => rfl
    case h =>
      intro z _
      exact ⟨⟨[.v (.d (logD l1)), .v (.d (logD l2)), .v (.d (.int z)), .un, .un, .un, .un, .un], hp⟩, ⟨[.v (.d (logD l1)), .v (.d (logD l2)), .v (.d (.int z)), .un, .un, .un, .un, .un], hp⟩, rfl, by simp [runF_ap, ek1, in_ints], rfl⟩
    have e : k2.map (fun z => PyData.bool (decide (z ∈ k1))) = (k2.map fun z => decide (z ∈ k1)).map .bool := by rw [List.map_map]; rfl
    rw [rb_ok, mRet_ap, rb_ok, e, any_bools]
    rfl
  have hc : ¬ Common l1 l2 := fun q => by rw [(common_iff mk1 mk2).mpr q] at hk; cases hk
  have hm := ()
  refine .seq (.ownD (x := ent (rowsD l1 l2) [(0, 0)]) (c1 := ⟨[.v (.d (logD l1)), .v (.d (logD l2)), .un, .un, .un, .un, .un, .un], hp⟩) rfl (go ?_))
  refine .seq (.for (xs := rgL 0 (l1.length + 1)) (c1 := ⟨[.v (.d (logD l1)), .v (.d (logD l2)), .un, .od (ent (rowsD l1 l2) [(0, 0)]), .un, .un, .un, .un], hp⟩) ?_
    (fun pre c => ∃ s4 s5 s6 L, c = ⟨[.v (.d (logD l1)), .v (.d (logD l2)), .un, .od (ent (rowsD l1 l2) L), s4, s5, s6, .un], hp⟩ ∧ Done l1.length l2.length pre.length 0 L ∧ L.length ≤ 1 + pre.length * 61) ⟨.un, .un, .un, [(0, 0)], rfl, ⟨fun i j => by simp, fun p hp => by rw [List.mem_singleton.mp hp]; exact (by decide : (1 : Nat) ≤ 200)⟩, Nat.le_refl 1⟩ ?_ ?_)
  · refine rg1_nat ?_ (by omega)
    show Res.ok (CV.d (.int (((l1.map evD).length : Nat) + 1))) _ = _
    rw [List.length_map]
    rfl
  · rintro pre x post c hx ⟨s4, s5, s6, L, rfl, hd, hL⟩
    obtain ⟨rfl, hlt⟩ := rgl_mem hx
    have hlt' : pre.length ≤ l1.length := by omega
    generalize ha : pre.length = a at hd hL hlt hlt'
    refine ⟨_, rfl, ?_⟩
    refine .for (xs := rgL 0 (l2.length + 1)) (c1 := ⟨[.v (.d (logD l1)), .v (.d (logD l2)), .un, .od (ent (rowsD l1 l2) L), .v (.d (.int (a : Nat))), s5, s6, .un], hp⟩) ?_
      (fun p c => ∃ s5 s6 L, c = ⟨[.v (.d (logD l1)), .v (.d (logD l2)), .un, .od (ent (rowsD l1 l2) L), .v (.d (.int (a : Nat))), s5, s6, .un], hp⟩ ∧ Done l1.length l2.length a p.length L ∧ L.length ≤ 1 + a * 61 + p.length) ⟨_, _, _, rfl, hd, hL⟩ ?_ ?_
    · refine rg1_nat ?_ (by omega)
      show Res.ok (CV.d (.int (((l2.map evD).length : Nat) + 1))) _ = _
      rw [List.length_map]
      rfl
    · rintro p y post' c hy ⟨s5, s6, L, rfl, hd, hL⟩
      obtain ⟨rfl, hlt2⟩ := rgl_mem hy
      have hlt2' : p.length ≤ l2.length := by omega
      rw [show (p ++ [PyData.int (p.length : Nat)]).length = p.length + 1 by simp]
      generalize hb : p.length = b at hd hL hlt2 hlt2'
      refine ⟨_, rfl, .ite (k := !(decide (a = 0) && decide (b = 0))) (c1 := stM l1 l2 .un L a b s6 hp) ?_ (fun hk => ?_) fun hk => ?_⟩
      · rw [mTru_ap]
        show Res.bind (mOpt ((pNe (kD (a, b)) (kD (0, 0))).map CV.d) _) asB = _
        rw [ne_spot]
        rfl
      · have h0 : ¬ (a = 0 ∧ b = 0) := fun ⟨x, y⟩ => by rw [x, y] at hk; cases hk
        have hu : 0 < a → (a - 1, b) ∈ L := fun q => (hd.1 _ _).mpr (.inl ⟨by omega, hlt2'⟩)
        have hv : 0 < b → (a, b - 1) ∈ L := fun q => (hd.1 _ _).mpr (.inr (.inl ⟨rfl, by omega⟩))
        have hu2 : 0 < a → Mg.num (a - 1) b ≤ 200 := fun q => hd.2 _ (hu q)
        have hv2 : 0 < b → Mg.num a (b - 1) ≤ 200 := fun q => hd.2 _ (hv q)
        have hnot : (a, b) ∉ L := fun q => by have := (hd.1 a b).mp q; omega
        have ul : ((upR l1 l2 a b).map logD).length ≤ 200 := by
          rw [List.length_map]
          cases a with
          | zero => simp [upR]
          | succ a =>
            have := hu2 (by omega)
            show ((rw_ l1 l2 (a, b)).map _).length ≤ _
            rw [List.length_map, rw_len]
            exact this
        have vl : ((leR l1 l2 a b).map logD).length ≤ 200 := by
          rw [List.length_map]
          cases b with
          | zero => simp [leR]
          | succ b =>
            have := hv2 (by omega)
            show ((rw_ l1 l2 (a, b)).map _).length ≤ _
            rw [List.length_map, rw_len]
            exact this
        have both : (upR l1 l2 a b).map logD ++ (leR l1 l2 a b).map logD = (rw_ l1 l2 (a, b)).map logD := by rw [← List.map_append, ← up_le l1 l2 a b h0]
        refine .seq (.own (up_run hu hlt' hlt2' n1 n2 hu2) (go ?_))
        refine .seq (.drop (x := .d .none) (c1 := stM l1 l2 .un L a b (.ol ((rw_ l1 l2 (a, b)).map logD)) hp) ?_ (go ?_))
        · show mExt 6 (mBf _) (stM l1 l2 .un L a b (.ol ((upR l1 l2 a b).map logD)) hp) = _
          rw [mExt_ap, chkL_ap]
          show Res.bind (Res.ok () _) _ = _
          rw [rb_ok, mBind_ap, mBf_ap, le_run hv hlt' hlt2' n1 n2 hv2, rb_ok, mRet_ap, rb_ok, onList_ap]
          show onSl (some (.ol ((upR l1 l2 a b).map logD))) 6 _ _ _ = _
          rw [onSl_ext (by omega), both]
          rfl
        refine .seq (.put (x := .d (rowsD l1 l2 (a, b))) (c1 := stM l1 l2 .un L a b (.v (.d (rowsD l1 l2 (a, b)))) hp) (c1' := stM l1 l2 .un L a b (.v (.d (rowsD l1 l2 (a, b)))) hp) (q := .k (ent (rowsD l1 l2) L)) (y := .d (kD (a, b))) (c2 := stM l1 l2 .un L a b (.v (.d (rowsD l1 l2 (a, b)))) hp) (z := .d .none) (c3 := stM l1 l2 .un (L ++ [(a, b)]) a b (.v (.d (rowsD l1 l2 (a, b)))) hp) rfl rfl rfl ?_ (go ?_))
        · show (if keyFit (ent (rowsD l1 l2) L) (kD (a, b)) = true ∧ (ent (rowsD l1 l2) L).length < 16777216 then Res.ok (CV.d .none) (cSet 3 (.od (putD (ent (rowsD l1 l2) L) (kD (a, b)) (rowsD l1 l2 (a, b)))) (stM l1 l2 .un L a b (.v (.d (rowsD l1 l2 (a, b)))) hp)) else Res.no) = _
          rw [if_pos ⟨ent_fit', by unfold ent; rw [List.length_map]; omega⟩, ent_put hnot]
          rfl
        refine .ite (k := decide (200 < Mg.num a b)) (c1 := stM l1 l2 .un (L ++ [(a, b)]) a b (.v (.d (rowsD l1 l2 (a, b)))) hp) ?_ (fun hk => .raise (hl hc ⟨a, b, hlt', hlt2', of_decide_eq_true hk⟩)) fun hk => .nx ?_
        · show Res.ok (decide ((200 : Int) < (((rw_ l1 l2 (a, b)).map logD).length : Nat))) _ = _
          rw [List.length_map, rw_len]
          congr 1
          rw [Bool.eq_iff_iff, decide_eq_true_eq, decide_eq_true_eq]
          show (200 : Int) < ((Mg.num a b : Nat) : Int) ↔ _
          omega
        · have : Mg.num a b ≤ 200 := by have := of_decide_eq_false hk; omega
          exact ⟨_, _, _, rfl, hd.next hlt2' h0 this, by rw [List.length_append, List.length_singleton]; omega⟩
      · have h0 : a = 0 ∧ b = 0 := by simpa using hk
        obtain ⟨rfl, rfl⟩ := h0
        exact .nx ⟨_, _, _, rfl, hd.skip, by omega⟩
    · rintro c ⟨s5, s6, L, rfl, hd, hL⟩
      rw [len_rgL] at hd hL
      rw [show (pre ++ [PyData.int (a : Nat)]).length = a + 1 by simp [ha]]
      exact ⟨_, _, _, _, rfl, hd.row, by omega⟩
  · rintro c ⟨s4, s5, s6, L, rfl, hd, hL⟩
    rw [len_rgL] at hd hL
    have hall : ∀ i j, i ≤ l1.length → j ≤ l2.length → Mg.num i j ≤ 200 := fun i j hi hj => hd.2 _ ((hd.1 i j).mpr (.inl ⟨by omega, hj⟩))
    have hmem : (l1.length, l2.length) ∈ L := (hd.1 _ _).mpr (.inl ⟨by omega, Nat.le_refl _⟩)
    have hlen : (rw_ l1 l2 (l1.length, l2.length)).length ≤ 200 := by rw [rw_len]; exact hall _ _ (Nat.le_refl _) (Nat.le_refl _)
    have hs : sortOk ((rw_ l1 l2 (l1.length, l2.length)).map logD) = true := by
      refine sort_ok (by omega) ?_
      by_cases hz : l1.length + l2.length = 0
      · right
        have z1 : l1.length = 0 := by omega
        have z2 : l2.length = 0 := by omega
        rw [z1, z2]
        exact Nat.le_refl _
      · left
        intro r hr e
        have := Mg.cell_length _ _ r hr
        rw [e] at this
        simp at this
        omega
    refine go (.ret (x := .d (.list (sortD ((rw_ l1 l2 (l1.length, l2.length)).map logD)))) (c1 := ⟨[.v (.d (logD l1)), .v (.d (logD l2)), .un, .od (ent (rowsD l1 l2) L), s4, s5, s6, .un], hp⟩) ?_ (ho hc hall))
    have ek : mTup (mCons (mBind (mPeek 0) gLen) (mCons (mBind (mPeek 1) gLen) mNil)) ⟨[.v (.d (logD l1)), .v (.d (logD l2)), .un, .od (ent (rowsD l1 l2) L), s4, s5, s6, .un], hp⟩ = .ok (.d (kD (l1.length, l2.length))) ⟨[.v (.d (logD l1)), .v (.d (logD l2)), .un, .od (ent (rowsD l1 l2) L), s4, s5, s6, .un], hp⟩ := by
      show Res.ok (CV.d (.tuple [.int ((l1.map evD).length : Nat), .int ((l2.map evD).length : Nat)])) _ = _
      rw [List.length_map, List.length_map]
      rfl
    rw [mFz_ap, mBind_ap, mBo_ap, mIxNG_ap, mPeek_ap]
    show Res.bind (Res.bind (Res.bind (Res.bind (Res.ok (BV.k (ent (rowsD l1 l2) L)) _) _) _) _) _ = _
    rw [rb_ok, mBind_ap, ek, rb_ok, mBind_ap, mPeek_ap]
    show Res.bind (Res.bind (Res.bind (Res.bind (Res.ok (BV.k (ent (rowsD l1 l2) L)) _) _) _) _) _ = _
    rw [rb_ok, row_get hmem, rb_ok, mRet_ap, rb_ok]
    unfold gSort
    rw [gO_ap]
    show Res.bind (mOpt ((if sortOk ((rw_ l1 l2 (l1.length, l2.length)).map logD) = true then some (sortD ((rw_ l1 l2 (l1.length, l2.length)).map logD)) else none).map id) _) _ = _
    rw [if_pos hs]
    rfl
end Lw

set_option Elab.async false
set_option maxRecDepth 100000
set_option maxHeartbeats 4000000
namespace Lw
open PySem PySem.Spec PyProof.Rows Cl
/-- the stream's numbers, in the first object -/
structure Strm (nums : List Int) : Prop where
  ne : nums ≠ []
  le : nums.length ≤ 4000
variable {nums : List Int}
theorem nxt (h : Strm nums) {k m : Nat} {rest : List CO} (hk : k ≤ 100000) (hm : 0 < m) : ∃ v : Nat, v < m ∧ F__law_next [.r 0, .d (.int (m : Nat))] (stO nums (k : Nat) :: rest) = .ok (.d (.int (v : Nat))) (stO nums ((k + 1 : Nat) : Int) :: rest) := by
  have e := next_eq (hp := stO nums (k : Nat) :: rest) (n := 0) (nums := nums) (c := (k : Nat)) (m := (m : Nat)) h.ne h.le (by omega) (by omega) (by omega) rfl
  have b0 : 0 ≤ nextV nums (k : Nat) (m : Nat) := Int.emod_nonneg _ (by omega)
  have b1 : nextV nums (k : Nat) (m : Nat) < m := Int.emod_lt_of_pos _ (by omega)
  refine ⟨(nextV nums (k : Nat) (m : Nat)).toNat, by omega, ?_⟩
  rw [next_is, e, show (((nextV nums (k : Nat) (m : Nat)).toNat : Nat) : Int) = nextV nums (k : Nat) (m : Nat) by omega]
  rfl
theorem run_next (h : Strm nums) {k m : Nat} {rest : List CO} {sl : List Sl} {ma : Mo (List CV)} {hp : List CO} {c : CS} (hk : k ≤ 100000) (hm : 0 < m) (ha : ma c = .ok [.r 0, .d (.int (m : Nat))] ⟨sl, stO nums (k : Nat) :: rest⟩) :
    ∃ v : Nat, v < m ∧ mCall 2 F__law_next ma c = .ok (.d (.int (v : Nat))) ⟨sl, stO nums ((k + 1 : Nat) : Int) :: rest⟩ := by
  obtain ⟨v, hv, e⟩ := nxt h (rest := rest) hk hm
  refine ⟨v, hv, ?_⟩
  rw [mCall_ap, ha, rb_ok, runF_ap (n := 2) (xs := [.r 0, .d (.int (m : Nat))]) (by rfl), e]
  rfl
def wsD (ws : List Str) : PyData := .tuple (ws.map .str)
theorem words_eq (h : Strm nums) {k : Nat} {rest : List CO} (hk : k ≤ 100000) : ∃ ws ∈ wsets, F__law_words [.r 0] (stO nums (k : Nat) :: rest) = .ok (.d (wsD ws)) (stO nums ((k + 1 : Nat) : Int) :: rest) := by
  obtain ⟨v, hv, e⟩ := run_next h (m := 4) (rest := rest) (sl := [.v (.r 0)]) (ma := mCons (mVar 0) (mCons (mC (.int 4)) mNil)) (hp := []) (c := ⟨[.v (.r 0)], stO nums (k : Nat) :: rest⟩) hk (by decide) rfl
  refine ⟨wsets.getD v [], ?_, ?_⟩
  · rcases v with _ | _ | _ | _ | v
    · decide
    · decide
    · decide
    · decide
    · omega
  · refine fn_wp (m := m__law_words) (n := 1) (P := fun r => r = .ok (.d (wsD (wsets.getD v []))) _) (show Wp _ m__law_words ⟨[.v (.r 0)], stO nums (k : Nat) :: rest⟩ from .ret (x := .d (wsD (wsets.getD v []))) (c1 := ⟨[.v (.r 0)], stO nums ((k + 1 : Nat) : Int) :: rest⟩) ?_ rfl)
    rw [mIxG_ap]
    show Res.bind (Res.ok _ _) _ = _
    rw [rb_ok, mBind_ap, e, rb_ok]
    rcases v with _ | _ | _ | _ | v
    · rfl
    · rfl
    · rfl
    · rfl
    · omega
/-- a drawn log -/
structure LogIn (ws : List Str) (names : Nat) (l : Log) : Prop where
  len : l.length ≤ 4
  ev : ∀ p ∈ l, p.1 ∈ ws ∧ 0 ≤ p.2 ∧ p.2 < names
theorem atI_ws {ws : List Str} {v : Nat} (h : v < ws.length) : ∃ w ∈ ws, L2.atI (ws.map PyData.str) ((v : Nat) : Int) = some (.str w) := by
  refine ⟨ws[v], List.getElem_mem h, ?_⟩
  unfold L2.atI L2.ixN
  rw [List.length_map, if_pos (by omega), if_pos (by omega)]
  show (ws.map PyData.str)[((v : Nat) : Int).toNat]? = _
  rw [List.getElem?_map, Int.toNat_natCast, List.getElem?_eq_getElem h]
  rfl
theorem log_eq (h : Strm nums) {k : Nat} {rest : List CO} {ws : List Str} (hk : k ≤ 50000) (hw : ws ≠ []) (hwl : ws.length ≤ 10) :
    ∃ (l : Log) (k' : Nat), LogIn ws 3 l ∧ k' ≤ k + 9 ∧ F__law_log [.r 0, .d (wsD ws), .d (.int 4), .d (.int 3)] (stO nums (k : Nat) :: rest) = .ok (.d (logD l)) (stO nums (k' : Nat) :: rest) := by
  obtain ⟨v, hv, e⟩ := run_next h (m := 5) (rest := rest) (sl := [.v (.r 0), .v (.d (wsD ws)), .v (.d (.int 4)), .v (.d (.int 3)), .un]) (ma := mCons (mVar 0) (mCons (m2 (lift2 pAdd) (mVar 2) (mC (.int 1))) mNil)) (hp := []) (c := ⟨[.v (.r 0), .v (.d (wsD ws)), .v (.d (.int 4)), .v (.d (.int 3)), .un], stO nums (k : Nat) :: rest⟩) (by omega) (by decide) rfl
  have wl : 0 < ws.length := by cases ws with
    | nil => exact absurd rfl hw
    | cons _ _ => simp
  obtain ⟨acc, w, ⟨l, e1, e2, e3, e4⟩, e5⟩ := lc_inv (mi := mRg1 (mCall 2 F__law_next (mCons (mVar 0) (mCons (m2 (lift2 pAdd) (mVar 2) (mC (.int 1))) mNil)))) (g := gN 4) (tt := mYes)
    (te := mTup (mCons (mIxNG 1 (mCall 2 F__law_next (mCons (mVar 0) (mCons (mBind (mPeek 1) gLen) mNil)))) (mCons (mCall 2 F__law_next (mCons (mVar 0) (mCons (mVar 3) mNil))) mNil))) (vs := [4]) (xs := rgL 0 v)
    (c := ⟨[.v (.r 0), .v (.d (wsD ws)), .v (.d (.int 4)), .v (.d (.int 3)), .un], stO nums (k : Nat) :: rest⟩) (rg1_nat e (by omega)) (by rw [len_rgL]; omega)
    (fun pre acc w => ∃ l : Log, acc = l.map evD ∧ l.length = pre.length ∧ (∀ p ∈ l, p.1 ∈ ws ∧ 0 ≤ p.2 ∧ p.2 < 3) ∧ w = ⟨[.v (.r 0), .v (.d (wsD ws)), .v (.d (.int 4)), .v (.d (.int 3)), .un], stO nums ((k + 1 + 2 * pre.length : Nat) : Int) :: rest⟩)
    ⟨[], rfl, rfl, fun p m => (by cases m), rfl⟩ fun pre x post acc w hx ⟨l, e1, e2, e3, e4⟩ => by
      subst e4
      obtain ⟨rfl, hlt⟩ := rgl_mem hx
      generalize hq : pre.length = q at hlt e2
      obtain ⟨a, ha, ea⟩ := run_next h (k := k + 1 + 2 * q) (m := ws.length) (rest := rest) (sl := [.v (.r 0), .v (.d (wsD ws)), .v (.d (.int 4)), .v (.d (.int 3)), .v (.d (.int (q : Nat)))]) (ma := mCons (mVar 0) (mCons (mBind (mPeek 1) gLen) mNil)) (hp := [])
        (c := ⟨[.v (.r 0), .v (.d (wsD ws)), .v (.d (.int 4)), .v (.d (.int 3)), .v (.d (.int (q : Nat)))], stO nums ((k + 1 + 2 * q : Nat) : Int) :: rest⟩) (by omega) wl (by
          show Res.ok [CV.r 0, .d (.int ((ws.map PyData.str).length : Nat))] _ = _
          rw [List.length_map])
      obtain ⟨b, hb, eb⟩ := run_next h (k := k + 1 + 2 * q + 1) (m := 3) (rest := rest) (sl := [.v (.r 0), .v (.d (wsD ws)), .v (.d (.int 4)), .v (.d (.int 3)), .v (.d (.int (q : Nat)))]) (ma := mCons (mVar 0) (mCons (mVar 3) mNil)) (hp := [])
        (c := ⟨[.v (.r 0), .v (.d (wsD ws)), .v (.d (.int 4)), .v (.d (.int 3)), .v (.d (.int (q : Nat)))], stO nums ((k + 1 + 2 * q + 1 : Nat) : Int) :: rest⟩) (by omega) (by decide) rfl
      obtain ⟨t, mt, et⟩ := atI_ws ha
      refine ⟨⟨[.v (.r 0), .v (.d (wsD ws)), .v (.d (.int 4)), .v (.d (.int 3)), .v (.d (.int (q : Nat)))], stO nums ((k + 1 + 2 * q : Nat) : Int) :: rest⟩, true, _, rfl, rfl, fun z => (by cases z), fun _ => ?_⟩
      refine ⟨evD (t, (b : Nat)), ⟨[.v (.r 0), .v (.d (wsD ws)), .v (.d (.int 4)), .v (.d (.int 3)), .v (.d (.int (q : Nat)))], stO nums ((k + 1 + 2 * q + 1 + 1 : Nat) : Int) :: rest⟩, ?_, l ++ [((t, ((b : Nat) : Int)) : Str × Int)], by simp [e1], by simp [e2, hq], ?_, ?_⟩
      · have ei : gIxG (.c (.d (wsD ws))) (.d (.int (a : Nat))) ⟨[.v (.r 0), .v (.d (wsD ws)), .v (.d (.int 4)), .v (.d (.int 3)), .v (.d (.int (q : Nat)))], stO nums ((k + 1 + 2 * q + 1 : Nat) : Int) :: rest⟩ = .ok (.d (.str t)) ⟨[.v (.r 0), .v (.d (wsD ws)), .v (.d (.int 4)), .v (.d (.int 3)), .v (.d (.int (q : Nat)))], stO nums ((k + 1 + 2 * q + 1 : Nat) : Int) :: rest⟩ := by
          show (match (L2.atI (ws.map PyData.str) (a : Nat)).map CV.d with
            | some z => Res.ok z _
            | none => .no) = _
          rw [et]
          rfl
        rw [mTup_ap, mCons_ap, mIxNG_ap, mPeek_ap]
        show Res.bind (Res.bind (Res.bind (Res.ok (BV.c (.d (wsD ws))) _) _) _) _ = _
        rw [rb_ok, mBind_ap, ea, rb_ok, mBind_ap, mPeek_ap]
        show Res.bind (Res.bind (Res.bind (Res.ok (BV.c (.d (wsD ws))) _) _) _) _ = _
        rw [rb_ok, ei, rb_ok, mBind_ap, mCons_ap, eb]
        rfl
      · intro p mp
        rcases List.mem_append.mp mp with mp | mp
        · exact e3 p mp
        · rw [List.mem_singleton.mp mp]
          exact ⟨mt, by show (0 : Int) ≤ (b : Nat); omega, by show ((b : Nat) : Int) < 3; omega⟩
      · show (⟨_, _⟩ : CS) = _
        rw [show (pre ++ [PyData.int (q : Nat)]).length = q + 1 by simp [hq], show k + 1 + 2 * (q + 1) = k + 1 + 2 * q + 1 + 1 by omega]
        rfl
  refine ⟨l, k + 1 + 2 * v, ⟨by rw [e2, len_rgL]; omega, e3⟩, by omega, ?_⟩
  refine fn_wp (m := m__law_log) (n := 5) (P := fun r => r = .ok (.d (logD l)) _) (.ret (x := .d (logD l)) (c1 := ⟨[.v (.r 0), .v (.d (wsD ws)), .v (.d (.int 4)), .v (.d (.int 3)), .un], stO nums ((k + 1 + 2 * v : Nat) : Int) :: rest⟩) ?_ rfl)
  rw [mBind_ap, mBf_ap, show (⟨[CV.r 0, .d (wsD ws), .d (.int 4), .d (.int 3)].map Sl.v ++ List.replicate (5 - [CV.r 0, .d (wsD ws), .d (.int 4), .d (.int 3)].length) .un, stO nums (k : Nat) :: rest⟩ : CS) = ⟨[.v (.r 0), .v (.d (wsD ws)), .v (.d (.int 4)), .v (.d (.int 3)), .un], stO nums (k : Nat) :: rest⟩ from rfl, e5, e4, len_rgL, e1]
  rfl
end Lw

set_option Elab.async false
set_option maxRecDepth 100000
set_option maxHeartbeats 4000000
namespace Lw
open PySem PySem.Spec PyProof.Rows Cl
def plD (ps : List Nat) : PyData := .tuple (ps.map fun k => .int (k : Nat))
def FRis (r : FR) (y : PyData) (hp : List CO) : Prop := r = .ok (.d y) hp
theorem _root_.Cl.rg2_nat {ma mb : Mo CV} {c c1 c2 : CS} {i n : Nat} (e : ma c = .ok (.d (.int (i : Nat))) c1) (e2 : mb c1 = .ok (.d (.int (n : Nat))) c2) (h : i ≤ 1000000) (h2 : n ≤ 1000000) : mRg2 ma mb c = .ok (rgL (i : Nat) (n - i)) c2 := by
  have ok : ∀ n : Nat, n ≤ 1000000 → okRg ((n : Nat) : Int) = true := fun n h => by
    unfold okRg
    rw [decide_eq_true (by omega), decide_eq_true (by omega)]
    rfl
  rw [mRg2_ap, e, rb_ok, mBind_ap, e2, rb_ok, mBind_ap, asI_ap, rb_ok, mBind_ap, asI_ap, rb_ok, ok _ h, ok _ h2]
  show Res.ok (rgL _ _) _ = _
  rw [show (((n : Nat) : Int) - ((i : Nat) : Int)).toNat = n - i by omega]
theorem pl_last {r : List Nat} (h : r ≠ []) : L2.atI (r.map fun k => PyData.int (k : Nat)) (-1) = some (.int ((r.getLast h : Nat) : Int)) := by
  have hl : 0 < r.length := List.length_pos_iff.mpr h
  unfold L2.atI L2.ixN
  rw [List.length_map, if_neg (by decide), if_pos (by omega)]
  show (r.map fun k => PyData.int (k : Nat))[((r.length : Nat) + (-1 : Int)).toNat]? = _
  rw [show ((r.length : Nat) + (-1 : Int)).toNat = r.length - 1 by omega, List.getElem?_map, List.getElem?_eq_getElem (by omega), List.getLast_eq_getElem]
  rfl
def stA (r : List Nat) : Nat := (r.getLast?.map (· + 1)).getD 0
def more (many : Nat) (r : List Nat) : List (List Nat) := (List.range (many - stA r)).map fun i => r ++ [stA r + i]
theorem ch_succ {many k : Nat} : Mg.choices many (k + 1) = (Mg.choices many k).flatMap (more many) := rfl
theorem more_len {many : Nat} {r : List Nat} : (more many r).length ≤ many := by
  unfold more
  rw [List.length_map, List.length_range]
  omega
theorem fm_len {many : Nat} : ∀ rs : List (List Nat), (rs.flatMap (more many)).length ≤ rs.length * many
  | [] => by simp
  | r :: rs => by
    rw [List.flatMap_cons, List.length_append, List.length_cons, Nat.add_mul, Nat.one_mul]
    have := more_len (many := many) (r := r)
    have := fm_len (many := many) rs
    omega
theorem ch_len {many : Nat} (hm : many ≤ 8) : ∀ k, (Mg.choices many k).length ≤ 8 ^ k
  | 0 => Nat.le_refl _
  | k + 1 => by
    rw [ch_succ, Nat.pow_succ]
    exact Nat.le_trans (fm_len _) (Nat.le_trans (Nat.mul_le_mul_left _ hm) (Nat.mul_le_mul_right 8 (ch_len hm k)))
theorem ch_st {many : Nat} (hm : many ≤ 8) : ∀ k, ∀ r ∈ Mg.choices many k, stA r ≤ 1000000 ∧ r.length = k
  | 0, r, h => by
    rw [show Mg.choices many 0 = [[]] from rfl, List.mem_singleton] at h
    subst h
    exact ⟨by show (0 : Nat) ≤ _; omega, rfl⟩
  | k + 1, r, h => by
    rw [ch_succ, List.mem_flatMap] at h
    obtain ⟨r', h', h⟩ := h
    unfold more at h
    obtain ⟨i, hi, rfl⟩ := List.mem_map.mp h
    rw [List.mem_range] at hi
    have := ch_st hm k r' h'
    refine ⟨?_, by rw [List.length_append, this.2]; rfl⟩
    unfold stA
    rw [List.getLast?_append]
    show stA r' + i + 1 ≤ 1000000
    omega
theorem ch_all {many few : Nat} (hm : many ≤ 8) (hf : few ≤ 4) (hp : List CO) : F__law_choices [.d (.int (many : Nat)), .d (.int (few : Nat))] hp = .ok (.d (.list ((Mg.choices many few).map plD))) hp := by
  have big : ∀ k, k ≤ 4 → (Mg.choices many k).length ≤ 4096 := fun k hk => Nat.le_trans (ch_len hm k) (Nat.pow_le_pow_right (by decide) hk)
  refine fn_wp (m := m__law_choices) (n := 8) (P := fun r => r = .ok (.d (.list ((Mg.choices many few).map plD))) hp) ?_
  refine .seq (.own (x := [.tuple []]) (c1 := ⟨[.v (.d (.int (many : Nat))), .v (.d (.int (few : Nat))), .un, .un, .un, .un, .un, .un], hp⟩) rfl (go ?_))
  refine .seq (.for (xs := rgL 0 few) (c1 := ⟨[.v (.d (.int (many : Nat))), .v (.d (.int (few : Nat))), .ol [.tuple []], .un, .un, .un, .un, .un], hp⟩) (rg1_nat rfl (by omega))
    (fun pre c => ∃ s2 s3 s4 s5 s6, c = ⟨[.v (.d (.int (many : Nat))), .v (.d (.int (few : Nat))), s2, s3, s4, s5, s6, .un], hp⟩ ∧ (s2 = .ol ((Mg.choices many pre.length).map plD) ∨ s2 = .v (.d (.list ((Mg.choices many pre.length).map plD))))) ⟨_, _, _, _, _, rfl, .inl rfl⟩ ?_ ?_)
  · rintro pre x post c hx ⟨s2, s3, s4, s5, s6, rfl, h2⟩
    obtain ⟨rfl, hlt⟩ := rgl_mem hx
    rw [show (pre ++ [PyData.int (pre.length : Nat)]).length = pre.length + 1 by simp]
    generalize pre.length = q at h2 hlt
    have hq := big q (by omega)
    have hq1 := big (q + 1) (by omega)
    refine ⟨⟨[.v (.d (.int (many : Nat))), .v (.d (.int (few : Nat))), s2, .v (.d (.int (q : Nat))), s4, s5, s6, .un], hp⟩, rfl, ?_⟩
    refine .seq (.own (x := []) (c1 := ⟨[.v (.d (.int (many : Nat))), .v (.d (.int (few : Nat))), s2, .v (.d (.int (q : Nat))), s4, s5, s6, .un], hp⟩) rfl (go ?_))
    refine .seq (.for (xs := (Mg.choices many q).map plD) (c1 := ⟨[.v (.d (.int (many : Nat))), .v (.d (.int (few : Nat))), .v (.d (.list ((Mg.choices many q).map plD))), .v (.d (.int (q : Nat))), .ol [], s5, s6, .un], hp⟩) ?_
      (fun p c => ∃ s5 s6, c = ⟨[.v (.d (.int (many : Nat))), .v (.d (.int (few : Nat))), .v (.d (.list ((Mg.choices many q).map plD))), .v (.d (.int (q : Nat))), .ol ((((Mg.choices many q).take p.length).flatMap (more many)).map plD), s5, s6, .un], hp⟩) ⟨_, _, rfl⟩ ?_ ?_)
    · rcases h2 with rfl | rfl <;> rfl
    · rintro p y post c hy ⟨s5, s6, rfl⟩
      rw [show (p ++ [y]).length = p.length + 1 by simp]
      have hl := congrArg List.length hy
      rw [List.length_map, List.length_append, List.length_cons] at hl
      have hpl : p.length < (Mg.choices many q).length := by omega
      have ey : y = plD (Mg.choices many q)[p.length] := by
        have e := congrArg (fun l : List PyData => l[p.length]?) hy
        simp only [List.getElem?_map, List.getElem?_eq_getElem hpl, List.getElem?_append_right (Nat.le_refl _), Nat.sub_self, List.getElem?_cons_zero, Option.map_some, Option.some.injEq] at e
        exact e.symm
      subst ey
      have et : (Mg.choices many q).take (p.length + 1) = (Mg.choices many q).take p.length ++ [(Mg.choices many q)[p.length]] := by
        rw [List.take_succ, List.getElem?_eq_getElem hpl]
        rfl
      rw [et, List.flatMap_append]
      have hst0 := ch_st hm q _ (List.getElem_mem hpl)
      generalize (Mg.choices many q)[p.length] = r at hst0
      obtain ⟨hst, hrl⟩ := hst0
      have hacc : (((Mg.choices many q).take p.length).flatMap (more many)).length ≤ 4096 * 8 := by
        refine Nat.le_trans (fm_len _) (Nat.mul_le_mul ?_ hm)
        rw [List.length_take]
        omega
      have hmr := more_len (many := many) (r := r)
      generalize ((Mg.choices many q).take p.length).flatMap (more many) = acc at hacc
      generalize (Mg.choices many q).map plD = rws
      refine ⟨⟨[.v (.d (.int (many : Nat))), .v (.d (.int (few : Nat))), .v (.d (.list rws)), .v (.d (.int (q : Nat))), .ol (acc.map plD), .v (.d (plD r)), s6, .un], hp⟩, rfl, ?_⟩
      refine .seq (.set (x := .d (.int 0)) (c1 := ⟨[.v (.d (.int (many : Nat))), .v (.d (.int (few : Nat))), .v (.d (.list rws)), .v (.d (.int (q : Nat))), .ol (acc.map plD), .v (.d (plD r)), s6, .un], hp⟩) rfl (go ?_))
      have last : ∀ D : RS → Prop, D (.nx ⟨[.v (.d (.int (many : Nat))), .v (.d (.int (few : Nat))), .v (.d (.list rws)), .v (.d (.int (q : Nat))), .ol ((acc ++ more many r).map plD), .v (.d (plD r)), .v (.d (.int (stA r : Nat))), .un], hp⟩) → Wp D (sDrop (mExt 4 (mBf (mLc (mRg2 (mVar 6) (mVar 0)) (gN 7) mYes (m2 (lift2 pAdd) (mVar 5) (mTup (mCons (mVar 7) mNil))) [7])))) ⟨[.v (.d (.int (many : Nat))), .v (.d (.int (few : Nat))), .v (.d (.list rws)), .v (.d (.int (q : Nat))), .ol (acc.map plD), .v (.d (plD r)), .v (.d (.int (stA r : Nat))), .un], hp⟩ := fun D hD => by
        refine .drop (x := .d .none) ?_ hD
        rw [mExt_ap, chkL_ap]
        show Res.bind (Res.ok () _) _ = _
        rw [rb_ok, mBind_ap, mBf_ap, lc_all (l := List.range (many - stA r)) (fun i => .int ((stA r : Nat) + (i : Nat))) (fun i => plD (r ++ [stA r + i])) (c0 := ⟨[.v (.d (.int (many : Nat))), .v (.d (.int (few : Nat))), .v (.d (.list rws)), .v (.d (.int (q : Nat))), .ol (acc.map plD), .v (.d (plD r)), .v (.d (.int (stA r : Nat))), .un], hp⟩) ?e ?hl (w := ⟨[.v (.d (.int (many : Nat))), .v (.d (.int (few : Nat))), .v (.d (.list rws)), .v (.d (.int (q : Nat))), .ol (acc.map plD), .v (.d (plD r)), .v (.d (.int (stA r : Nat))), .un], hp⟩) rfl ?h]
        case e =>
          exact rg2_nat (ma := mVar 6) (mb := mVar 0) (i := stA r) (n := many) (c1 := ⟨[.v (.d (.int (many : Nat))), .v (.d (.int (few : Nat))), .v (.d (.list rws)), .v (.d (.int (q : Nat))), .ol (acc.map plD), .v (.d (plD r)), .v (.d (.int (stA r : Nat))), .un], hp⟩) rfl rfl hst (by omega)
        case hl => rw [List.length_range]; omega
        case h =>
          intro i _
          refine ⟨_, ⟨[.v (.d (.int (many : Nat))), .v (.d (.int (few : Nat))), .v (.d (.list rws)), .v (.d (.int (q : Nat))), .ol (acc.map plD), .v (.d (plD r)), .v (.d (.int (stA r : Nat))), .v (.d (.int ((stA r : Nat) + (i : Nat))))], hp⟩, rfl, ?_, rfl⟩
          show mOpt ((pAdd (plD r) (.tuple [.int ((stA r : Nat) + (i : Nat))])).map CV.d) _ = _
          have e1 : pAdd (plD r) (.tuple [.int ((stA r : Nat) + (i : Nat))]) = some (plD (r ++ [stA r + i])) := by
            show tkT _ _ = _
            unfold tkT
            rw [if_pos (by rw [List.length_map]; show r.length + 1 ≤ _; omega)]
            unfold plD
            rw [List.map_append]
            simp
          rw [e1]
          rfl
        rw [rb_ok, mRet_ap, rb_ok]
        show onList 4 _ _ ⟨[.v (.d (.int (many : Nat))), .v (.d (.int (few : Nat))), .v (.d (.list rws)), .v (.d (.int (q : Nat))), .ol (acc.map plD), .v (.d (plD r)), .v (.d (.int (stA r : Nat))), .un], hp⟩ = _
        rw [onList_ap]
        show onSl (some (.ol (acc.map plD))) 4 _ _ _ = _
        rw [onSl_ext (by rw [List.length_map, List.length_map, List.length_range]; omega), List.map_append]
        unfold more
        rw [List.map_map]
        rfl
      have es : [r].flatMap (more many) = more many r := by simp
      refine .seq (.ite (k := decide ((0 : Int) < ((r.map fun k => PyData.int (k : Nat)).length : Nat))) (c1 := ⟨[.v (.d (.int (many : Nat))), .v (.d (.int (few : Nat))), .v (.d (.list rws)), .v (.d (.int (q : Nat))), .ol (acc.map plD), .v (.d (plD r)), .v (.d (.int 0)), .un], hp⟩) rfl (fun hk => ?_) fun hk => .nx (go ?_))
      · have hne : r ≠ [] := by
          rintro rfl
          exact absurd (of_decide_eq_true hk) (by decide)
        have est : stA r = r.getLast hne + 1 := by
          unfold stA
          rw [List.getLast?_eq_some_getLast hne]
          rfl
        refine .set (x := .d (.int (stA r : Nat))) (c1 := ⟨[.v (.d (.int (many : Nat))), .v (.d (.int (few : Nat))), .v (.d (.list rws)), .v (.d (.int (q : Nat))), .ol (acc.map plD), .v (.d (plD r)), .v (.d (.int 0)), .un], hp⟩) ?_ (go (last _ ?_))
        · have ex : mIxNG 5 (mBind (mC (.int 1)) gNeg) ⟨[.v (.d (.int (many : Nat))), .v (.d (.int (few : Nat))), .v (.d (.list rws)), .v (.d (.int (q : Nat))), .ol (acc.map plD), .v (.d (plD r)), .v (.d (.int 0)), .un], hp⟩ = .ok (.d (.int ((r.getLast hne : Nat) : Int))) ⟨[.v (.d (.int (many : Nat))), .v (.d (.int (few : Nat))), .v (.d (.list rws)), .v (.d (.int (q : Nat))), .ol (acc.map plD), .v (.d (plD r)), .v (.d (.int 0)), .un], hp⟩ := by
            show (match (L2.atI (r.map fun k => PyData.int (k : Nat)) (-1)).map CV.d with
              | some z => Res.ok z _
              | none => .no) = _
            rw [pl_last hne]
            rfl
          rw [m2_ap, ex, est]
          rfl
        · rw [es]
          exact ⟨_, _, rfl⟩
      · have : r = [] := by
          have := of_decide_eq_false hk
          rw [List.length_map] at this
          exact List.eq_nil_of_length_eq_zero (by omega)
        subst this
        refine last _ ?_
        rw [es]
        exact ⟨_, _, rfl⟩
    · rintro c ⟨s5, s6, rfl⟩
      rw [List.length_map, List.take_length, ← ch_succ]
      refine go (.set (x := .d (.list ((Mg.choices many (q + 1)).map plD))) (c1 := ⟨[.v (.d (.int (many : Nat))), .v (.d (.int (few : Nat))), .v (.d (.list ((Mg.choices many q).map plD))), .v (.d (.int (q : Nat))), .v (.d (.list ((Mg.choices many (q + 1)).map plD))), s5, s6, .un], hp⟩) rfl ?_)
      exact ⟨_, _, _, _, _, rfl, .inr rfl⟩
  · rintro c ⟨s2, s3, s4, s5, s6, rfl, h2⟩
    rw [len_rgL] at h2
    refine go (.ret (x := .d (.list ((Mg.choices many few).map plD))) (c1 := ⟨[.v (.d (.int (many : Nat))), .v (.d (.int (few : Nat))), .v (.d (.list ((Mg.choices many few).map plD))), s3, s4, s5, s6, .un], hp⟩) ?_ rfl)
    rcases h2 with rfl | rfl <;> rfl
theorem in_pl {ps : List Nat} {k : Nat} {neg : Bool} {c : CS} : gInG neg (.d (.int (k : Nat))) (.c (.d (plD ps))) c = .ok (.d (.bool (if neg then !ps.contains k else ps.contains k))) c := by
  have h1 : PyData.plainAll (ps.map fun k => PyData.int (k : Nat)) = true := plainAll_of fun x m => by
    obtain ⟨_, _, rfl⟩ := List.mem_map.mp m
    rfl
  have h2 : ((ps.map fun k => PyData.int (k : Nat)).any fun z => PyData.eqv z (.int (k : Nat))) = ps.contains k := by
    rw [Bool.eq_iff_iff, List.any_eq_true, List.contains_iff_mem]
    constructor
    · rintro ⟨x, m, e⟩
      obtain ⟨z, m', rfl⟩ := List.mem_map.mp m
      have : (z : Int) = k := by simpa [PyData.eqv] using e
      have : z = k := by omega
      exact this ▸ m'
    · exact fun m => ⟨_, List.mem_map.mpr ⟨k, m, rfl⟩, by simp [PyData.eqv]⟩
  show mOpt ((if PyData.plainAll (ps.map fun k => PyData.int (k : Nat)) = true ∧ PyData.plain (.int (k : Nat)) = true ∧ min (PyData.depthAll (ps.map fun k => PyData.int (k : Nat))) (PyData.depth (.int (k : Nat))) ≤ 60 then some (.bool (if neg then !((ps.map fun k => PyData.int (k : Nat)).any fun z => PyData.eqv z (.int (k : Nat))) else (ps.map fun k => PyData.int (k : Nat)).any fun z => PyData.eqv z (.int (k : Nat)))) else none).map CV.d) c = _
  rw [if_pos ⟨h1, rfl, by simp [PyData.depth]⟩, h2]
  rfl
/-- the first of a list object is taken -/
theorem pop_hd {n : Nat} {x : CV} {xs : List CV} {sl : List Sl} {hp : List CO} (e : hp[n]? = some (.lst (x :: xs))) : onObj (.r n) (ppC 0) ⟨sl, hp⟩ = .ok x ⟨sl, hp.set n (.lst xs)⟩ := by
  have p : ppC 0 (x :: xs) = some (xs, x) := by
    unfold ppC
    rw [if_pos (by decide)]
    have : seqIndex? 0 (x :: xs).length = some 0 := by
      unfold seqIndex?
      simp
    rw [this]
    rfl
  unfold onObj
  simp only [e, p]
abbrev hpM (hp : List CO) (a b : Log) : List CO := hp ++ [.lst ((a.map evD).map .d), .lst ((b.map evD).map .d), .lst [.r hp.length, .r (hp.length + 1)]]
theorem hpM_0 {hp : List CO} {a b : Log} : (hpM hp a b)[hp.length]? = some (.lst ((a.map evD).map .d)) := by
  rw [List.getElem?_append_right (Nat.le_refl _), Nat.sub_self]
  rfl
theorem hpM_1 {hp : List CO} {a b : Log} : (hpM hp a b)[hp.length + 1]? = some (.lst ((b.map evD).map .d)) := by
  rw [List.getElem?_append_right (by omega), show hp.length + 1 - hp.length = 1 by omega]
  rfl
theorem hpM_2 {hp : List CO} {a b : Log} : (hpM hp a b)[hp.length + 2]? = some (.lst [.r hp.length, .r (hp.length + 1)]) := by
  rw [List.getElem?_append_right (by omega), show hp.length + 2 - hp.length = 2 by omega]
  rfl
theorem hpM_s0 {hp : List CO} {a a' b : Log} : (hpM hp a b).set hp.length (.lst ((a'.map evD).map .d)) = hpM hp a' b := by
  rw [List.set_append_right _ _ (Nat.le_refl _), Nat.sub_self]
  rfl
theorem hpM_s1 {hp : List CO} {a b b' : Log} : (hpM hp a b).set (hp.length + 1) (.lst ((b'.map evD).map .d)) = hpM hp a b' := by
  rw [List.set_append_right _ _ (by omega), show hp.length + 1 - hp.length = 1 by omega]
  rfl
theorem merged_eq {l1 l2 : Log} {ps : List Nat} {r : Log} (hp : List CO) (h1 : l1.length ≤ 60) (h2 : l2.length ≤ 60) (h : Mg.mrg ps (List.range (l1.length + l2.length)) l1 l2 = some r) :
    ∃ x y z, F__law_merged [.d (logD l1), .d (logD l2), .d (plD ps)] hp = .ok (.d (logD r)) (hp ++ [x, y, z]) := by
  refine fn_wp (m := m__law_merged) (n := 6) (P := fun q => ∃ x y z, q = .ok (.d (logD r)) (hp ++ [x, y, z])) ?_
  refine .seq (.own (x := []) (c1 := ⟨[.v (.d (logD l1)), .v (.d (logD l2)), .v (.d (plD ps)), .un, .un, .un], hp⟩) rfl (go ?_))
  refine .seq (.set (x := .r (hp.length + 2)) (c1 := ⟨[.v (.d (logD l1)), .v (.d (logD l2)), .v (.d (plD ps)), .ol [], .un, .un], hpM hp l1 l2⟩) ?_ (go ?_))
  · show mNewD _ ⟨[.v (.d (logD l1)), .v (.d (logD l2)), .v (.d (plD ps)), .ol [], .un, .un], hp⟩ = _
    rw [mNewD_ap, mCons_ap]
    show Res.bind (Res.bind (Res.ok (CV.r hp.length) ⟨[.v (.d (logD l1)), .v (.d (logD l2)), .v (.d (plD ps)), .ol [], .un, .un], hp ++ [.lst ((l1.map evD).map .d)]⟩) _) _ = _
    rw [rb_ok, mBind_ap, mCons_ap]
    show Res.bind (Res.bind (Res.bind (Res.ok (CV.r (hp ++ [CO.lst ((l1.map evD).map .d)]).length) ⟨[.v (.d (logD l1)), .v (.d (logD l2)), .v (.d (plD ps)), .ol [], .un, .un], hp ++ [.lst ((l1.map evD).map .d)] ++ [.lst ((l2.map evD).map .d)]⟩) _) _) _ = _
    rw [rb_ok, mBind_ap, mNil_ap, rb_ok, mRet_ap, rb_ok, mRet_ap, rb_ok]
    show (if _ then _ else _) = _
    rw [if_pos (Nat.le_of_ble_eq_true rfl)]
    have e : (hp ++ [CO.lst ((l1.map evD).map .d)] ++ [CO.lst ((l2.map evD).map .d)]).length = hp.length + 2 := by simp
    rw [e]
    have e' : (hp ++ [CO.lst ((l1.map evD).map .d)]).length = hp.length + 1 := by simp
    rw [e', cNew_mk]
    simp
  have fin_ : ∀ (D : List Log), True := fun _ => trivial
  refine .seq (.for (xs := rgL 0 (l1.length + l2.length)) (c1 := ⟨[.v (.d (logD l1)), .v (.d (logD l2)), .v (.d (plD ps)), .ol [], .v (.r (hp.length + 2)), .un], hpM hp l1 l2⟩) ?_
    (fun pre c => ∃ (a b f g : Log) (s5 : Sl), c = ⟨[.v (.d (logD l1)), .v (.d (logD l2)), .v (.d (plD ps)), .ol (f.map evD), .v (.r (hp.length + 2)), s5], hpM hp a b⟩ ∧ Mg.mrg ps ((List.range (l1.length + l2.length)).drop pre.length) a b = some g ∧ f ++ g = r ∧ f.length = pre.length) ⟨l1, l2, [], r, .un, rfl, h, rfl, rfl⟩ ?_ ?_)
  · refine rg1_nat ?_ (by omega)
    show Res.ok (CV.d (.int (((l1.map evD).length : Nat) + ((l2.map evD).length : Nat)))) _ = _
    rw [List.length_map, List.length_map]
    rfl
  · rintro pre x post c hx ⟨a, b, f, g, s5, rfl, hg, hr, hf⟩
    obtain ⟨rfl, hlt⟩ := rgl_mem hx
    rw [show (pre ++ [PyData.int (pre.length : Nat)]).length = pre.length + 1 by simp]
    generalize pre.length = q at hg hf hlt
    refine ⟨⟨[.v (.d (logD l1)), .v (.d (logD l2)), .v (.d (plD ps)), .ol (f.map evD), .v (.r (hp.length + 2)), .v (.d (.int (q : Nat)))], hpM hp a b⟩, rfl, ?_⟩
    rw [List.drop_eq_getElem_cons (by rw [List.length_range]; exact hlt), List.getElem_range] at hg
    unfold Mg.mrg at hg
    have ei : mBind (mBo (m2b (gInG true) (mVar 5) (mPeek 2))) gInt ⟨[.v (.d (logD l1)), .v (.d (logD l2)), .v (.d (plD ps)), .ol (f.map evD), .v (.r (hp.length + 2)), .v (.d (.int (q : Nat)))], hpM hp a b⟩ = .ok (.d (.int (if ps.contains q then 0 else 1))) ⟨[.v (.d (logD l1)), .v (.d (logD l2)), .v (.d (plD ps)), .ol (f.map evD), .v (.r (hp.length + 2)), .v (.d (.int (q : Nat)))], hpM hp a b⟩ := by
      rw [mBind_ap, mBo_ap, m2b_ap]
      show Res.bind (Res.bind (Res.bind (Res.ok (CV.d (.int (q : Nat))) _) _) _) _ = _
      rw [rb_ok, mBind_ap]
      show Res.bind (Res.bind (Res.bind (Res.ok (BV.c (.d (plD ps))) _) _) _) _ = _
      rw [rb_ok, in_pl, rb_ok, mRet_ap, rb_ok]
      unfold gInt
      rw [gO_ap]
      cases ps.contains q <;> rfl
    have ep : ∀ (i : Nat) (z : CV), L2.atI [CV.r hp.length, .r (hp.length + 1)] ((i : Nat) : Int) = some z → (if ps.contains q then (0 : Int) else 1) = ((i : Nat) : Int) → mIxNG 4 (mBind (mBo (m2b (gInG true) (mVar 5) (mPeek 2))) gInt) ⟨[.v (.d (logD l1)), .v (.d (logD l2)), .v (.d (plD ps)), .ol (f.map evD), .v (.r (hp.length + 2)), .v (.d (.int (q : Nat)))], hpM hp a b⟩ = .ok z ⟨[.v (.d (logD l1)), .v (.d (logD l2)), .v (.d (plD ps)), .ol (f.map evD), .v (.r (hp.length + 2)), .v (.d (.int (q : Nat)))], hpM hp a b⟩ := fun i z e1 e2 => by
      rw [mIxNG_ap, mPeek_ap]
      show Res.bind (Res.ok (BV.c (.r (hp.length + 2))) _) _ = _
      rw [rb_ok, mBind_ap, ei, rb_ok, mBind_ap, mPeek_ap]
      show Res.bind (Res.ok (BV.c (.r (hp.length + 2))) _) _ = _
      rw [rb_ok, e2, ixg_ref hpM_2 e1]
    have hfl : (f.map evD).length < 16777216 := by rw [List.length_map]; omega
    cases hc : ps.contains q with
    | true =>
      rw [hc, if_pos rfl] at hg
      cases a with
      | nil => cases hg
      | cons ev a =>
        dsimp only at hg
        cases eg : Mg.mrg ps ((List.range (l1.length + l2.length)).drop (q + 1)) a b with
        | none => rw [eg] at hg; cases hg
        | some g' =>
          rw [eg] at hg
          cases hg
          refine .drop (x := .d .none) (c1 := ⟨[.v (.d (logD l1)), .v (.d (logD l2)), .v (.d (plD ps)), .ol ((f ++ [ev]).map evD), .v (.r (hp.length + 2)), .v (.d (.int (q : Nat)))], hpM hp a b⟩) ?_ ⟨a, b, f ++ [ev], g', _, rfl, eg, by rw [List.append_assoc]; exact hr, by simp [hf]⟩
          rw [mApp_ap, chkL_ap]
          show Res.bind (Res.ok () _) _ = _
          rw [rb_ok, mBind_ap, mPopO_ap, ep 0 (.r hp.length) rfl (by rw [hc]; rfl), rb_ok, mBind_ap]
          rw [show chkO (.r hp.length) ⟨[.v (.d (logD l1)), .v (.d (logD l2)), .v (.d (plD ps)), .ol (f.map evD), .v (.r (hp.length + 2)), .v (.d (.int (q : Nat)))], hpM hp (ev :: a) b⟩ = .ok () _ by unfold chkO; simp only [hpM_0]; rfl, rb_ok, mBind_ap, mC_ap, rb_ok, mBind_ap, asI_ap, rb_ok, pop_hd hpM_0, rb_ok, hpM_s0, onList_ap]
          show onSl (some (.ol (f.map evD))) 3 _ _ _ = _
          rw [onSl_app hfl, List.map_append]
          rfl
    | false =>
      rw [hc, if_neg (by decide)] at hg
      cases b with
      | nil => cases hg
      | cons ev b =>
        dsimp only at hg
        cases eg : Mg.mrg ps ((List.range (l1.length + l2.length)).drop (q + 1)) a b with
        | none => rw [eg] at hg; cases hg
        | some g' =>
          rw [eg] at hg
          cases hg
          refine .drop (x := .d .none) (c1 := ⟨[.v (.d (logD l1)), .v (.d (logD l2)), .v (.d (plD ps)), .ol ((f ++ [ev]).map evD), .v (.r (hp.length + 2)), .v (.d (.int (q : Nat)))], hpM hp a b⟩) ?_ ⟨a, b, f ++ [ev], g', _, rfl, eg, by rw [List.append_assoc]; exact hr, by simp [hf]⟩
          rw [mApp_ap, chkL_ap]
          show Res.bind (Res.ok () _) _ = _
          rw [rb_ok, mBind_ap, mPopO_ap, ep 1 (.r (hp.length + 1)) rfl (by rw [hc]; rfl), rb_ok, mBind_ap]
          rw [show chkO (.r (hp.length + 1)) ⟨[.v (.d (logD l1)), .v (.d (logD l2)), .v (.d (plD ps)), .ol (f.map evD), .v (.r (hp.length + 2)), .v (.d (.int (q : Nat)))], hpM hp a (ev :: b)⟩ = .ok () _ by unfold chkO; simp only [hpM_1]; rfl, rb_ok, mBind_ap, mC_ap, rb_ok, mBind_ap, asI_ap, rb_ok, pop_hd hpM_1, rb_ok, hpM_s1, onList_ap]
          show onSl (some (.ol (f.map evD))) 3 _ _ _ = _
          rw [onSl_app hfl, List.map_append]
          rfl
  · rintro c ⟨a, b, f, g, s5, rfl, hg, hr, hf⟩
    rw [len_rgL, List.drop_eq_nil_of_le (by rw [List.length_range]; exact Nat.le_refl _)] at hg
    cases hg
    rw [List.append_nil] at hr
    subst hr
    exact go (.ret (x := .d (logD f)) (c1 := ⟨[.v (.d (logD l1)), .v (.d (logD l2)), .v (.d (plD ps)), .ol (f.map evD), .v (.r (hp.length + 2)), s5], hpM hp a b⟩) rfl ⟨_, _, _, rfl⟩)
end Lw

set_option Elab.async false
set_option maxRecDepth 100000
set_option maxHeartbeats 4000000
namespace Cl
open PySem PySem.Spec PyProof.Rows
theorem call_ok {n : Nat} {F : Fn} {ma : Mo (List CV)} {c : CS} {args : List CV} {sl : List Sl} {hp hp' : List CO} {x : CV} (ha : ma c = .ok args ⟨sl, hp⟩) (hn : args.length = n) (e : F args hp = .ok x hp') : mCall n F ma c = .ok x ⟨sl, hp'⟩ := by
  rw [mCall_ap, ha, rb_ok, runF_ap hn, e]
  rfl
theorem call_ex {n : Nat} {F : Fn} {ma : Mo (List CV)} {c : CS} {args : List CV} {sl : List Sl} {hp hp' : List CO} {x : XC} (ha : ma c = .ok args ⟨sl, hp⟩) (hn : args.length = n) (e : F args hp = .ex x hp') : mCall n F ma c = .ex x ⟨sl, hp'⟩ := by
  rw [mCall_ap, ha, rb_ok, runF_ap hn, e]
  rfl
theorem mem_insK {k z : L2.Key} {ks : List L2.Key} : z ∈ insK k ks ↔ z = k ∨ z ∈ ks := by
  unfold insK
  split
  · rename_i h
    obtain ⟨j, hj, e⟩ := List.any_eq_true.mp h
    have e := of_decide_eq_true e
    constructor
    · exact .inr
    · rintro (rfl | h)
      · exact e ▸ hj
      · exact h
  · exact List.mem_cons
theorem mem_foldK {z : L2.Key} : ∀ (ks acc : List L2.Key), z ∈ ks.foldl (fun acc k => insK k acc) acc ↔ z ∈ acc ∨ z ∈ ks
  | [], acc => by simp
  | k :: ks, acc => by
    rw [List.foldl_cons, mem_foldK ks, mem_insK, List.mem_cons]
    constructor
    · rintro ((h | h) | h)
      · exact .inr (.inl h)
      · exact .inl h
      · exact .inr (.inr h)
    · rintro (h | h | h)
      · exact .inl (.inr h)
      · exact .inl (.inl h)
      · exact .inr h
theorem mem_setK {z : L2.Key} {ks : List L2.Key} : z ∈ setK ks ↔ z ∈ ks := by
  unfold setK
  rw [mem_foldK]
  simp
theorem asKs_ints : ∀ ns : List Int, asKs (ns.map .int) = some (ns.map Sum.inl)
  | [] => rfl
  | n :: ns => by
    show (match asK (.int n), asKs (ns.map .int) with
    | some k, some r => some (k :: r)
    | _, _ => none) = _
    rw [asKs_ints ns]
    rfl
theorem ints_of {ks : List L2.Key} (h : ∀ k ∈ ks, ∃ i : Int, k = Sum.inl i) : ∃ is : List Int, ks = is.map Sum.inl := by
  induction ks with
  | nil => exact ⟨[], rfl⟩
  | cons k ks ih =>
    obtain ⟨i, rfl⟩ := h k (.head _)
    obtain ⟨is, rfl⟩ := ih fun k m => h k (.tail _ m)
    exact ⟨i :: is, rfl⟩
/-- sorted(set(ints)) -/
theorem set_sorted {ns : List Int} {sl : List Sl} {hp : List CO} (hl : ns.length ≤ 4000) : ∃ ks : List Int, Res.bind (gSet (.l (ns.map .int)) ⟨sl, hp⟩) gSortM = .ok (ks.map .int) ⟨sl, hp⟩ ∧ (∀ z, z ∈ ks ↔ z ∈ ns) ∧ ks.length ≤ ns.length := by
  have e1 : bSet (.l (ns.map .int)) hp = some (setK (ns.map Sum.inl)) := by
    show (((some (ns.map PyData.int)).bind asKs).bind fun ks => if ks.length ≤ 4000 then some (setK ks) else none) = _
    show ((asKs (ns.map PyData.int)).bind fun ks => if ks.length ≤ 4000 then some (setK ks) else none) = _
    rw [asKs_ints]
    show (if (ns.map Sum.inl).length ≤ 4000 then some (setK (ns.map Sum.inl)) else none) = _
    rw [if_pos (by rw [List.length_map]; exact hl)]
  obtain ⟨is, e2⟩ := ints_of (ks := setK (ns.map Sum.inl)) fun k m => by
    obtain ⟨i, _, rfl⟩ := List.mem_map.mp (mem_setK.mp m)
    exact ⟨i, rfl⟩
  have e3 : homK (setK (ns.map Sum.inl)) = true := by
    unfold homK
    rw [e2, List.all_map]
    simp [isL]
  refine ⟨is.mergeSort fun a b => dLe (.int a) (.int b), ?_, fun z => ?_, ?_⟩
  · unfold gSet
    rw [gO_ap, e1]
    show (if homK (setK (ns.map Sum.inl)) = true then Res.ok (sortD ((setK (ns.map Sum.inl)).map keyD)) _ else .no) = _
    rw [if_pos e3, e2, List.map_map]
    congr 1
    exact (PySem.W.sort_maps PyData.int fun _ _ _ _ => rfl).symm
  · rw [List.mem_mergeSort]
    have : (Sum.inl z : L2.Key) ∈ setK (ns.map Sum.inl) ↔ z ∈ is := by
      rw [e2]
      simp
    rw [← this, mem_setK]
    simp
  · rw [List.length_mergeSort]
    have := setK_len (ns.map Sum.inl)
    rw [e2, List.length_map, List.length_map] at this
    exact this
end Cl
namespace Lw
open PySem PySem.Spec PyProof.Rows Cl
theorem fin_is {m : MS} {n : Nat} {xs : List CV} {hp : List CO} : fnOf m n xs hp = fin (m ⟨xs.map .v ++ List.replicate (n - xs.length) .un, hp⟩) := rfl
theorem told_ok {x y z : PyData} {hp : List CO} (e : F_all_merges [.d x, .d y] hp = .ok (.d z) hp) : F__law_told [.d x, .d y] hp = .ok (.d (.tuple [.str "told", z])) hp := by
  have q : mCall 2 F_all_merges (mCons (mVar 0) (mCons (mVar 1) mNil)) ⟨[.v (.d x), .v (.d y), .un], hp⟩ = .ok (.d z) ⟨[.v (.d x), .v (.d y), .un], hp⟩ := call_ok rfl rfl e
  have q2 : (sRet (mTup (mCons (mC (.str "told")) (mCons (mCall 2 F_all_merges (mCons (mVar 0) (mCons (mVar 1) mNil))) mNil)))) ⟨[.v (.d x), .v (.d y), .un], hp⟩ = .rt (.d (.tuple [.str "told", z])) ⟨[.v (.d x), .v (.d y), .un], hp⟩ := by
    rw [sRet_ap, mTup_ap, mCons_ap, mC_ap, rb_ok, mBind_ap, mCons_ap, q]
    rfl
  have q3 : m__law_told ⟨[.v (.d x), .v (.d y), .un], hp⟩ = .rt (.d (.tuple [.str "told", z])) ⟨[.v (.d x), .v (.d y), .un], hp⟩ := by
    unfold m__law_told sTryE
    rw [q2]
  show fin (m__law_told ⟨[.v (.d x), .v (.d y), .un], hp⟩) = _
  rw [q3]
  rfl
theorem told_ex {x y : PyData} {n t : Str} {hp : List CO} (e : F_all_merges [.d x, .d y] hp = .ex ⟨n, []⟩ hp) (ht : errF n = some t) : F__law_told [.d x, .d y] hp = .ok (.d (.str t)) hp := by
  have q : mCall 2 F_all_merges (mCons (mVar 0) (mCons (mVar 1) mNil)) ⟨[.v (.d x), .v (.d y), .un], hp⟩ = .ex ⟨n, []⟩ ⟨[.v (.d x), .v (.d y), .un], hp⟩ := call_ex rfl rfl e
  have q2 : (sRet (mTup (mCons (mC (.str "told")) (mCons (mCall 2 F_all_merges (mCons (mVar 0) (mCons (mVar 1) mNil))) mNil)))) ⟨[.v (.d x), .v (.d y), .un], hp⟩ = .ex ⟨n, []⟩ ⟨[.v (.d x), .v (.d y), .un], hp⟩ := by
    rw [sRet_ap, mTup_ap, mCons_ap, mC_ap, rb_ok, mBind_ap, mCons_ap, q]
    rfl
  have q3 : m__law_told ⟨[.v (.d x), .v (.d y), .un], hp⟩ = .rt (.d (.str t)) ⟨[.v (.d x), .v (.d y), .un], hp⟩ := by
    unfold m__law_told sTryE
    rw [q2]
    simp [ht]
  show fin (m__law_told ⟨[.v (.d x), .v (.d y), .un], hp⟩) = _
  rw [q3]
  rfl
theorem bad_first {x y : PyData} {hp : List CO} (e : F_check_log [.d x] hp = .ex ⟨"NotAllowed", []⟩ hp) : F__law_told [.d x, .d y] hp = .ok (.d (.str "refused")) hp := by
  refine told_ex (n := "NotAllowed") ?_ rfl
  refine fn_wp (m := m_all_merges) (n := 8) (P := fun r => r = .ex ⟨"NotAllowed", []⟩ hp) ?_
  exact .seq (.dropX (c1 := ⟨[.v (.d x), .v (.d y), .un, .un, .un, .un, .un, .un], hp⟩) (call_ex rfl rfl e) rfl)
theorem bad_second {l : Log} {y : PyData} {hp : List CO} (h : LogOk l) (e : F_check_log [.d y] hp = .ex ⟨"NotAllowed", []⟩ hp) : F__law_told [.d (logD l), .d y] hp = .ok (.d (.str "refused")) hp := by
  refine told_ex (n := "NotAllowed") ?_ rfl
  refine fn_wp (m := m_all_merges) (n := 8) (P := fun r => r = .ex ⟨"NotAllowed", []⟩ hp) ?_
  exact .seq (.drop (c1 := ⟨[.v (.d (logD l)), .v (.d y), .un, .un, .un, .un, .un, .un], hp⟩) (call_ok rfl rfl (check_ok h hp)) (go (.seq (.dropX (c1 := ⟨[.v (.d (logD l)), .v (.d y), .un, .un, .un, .un, .un, .un], hp⟩) (call_ex rfl rfl e) rfl))))
theorem law_names {l : Log} (hl : l.length ≤ 60) (hp : List CO) : ∃ ks : List Int, F__law_names [.d (logD l)] hp = .ok (.d (.list (ks.map .int))) hp ∧ (∀ z, z ∈ ks ↔ ∃ p ∈ l, p.2 = z) ∧ ks.length ≤ 60 := by
  obtain ⟨ks, e1, e2, e4⟩ := set_sorted (ns := l.map (·.2)) (sl := [.v (.d (logD l)), .un, .un]) (hp := hp) (by rw [List.length_map]; omega)
  refine ⟨ks, ?_, fun z => by rw [e2]; simp, by rw [List.length_map] at e4; omega⟩
  refine fn_wp (m := m__law_names) (n := 3) (P := fun r => r = .ok (.d (.list (ks.map .int))) hp) ?_
  refine .ret (x := .d (.list (ks.map .int))) (c1 := ⟨[.v (.d (logD l)), .un, .un], hp⟩) ?_ rfl
  rw [mFz_ap, mBind_ap, mBind_ap, mBf_ap, lc_all (l := l) evD (fun p => .int p.2) (c0 := ⟨[.v (.d (logD l)), .un, .un], hp⟩) (w := ⟨[.v (.d (logD l)), .un, .un], hp⟩) ?e (by omega) rfl ?h]
  case e => rfl
  case h => exact fun p m => ⟨_, _, rfl, rfl, rfl⟩
  rw [rb_ok, mRet_ap, rb_ok]
  have e3 : l.map (fun p => PyData.int p.2) = (l.map (·.2)).map .int := by rw [List.map_map]; rfl
  rw [e3]
  show Res.bind (Res.bind (gSet (.l ((l.map (·.2)).map .int)) ⟨[.v (.d (logD l)), .un, .un], hp⟩) gSortM) _ = _
  rw [e1]
  rfl
theorem same_ok {x : PyData} {d s : Nat} (h : Fine d s x) (hd : d ≤ 50) (hs : s ≤ 10000000) (hp : List CO) : F__law_same [.d x, .d x] hp = .ok (.d (.bool true)) hp := by
  have hl : Fine (d + 1) (1 * (s + 2) + 3) (.list [x]) := Fine.list (fun y m => by rw [List.mem_singleton.mp m]; exact h) (Nat.le_refl 1)
  have r : bRep (.l [x]) hp = some (PyData.list [x]).shown := hl.repL (by omega) (by omega)
  refine fn_wp (m := m__law_same) (n := 2) (P := fun r => r = .ok (.d (.bool true)) hp) (.ret (x := .d (.bool true)) (c1 := ⟨[.v (.d x), .v (.d x)], hp⟩) ?_ rfl)
  have e0 : mBind (mBf (mLst (mCons (mVar 0) mNil))) gRep ⟨[.v (.d x), .v (.d x)], hp⟩ = .ok (.d (.str (PyData.list [x]).shown)) ⟨[.v (.d x), .v (.d x)], hp⟩ := by
    show gRep (.l [x]) ⟨[.v (.d x), .v (.d x)], hp⟩ = _
    unfold gRep
    rw [gO_ap, r]
    rfl
  have e1 : mBind (mBf (mLst (mCons (mVar 1) mNil))) gRep ⟨[.v (.d x), .v (.d x)], hp⟩ = .ok (.d (.str (PyData.list [x]).shown)) ⟨[.v (.d x), .v (.d x)], hp⟩ := by
    show gRep (.l [x]) ⟨[.v (.d x), .v (.d x)], hp⟩ = _
    unfold gRep
    rw [gO_ap, r]
    rfl
  rw [m2_ap]
  show Res.bind (mBind (mBf (mLst (mCons (mVar 0) mNil))) gRep ⟨[.v (.d x), .v (.d x)], hp⟩) _ = _
  rw [e0, rb_ok, mBind_ap, e1, rb_ok, lift2_ap, pEq_str]
  simp
end Lw

set_option Elab.async false
set_option maxRecDepth 100000
set_option maxHeartbeats 4000000
namespace Lw
open PySem PySem.Spec PyProof.Rows Cl
/-! ### events and logs as they are drawn -/
def EvOk (p : Str × Int) : Prop := p.1 ∈ allW ∧ 0 ≤ p.2 ∧ p.2 ≤ 5
theorem ev_short : ∀ w ∈ allW, ∀ n ∈ [0, 1, 2, 3, 4, 5], (evD (w, n)).shown.length ≤ 30 := by decide +kernel
theorem ev_fine {p : Str × Int} (h : EvOk p) : Fine 1 30 (evD p) where
  pl := rfl
  sh := by
    have : p.2 = 0 ∨ p.2 = 1 ∨ p.2 = 2 ∨ p.2 = 3 ∨ p.2 = 4 ∨ p.2 = 5 := by have := h.2; omega
    rcases this with e | e | e | e | e | e <;> simp [evD, PyData.showable, PyData.showableAll, e] <;> decide
  dp := by simp [evD, PyData.depth, PyData.depthAll]
  le := ev_short p.1 h.1 p.2 (by
    have : p.2 = 0 ∨ p.2 = 1 ∨ p.2 = 2 ∨ p.2 = 3 ∨ p.2 = 4 ∨ p.2 = 5 := by have := h.2; omega
    rcases this with e | e | e | e | e | e <;> simp [e])
theorem log_fine {l : Log} (h : ∀ p ∈ l, EvOk p) (hl : l.length ≤ 8) : Fine 2 259 (logD l) :=
  Fine.tuple (d := 1) (s := 30) (k := 8) (fun x m => by obtain ⟨p, hp, rfl⟩ := List.mem_map.mp m; exact ev_fine (h p hp)) (by rw [List.length_map]; exact hl)
theorem log_is {l : Log} (h : ∀ p ∈ l, EvOk p) (hl : l.length ≤ 8) : LogOk l :=
  ⟨by omega, fun p m => ⟨w_all _ (h p m).1, (h p m).2.1, by have := (h p m).2.2; omega⟩⟩
theorem wsets_sub : ∀ ws ∈ wsets, ws ≠ [] ∧ ws.length ≤ 10 ∧ ∀ w ∈ ws, w ∈ allW := by decide +kernel
theorem num_small : ∀ i, i ≤ 4 → ∀ j, j ≤ 4 → Mg.num i j ≤ 200 := by decide +kernel
/-- what a turn's two logs are -/
structure Two (l1 l2 : Log) : Prop where
  n1 : l1.length ≤ 4
  n2 : l2.length ≤ 4
  e1 : ∀ p ∈ l1, EvOk p
  e2 : ∀ p ∈ l2, EvOk p
theorem Two.ok1 {l1 l2 : Log} (h : Two l1 l2) : LogOk l1 := log_is h.e1 (by have := h.n1; omega)
theorem Two.ok2 {l1 l2 : Log} (h : Two l1 l2) : LogOk l2 := log_is h.e2 (by have := h.n2; omega)
def pairD (l1 l2 : Log) : PyData := .tuple [logD l1, logD l2]
theorem Two.pair {l1 l2 : Log} (h : Two l1 l2) : Fine 3 1000 (pairD l1 l2) :=
  (Fine.tuple (d := 2) (s := 259) (k := 2) (xs := [logD l1, logD l2]) (fun x m => by
    rcases List.mem_cons.mp m with rfl | m
    · exact log_fine h.e1 (by have := h.n1; omega)
    · rw [List.mem_singleton.mp m]; exact log_fine h.e2 (by have := h.n2; omega)) (Nat.le_refl 2)).up (Nat.le_refl _) (by decide)
/-- what is due, without common names -/
def rowsOf (l1 l2 : Log) : List PyData := sortD ((rw_ l1 l2 (l1.length, l2.length)).map logD)
def dueD (l1 l2 : Log) : PyData := .tuple [.str "told", .list (rowsOf l1 l2)]
theorem Two.row {l1 l2 : Log} (h : Two l1 l2) {r : Log} (hr : r ∈ rw_ l1 l2 (l1.length, l2.length)) : (∀ p ∈ r, EvOk p) ∧ r.length ≤ 8 := by
  refine ⟨fun p hp => ?_, ?_⟩
  · refine Mg.cell_mem (P := EvOk) (n := l1.length) (m := l2.length) (fun k hk => ?_) (fun k hk => ?_) _ _ (Nat.le_refl _) (Nat.le_refl _) r hr p hp
    · rw [List.getD_eq_getElem?_getD, List.getElem?_eq_getElem hk]
      exact h.e1 _ (List.getElem_mem hk)
    · rw [List.getD_eq_getElem?_getD, List.getElem?_eq_getElem hk]
      exact h.e2 _ (List.getElem_mem hk)
  · rw [Mg.cell_length _ _ r hr]
    have := h.n1
    have := h.n2
    show l1.length + l2.length ≤ 8
    omega
theorem Two.due {l1 l2 : Log} (h : Two l1 l2) : Fine 4 200000 (dueD l1 l2) := by
  have h1 : Fine 3 (200 * (259 + 2) + 3) (.list (rowsOf l1 l2)) := Fine.list (d := 2) (s := 259) (k := 200) (fun x m => by
    obtain ⟨r, hr, rfl⟩ := List.mem_map.mp (sortD_mem.mp m)
    exact log_fine (h.row hr).1 (h.row hr).2) (by
      unfold rowsOf
      rw [(sortD_prm _).length_eq, List.length_map, rw_len]
      exact num_small _ h.n1 _ h.n2)
  exact (Fine.tuple (d := 3) (s := 200 * (259 + 2) + 3) (k := 2) (xs := [.str "told", .list (rowsOf l1 l2)]) (fun x m => by
    rcases List.mem_cons.mp m with rfl | m
    · exact (fine_str (n := 200 * (259 + 2) + 3) (by decide +kernel)).up (by decide) (Nat.le_refl _)
    · rw [List.mem_singleton.mp m]; exact h1) (Nat.le_refl 2)).up (Nat.le_refl _) (by decide)
theorem Two.told {l1 l2 : Log} (h : Two l1 l2) (hc : ¬ Common l1 l2) (hp : List CO) : F__law_told [.d (logD l1), .d (logD l2)] hp = .ok (.d (dueD l1 l2)) hp := by
  refine told_ok ?_
  refine allm_spec h.ok1 h.ok2 (P := fun r => r = .ok (.d (.list (rowsOf l1 l2))) hp) (fun q => absurd q hc) (fun _ ⟨i, j, a, b, q⟩ => ?_) fun _ _ => rfl
  have := num_small i (Nat.le_trans a h.n1) j (Nat.le_trans b h.n2)
  omega
theorem Two.miss {l1 l2 : Log} (h : Two l1 l2) (hc : Common l1 l2) (hp : List CO) : F__law_told [.d (logD l1), .d (logD l2)] hp = .ok (.d (.str "missing")) hp :=
  told_ex (n := "Missing") (allm_spec h.ok1 h.ok2 (P := fun r => r = .ex ⟨"Missing", []⟩ hp) (fun _ => rfl) (fun q => absurd hc q) fun q => absurd hc q) rfl
theorem due_ne {l1 l2 : Log} (h : Two l1 l2) : pNe (dueD l1 l2) (.str "missing") = some (.bool true) := by
  unfold pNe
  rw [if_pos ⟨h.due.pl, rfl, by simp [PyData.depth]⟩]
  rfl
/-! ### a turn -/
abbrev stL (scr : PyData) (s2 s3 s4 s5 s6 s9 s10 s11 s13 s14 s16 : Sl) (hp : List CO) : CS := ⟨[.v (.d scr), .v (.r 0), s2, s3, s4, s5, s6, .un, .un, s9, s10, s11, .un, s13, s14, .un, s16, .un, .un, .un], hp⟩
section
variable {scr : PyData} {s2 s3 s4 s5 s6 s9 s10 s11 s13 s14 s16 : Sl} {hp : List CO} {l1 l2 : Log}
theorem e_rep (h : Two l1 l2) : mBind (mBo (mTup (mCons (mVar 4) (mCons (mVar 6) mNil)))) gRep (stL scr s2 s3 (.v (.d (logD l1))) s5 (.v (.d (logD l2))) s9 s10 s11 s13 s14 s16 hp) = .ok (.d (.str (pairD l1 l2).shown)) (stL scr s2 s3 (.v (.d (logD l1))) s5 (.v (.d (logD l2))) s9 s10 s11 s13 s14 s16 hp) := by
  show gRep (.c (.d (pairD l1 l2))) (stL scr s2 s3 (.v (.d (logD l1))) s5 (.v (.d (logD l2))) s9 s10 s11 s13 s14 s16 hp) = _
  unfold gRep
  rw [gO_ap, h.pair.rep (by decide) (by decide)]
  rfl
theorem e_com (h : Two l1 l2) : ∃ k : Bool, (k = true ↔ ¬ Common l1 l2) ∧ mNot (mTru (mBind (mBf (mLc (mItems (mCall 1 F__law_names (mCons (mVar 6) mNil))) (gN 8) mYes (m2b (gInG false) (mVar 8) (mBo (mCall 1 F__law_names (mCons (mVar 4) mNil)))) [8])) gAny)) (stL scr s2 s3 (.v (.d (logD l1))) s5 (.v (.d (logD l2))) s9 s10 s11 s13 s14 s16 hp) =
    .ok k (stL scr s2 s3 (.v (.d (logD l1))) s5 (.v (.d (logD l2))) s9 s10 s11 s13 s14 s16 hp) := by
  obtain ⟨k1, a1, b1, _⟩ := law_names (l := l1) (by have := h.n1; omega) hp
  obtain ⟨k2, a2, b2, d2⟩ := law_names (l := l2) (by have := h.n2; omega) hp
  refine ⟨!((k2.map fun z => decide (z ∈ k1)).any id), ?_, ?_⟩
  · rw [Bool.not_eq_true', ← Bool.not_eq_true, common_iff b1 b2]
  have hk2 : k2.length ≤ 16777216 := by omega
  rw [mNot_ap, mTru_ap, mBind_ap, mBf_ap, lc_all (l := k2) .int (fun z => .bool (decide (z ∈ k1))) (c0 := stL scr s2 s3 (.v (.d (logD l1))) s5 (.v (.d (logD l2))) s9 s10 s11 s13 s14 s16 hp) (w := stL scr s2 s3 (.v (.d (logD l1))) s5 (.v (.d (logD l2))) s9 s10 s11 s13 s14 s16 hp) ?e hk2 rfl ?h]
  case e =>
    rw [mItems_ap, show mCall 1 F__law_names (mCons (mVar 6) mNil) (stL scr s2 s3 (.v (.d (logD l1))) s5 (.v (.d (logD l2))) s9 s10 s11 s13 s14 s16 hp) = .ok _ (stL scr s2 s3 (.v (.d (logD l1))) s5 (.v (.d (logD l2))) s9 s10 s11 s13 s14 s16 hp) from call_ok rfl rfl a2]
    rfl
  case h =>
    intro z _
    refine ⟨_, ⟨[.v (.d scr), .v (.r 0), s2, s3, .v (.d (logD l1)), s5, .v (.d (logD l2)), .un, .v (.d (.int z)), s9, s10, s11, .un, s13, s14, .un, s16, .un, .un, .un], hp⟩, rfl, ?_, rfl⟩
    rw [m2b_ap]
    show Res.bind (Res.ok (CV.d (.int z)) (⟨[.v (.d scr), .v (.r 0), s2, s3, .v (.d (logD l1)), s5, .v (.d (logD l2)), .un, .v (.d (.int z)), s9, s10, s11, .un, s13, s14, .un, s16, .un, .un, .un], hp⟩ : CS)) _ = _
    rw [rb_ok, mBind_ap, mBo_ap, show mCall 1 F__law_names (mCons (mVar 4) mNil) (⟨[.v (.d scr), .v (.r 0), s2, s3, .v (.d (logD l1)), s5, .v (.d (logD l2)), .un, .v (.d (.int z)), s9, s10, s11, .un, s13, s14, .un, s16, .un, .un, .un], hp⟩ : CS) = .ok _ (⟨[.v (.d scr), .v (.r 0), s2, s3, .v (.d (logD l1)), s5, .v (.d (logD l2)), .un, .v (.d (.int z)), s9, s10, s11, .un, s13, s14, .un, s16, .un, .un, .un], hp⟩ : CS) from call_ok rfl rfl a1, rb_ok, mRet_ap, rb_ok, in_ints]
    rfl
  have e : k2.map (fun z => PyData.bool (decide (z ∈ k1))) = (k2.map fun z => decide (z ∈ k1)).map .bool := by rw [List.map_map]; rfl
  rw [rb_ok, mRet_ap, rb_ok, e, any_bools]
  rfl
theorem e_rows (h : Two l1 l2) (hc : ¬ Common l1 l2) {k : Int} {rest : List CO} : ∃ (rows : List Log) (rest' : List CO), rows.Perm (rw_ l1 l2 (l1.length, l2.length)) ∧ mLc (mItems (mCall 2 F__law_choices (mCons (m2 (lift2 pAdd) (mBind (mPeek 4) gLen) (mBind (mPeek 6) gLen)) (mCons (mBind (mPeek 4) gLen) mNil)))) (gN 12) mYes (mCall 3 F__law_merged (mCons (mVar 4) (mCons (mVar 6) (mCons (mVar 12) mNil)))) [12] (stL scr s2 s3 (.v (.d (logD l1))) s5 (.v (.d (logD l2))) s9 s10 s11 s13 s14 s16 (stO nums k :: rest)) =
    .ok (rows.map logD) (stL scr s2 s3 (.v (.d (logD l1))) s5 (.v (.d (logD l2))) s9 s10 s11 s13 s14 s16 (stO nums k :: rest')) := by
  obtain ⟨rows, em, ep⟩ := Mg.merges_perm (a := l1) (b := l2) h.n1 h.n2
  unfold Mg.merges at em
  have es := Mg.seqO_some em
  have ech := ch_all (many := l1.length + l2.length) (few := l1.length) (by have := h.n1; have := h.n2; omega) h.n1 (stO nums k :: rest)
  generalize hch : Mg.choices (l1.length + l2.length) l1.length = chs at es ech
  have hcl : chs.length ≤ 4096 := by
    rw [← hch]
    exact Nat.le_trans (ch_len (by have := h.n1; have := h.n2; omega) l1.length) (Nat.pow_le_pow_right (by decide) h.n1)
  have hrl : rows.length = chs.length := by
    have := congrArg List.length es
    rw [List.length_map, List.length_map] at this
    exact this.symm
  obtain ⟨acc, w, ⟨r', e1, e2⟩, e3⟩ := lc_inv (mi := mItems (mCall 2 F__law_choices (mCons (m2 (lift2 pAdd) (mBind (mPeek 4) gLen) (mBind (mPeek 6) gLen)) (mCons (mBind (mPeek 4) gLen) mNil)))) (g := gN 12) (tt := mYes) (te := mCall 3 F__law_merged (mCons (mVar 4) (mCons (mVar 6) (mCons (mVar 12) mNil)))) (vs := [12]) (xs := chs.map plD)
    (c := stL scr s2 s3 (.v (.d (logD l1))) s5 (.v (.d (logD l2))) s9 s10 s11 s13 s14 s16 (stO nums k :: rest)) (c0 := stL scr s2 s3 (.v (.d (logD l1))) s5 (.v (.d (logD l2))) s9 s10 s11 s13 s14 s16 (stO nums k :: rest)) (by
      have q : mCall 2 F__law_choices (mCons (m2 (lift2 pAdd) (mBind (mPeek 4) gLen) (mBind (mPeek 6) gLen)) (mCons (mBind (mPeek 4) gLen) mNil)) (stL scr s2 s3 (.v (.d (logD l1))) s5 (.v (.d (logD l2))) s9 s10 s11 s13 s14 s16 (stO nums k :: rest)) = .ok _ (stL scr s2 s3 (.v (.d (logD l1))) s5 (.v (.d (logD l2))) s9 s10 s11 s13 s14 s16 (stO nums k :: rest)) := call_ok (args := [.d (.int ((l1.length + l2.length : Nat) : Int)), .d (.int (l1.length : Nat))]) (by
        show Res.ok [CV.d (.int (((l1.map evD).length : Nat) + ((l2.map evD).length : Nat))), .d (.int ((l1.map evD).length : Nat))] _ = _
        rw [List.length_map, List.length_map]
        rfl) rfl ech
      rw [mItems_ap, q]
      rfl) (by rw [List.length_map]; omega)
    (fun pre acc w => ∃ rest', acc = (rows.take pre.length).map logD ∧ w = stL scr s2 s3 (.v (.d (logD l1))) s5 (.v (.d (logD l2))) s9 s10 s11 s13 s14 s16 (stO nums k :: rest')) ⟨rest, rfl, rfl⟩ fun pre x post acc w hx ⟨r', e1, e2⟩ => by
      subst e2
      have hl := congrArg List.length hx
      rw [List.length_map, List.length_append, List.length_cons] at hl
      have hpl : pre.length < chs.length := by omega
      have hpl2 : pre.length < rows.length := by omega
      have ex : x = plD chs[pre.length] := by
        have e := congrArg (fun l : List PyData => l[pre.length]?) hx
        simp only [List.getElem?_map, List.getElem?_eq_getElem hpl, List.getElem?_append_right (Nat.le_refl _), Nat.sub_self, List.getElem?_cons_zero, Option.map_some, Option.some.injEq] at e
        exact e.symm
      have em : Mg.mrg chs[pre.length] (List.range (l1.length + l2.length)) l1 l2 = some rows[pre.length] := by
        have e := congrArg (fun l : List (Option Log) => l[pre.length]?) es
        simp only [List.getElem?_map, List.getElem?_eq_getElem hpl, List.getElem?_eq_getElem hpl2, Option.map_some, Option.some.injEq] at e
        exact e
      subst ex
      obtain ⟨x, y, z, er⟩ := merged_eq (stO nums k :: r') (by have := h.n1; omega) (by have := h.n2; omega) em
      refine ⟨⟨[.v (.d scr), .v (.r 0), s2, s3, .v (.d (logD l1)), s5, .v (.d (logD l2)), .un, .un, s9, s10, s11, .v (.d (plD chs[pre.length])), s13, s14, .un, s16, .un, .un, .un], stO nums k :: r'⟩, true, _, rfl, rfl, fun q => (by cases q), fun _ => ⟨logD rows[pre.length], _, call_ok rfl rfl er, r' ++ [x, y, z], ?_, rfl⟩⟩
      rw [List.length_append, List.length_singleton, List.take_succ, List.getElem?_eq_getElem hpl2, e1, List.map_append]
      rfl
  refine ⟨rows, r', ep, ?_⟩
  rw [e3, e2, e1, List.length_map, List.take_of_length_le (by omega)]
  rfl
end
end Lw

set_option Elab.async false
set_option maxRecDepth 100000
set_option maxHeartbeats 4000000
namespace Lw
open PySem PySem.Spec PyProof.Rows Cl
variable {nums : List Int}
theorem range_get (l : Log) : (List.range l.length).map (fun k => l.getD k default) = l := by
  apply List.ext_getElem
  · simp
  · intro i p q
    simp [List.getD_eq_getElem?_getD, q]
section
variable {scr : PyData} {s2 s3 s4 s5 s6 s9 s10 s11 s13 s14 s16 : Sl} {hp : List CO} {l1 l2 r : Log}
theorem e_filt (h : Two l1 l2) (hc : ¬ Common l1 l2) (hr : r ∈ rw_ l1 l2 (l1.length, l2.length)) :
    mOr (mTru (m2 (lift2 pNe) (mBind (mBf (mLc (mItems (mVar 14)) (gN 15) (mTru (m2b (gInG false) (mIxNG 15 (mC (.int 1))) (mBo (mCall 1 F__law_names (mCons (mVar 4) mNil))))) (mVar 15) [15])) gTupc) (mVar 4))) (mTru (m2 (lift2 pNe) (mBind (mBf (mLc (mItems (mVar 14)) (gN 15) (mTru (m2b (gInG true) (mIxNG 15 (mC (.int 1))) (mBo (mCall 1 F__law_names (mCons (mVar 4) mNil))))) (mVar 15) [15])) gTupc) (mVar 6)))
      (stL scr s2 s3 (.v (.d (logD l1))) s5 (.v (.d (logD l2))) s9 s10 s11 s13 (.v (.d (logD r))) s16 hp) = .ok false (stL scr s2 s3 (.v (.d (logD l1))) s5 (.v (.d (logD l2))) s9 s10 s11 s13 (.v (.d (logD r))) s16 hp) := by
  obtain ⟨k1, a1, b1, d1⟩ := law_names (l := l1) (by have := h.n1; omega) hp
  have hrl := (h.row hr).2
  obtain ⟨f1, f2⟩ := Mg.cell_filter (a := fun k => l1.getD k default) (b := fun k => l2.getD k default) (p := fun x => decide (x.2 ∈ k1)) (n := l1.length) (m := l2.length) (fun k hk => by
      refine decide_eq_true ((b1 _).mpr ⟨_, ?_, rfl⟩)
      rw [List.getD_eq_getElem?_getD, List.getElem?_eq_getElem hk]
      exact List.getElem_mem hk) (fun k hk => by
      refine decide_eq_false fun q => ?_
      obtain ⟨p, hp, e⟩ := (b1 _).mp q
      refine hc ⟨p, hp, _, ?_, e⟩
      rw [List.getD_eq_getElem?_getD, List.getElem?_eq_getElem hk]
      exact List.getElem_mem hk) l1.length l2.length (Nat.le_refl _) (Nat.le_refl _) r hr
  rw [range_get] at f1 f2
  have el : ∀ (neg : Bool) (p : Str × Int), mTru (m2b (gInG neg) (mIxNG 15 (mC (.int 1))) (mBo (mCall 1 F__law_names (mCons (mVar 4) mNil)))) (⟨[.v (.d scr), .v (.r 0), s2, s3, .v (.d (logD l1)), s5, .v (.d (logD l2)), .un, .un, s9, s10, s11, .un, s13, .v (.d (logD r)), .v (.d (evD p)), s16, .un, .un, .un], hp⟩ : CS) = .ok (if neg then !decide (p.2 ∈ k1) else decide (p.2 ∈ k1)) (⟨[.v (.d scr), .v (.r 0), s2, s3, .v (.d (logD l1)), s5, .v (.d (logD l2)), .un, .un, s9, s10, s11, .un, s13, .v (.d (logD r)), .v (.d (evD p)), s16, .un, .un, .un], hp⟩ : CS) := fun neg p => by
    rw [mTru_ap, m2b_ap]
    show Res.bind (Res.bind (Res.ok (CV.d (.int p.2)) (⟨[.v (.d scr), .v (.r 0), s2, s3, .v (.d (logD l1)), s5, .v (.d (logD l2)), .un, .un, s9, s10, s11, .un, s13, .v (.d (logD r)), .v (.d (evD p)), s16, .un, .un, .un], hp⟩ : CS)) _) _ = _
    rw [rb_ok, mBind_ap, mBo_ap, show mCall 1 F__law_names (mCons (mVar 4) mNil) (⟨[.v (.d scr), .v (.r 0), s2, s3, .v (.d (logD l1)), s5, .v (.d (logD l2)), .un, .un, s9, s10, s11, .un, s13, .v (.d (logD r)), .v (.d (evD p)), s16, .un, .un, .un], hp⟩ : CS) = .ok _ (⟨[.v (.d scr), .v (.r 0), s2, s3, .v (.d (logD l1)), s5, .v (.d (logD l2)), .un, .un, s9, s10, s11, .un, s13, .v (.d (logD r)), .v (.d (evD p)), s16, .un, .un, .un], hp⟩ : CS) from call_ok rfl rfl a1, rb_ok, mRet_ap, rb_ok, in_ints]
    rfl
  have comp : ∀ (neg : Bool) (l : Log), r.filter (fun p => if neg then !decide (p.2 ∈ k1) else decide (p.2 ∈ k1)) = l → mBind (mBf (mLc (mItems (mVar 14)) (gN 15) (mTru (m2b (gInG neg) (mIxNG 15 (mC (.int 1))) (mBo (mCall 1 F__law_names (mCons (mVar 4) mNil))))) (mVar 15) [15])) gTupc (stL scr s2 s3 (.v (.d (logD l1))) s5 (.v (.d (logD l2))) s9 s10 s11 s13 (.v (.d (logD r))) s16 hp) =
      .ok (.d (logD l)) (stL scr s2 s3 (.v (.d (logD l1))) s5 (.v (.d (logD l2))) s9 s10 s11 s13 (.v (.d (logD r))) s16 hp) := fun neg l hl => by
    rw [mBind_ap, mBf_ap, lc_fil (l := r) evD evD (fun p => if neg then !decide (p.2 ∈ k1) else decide (p.2 ∈ k1)) (c0 := stL scr s2 s3 (.v (.d (logD l1))) s5 (.v (.d (logD l2))) s9 s10 s11 s13 (.v (.d (logD r))) s16 hp) (w := stL scr s2 s3 (.v (.d (logD l1))) s5 (.v (.d (logD l2))) s9 s10 s11 s13 (.v (.d (logD r))) s16 hp) ?e (by omega) ?w ?h]
    case e => rfl
    case w => rfl
    case h =>
      intro p _
      exact ⟨(⟨[.v (.d scr), .v (.r 0), s2, s3, .v (.d (logD l1)), s5, .v (.d (logD l2)), .un, .un, s9, s10, s11, .un, s13, .v (.d (logD r)), .v (.d (evD p)), s16, .un, .un, .un], hp⟩ : CS), (⟨[.v (.d scr), .v (.r 0), s2, s3, .v (.d (logD l1)), s5, .v (.d (logD l2)), .un, .un, s9, s10, s11, .un, s13, .v (.d (logD r)), .v (.d (evD p)), s16, .un, .un, .un], hp⟩ : CS), rfl, el neg p, fun _ => rfl, fun _ => ⟨_, rfl, rfl⟩⟩
    rw [hl]
    rfl
  have c1 := comp false l1 f1
  have c2 := comp true l2 f2
  have n1 : pNe (logD l1) (logD l1) = some (.bool false) := (log_fine h.e1 (by have := h.n1; omega)).ne (by decide)
  have n2 : pNe (logD l2) (logD l2) = some (.bool false) := (log_fine h.e2 (by have := h.n2; omega)).ne (by decide)
  rw [mOr_ap, mTru_ap, m2_ap, c1, rb_ok, mBind_ap]
  show Res.bind (Res.bind (lift2 pNe (.d (logD l1)) (.d (logD l1)) (stL scr s2 s3 (.v (.d (logD l1))) s5 (.v (.d (logD l2))) s9 s10 s11 s13 (.v (.d (logD r))) s16 hp)) _) _ = _
  rw [lift2_ap, n1]
  show (mTru _) (stL scr s2 s3 (.v (.d (logD l1))) s5 (.v (.d (logD l2))) s9 s10 s11 s13 (.v (.d (logD r))) s16 hp) = _
  rw [mTru_ap, m2_ap, c2, rb_ok, mBind_ap]
  show Res.bind (lift2 pNe (.d (logD l2)) (.d (logD l2)) (stL scr s2 s3 (.v (.d (logD l1))) s5 (.v (.d (logD l2))) s9 s10 s11 s13 (.v (.d (logD r))) s16 hp)) _ = _
  rw [lift2_ap, n2]
  rfl
def bads : List Log := [[("A", 0)], [("a", -1)], [("a", 1000)]]
theorem bad_all : ∀ b ∈ bads, ∀ hp, F_check_log [.d (logD b)] hp = .ex ⟨"NotAllowed", []⟩ hp := by
  intro b m hp
  simp only [bads, List.mem_cons, List.not_mem_nil, or_false] at m
  rcases m with rfl | rfl | rfl
  · exact bad1 hp
  · exact bad2 hp
  · exact bad3 hp
theorem refused2 : pNe (.list [.str "refused", .str "refused"]) (.list [.str "refused", .str "refused"]) = some (.bool false) := rfl
theorem e_last (h : Two l1 l2) {b : Log} (hb : b ∈ bads) : mOr (mTru (m2 (lift2 pNe) (mFz (mLst (mCons (mCall 2 F__law_told (mCons (mVar 16) (mCons (mVar 6) mNil))) (mCons (mCall 2 F__law_told (mCons (mVar 4) (mCons (mVar 16) mNil))) mNil)))) (mFz (mBind (mLst (mCons (mC (.str "refused")) mNil)) (gRepL 2))))) (mTru (m2 (lift2 pNe) (mBind (mBo (mTup (mCons (mVar 4) (mCons (mVar 6) mNil)))) gRep) (mVar 9)))
      (stL scr s2 s3 (.v (.d (logD l1))) s5 (.v (.d (logD l2))) (.v (.d (.str (pairD l1 l2).shown))) s10 s11 s13 s14 (.v (.d (logD b))) hp) = .ok false (stL scr s2 s3 (.v (.d (logD l1))) s5 (.v (.d (logD l2))) (.v (.d (.str (pairD l1 l2).shown))) s10 s11 s13 s14 (.v (.d (logD b))) hp) := by
  have q1 : mCall 2 F__law_told (mCons (mVar 16) (mCons (mVar 6) mNil)) (stL scr s2 s3 (.v (.d (logD l1))) s5 (.v (.d (logD l2))) (.v (.d (.str (pairD l1 l2).shown))) s10 s11 s13 s14 (.v (.d (logD b))) hp) = .ok (.d (.str "refused")) (stL scr s2 s3 (.v (.d (logD l1))) s5 (.v (.d (logD l2))) (.v (.d (.str (pairD l1 l2).shown))) s10 s11 s13 s14 (.v (.d (logD b))) hp) := call_ok rfl rfl (bad_first (bad_all b hb hp))
  have q2 : mCall 2 F__law_told (mCons (mVar 4) (mCons (mVar 16) mNil)) (stL scr s2 s3 (.v (.d (logD l1))) s5 (.v (.d (logD l2))) (.v (.d (.str (pairD l1 l2).shown))) s10 s11 s13 s14 (.v (.d (logD b))) hp) = .ok (.d (.str "refused")) (stL scr s2 s3 (.v (.d (logD l1))) s5 (.v (.d (logD l2))) (.v (.d (.str (pairD l1 l2).shown))) s10 s11 s13 s14 (.v (.d (logD b))) hp) := call_ok rfl rfl (bad_second h.ok1 (bad_all b hb hp))
  have q3 : mFz (mLst (mCons (mCall 2 F__law_told (mCons (mVar 16) (mCons (mVar 6) mNil))) (mCons (mCall 2 F__law_told (mCons (mVar 4) (mCons (mVar 16) mNil))) mNil))) (stL scr s2 s3 (.v (.d (logD l1))) s5 (.v (.d (logD l2))) (.v (.d (.str (pairD l1 l2).shown))) s10 s11 s13 s14 (.v (.d (logD b))) hp) = .ok (.d (.list [.str "refused", .str "refused"])) (stL scr s2 s3 (.v (.d (logD l1))) s5 (.v (.d (logD l2))) (.v (.d (.str (pairD l1 l2).shown))) s10 s11 s13 s14 (.v (.d (logD b))) hp) := by
    rw [mFz_ap, mLst_ap, mCons_ap, q1, rb_ok, mBind_ap, mCons_ap, q2]
    rfl
  have q4 := e_rep (scr := scr) (s2 := s2) (s3 := s3) (s5 := s5) (s9 := .v (.d (.str (pairD l1 l2).shown))) (s10 := s10) (s11 := s11) (s13 := s13) (s14 := s14) (s16 := .v (.d (logD b))) (hp := hp) h
  rw [mOr_ap, mTru_ap, m2_ap, q3, rb_ok, mBind_ap]
  show Res.bind (Res.bind (lift2 pNe (.d (.list [.str "refused", .str "refused"])) (.d (.list [.str "refused", .str "refused"])) (stL scr s2 s3 (.v (.d (logD l1))) s5 (.v (.d (logD l2))) (.v (.d (.str (pairD l1 l2).shown))) s10 s11 s13 s14 (.v (.d (logD b))) hp)) _) _ = _
  rw [lift2_ap, refused2]
  show (mTru _) (stL scr s2 s3 (.v (.d (logD l1))) s5 (.v (.d (logD l2))) (.v (.d (.str (pairD l1 l2).shown))) s10 s11 s13 s14 (.v (.d (logD b))) hp) = _
  rw [mTru_ap, m2_ap, q4, rb_ok, mBind_ap]
  show Res.bind (lift2 pNe (.d (.str (pairD l1 l2).shown)) (.d (.str (pairD l1 l2).shown)) (stL scr s2 s3 (.v (.d (logD l1))) s5 (.v (.d (logD l2))) (.v (.d (.str (pairD l1 l2).shown))) s10 s11 s13 s14 (.v (.d (logD b))) hp)) _ = _
  rw [lift2_ap, pNe_str]
  simp
end
end Lw

set_option Elab.async false
set_option maxRecDepth 100000
set_option maxHeartbeats 4000000
namespace Lw
open PySem PySem.Spec PyProof.Rows Cl
variable {nums : List Int}
def firstL : Log := [("a", 0), ("a", 1), ("a", 2), ("a", 3), ("a", 4)]
def secondL : Log := [("a", 10), ("a", 11), ("a", 12), ("a", 13), ("a", 14)]
def sixty : Log := List.replicate 60 ("a", 9)
theorem ok_a {l : Log} (hl : l.length ≤ 60) (h : ∀ p ∈ l, p.1 = "a" ∧ 0 ≤ p.2 ∧ p.2 ≤ 999) : LogOk l := ⟨hl, fun p m => ⟨by rw [(h p m).1]; exact w_a, (h p m).2⟩⟩
theorem ok_first : LogOk firstL := ok_a (by decide) (by decide +kernel)
theorem ok_second : LogOk secondL := ok_a (by decide) (by decide +kernel)
theorem ok_sixty : LogOk sixty := ok_a (by decide) (by decide +kernel)
def comB (l1 l2 : Log) : Bool := l1.any fun p => l2.any fun q => p.2 == q.2
theorem com_iff {l1 l2 : Log} : Common l1 l2 ↔ comB l1 l2 = true := by
  unfold Common comB
  simp
def lastR (a b : Nat) : Bool := (List.range (a + 1)).all fun i => (List.range (b + 1)).all fun j => decide (Mg.num i j ≤ 200)
theorem last_iff {a b : Nat} (h : lastR a b = true) : ∀ i j, i ≤ a → j ≤ b → Mg.num i j ≤ 200 := fun i j hi hj => by
  have := List.all_eq_true.mp h i (List.mem_range.mpr (by omega))
  exact of_decide_eq_true (List.all_eq_true.mp this j (List.mem_range.mpr (by omega)))
theorem told_some {l1 l2 : Log} (h1 : LogOk l1) (h2 : LogOk l2) (hc : comB l1 l2 = false) (hn : lastR l1.length l2.length = true) (hp : List CO) : F__law_told [.d (logD l1), .d (logD l2)] hp = .ok (.d (dueD l1 l2)) hp := by
  refine told_ok ?_
  refine allm_spec h1 h2 (P := fun r => r = .ok (.d (.list (rowsOf l1 l2))) hp) (fun q => ?_) (fun _ ⟨i, j, a, b, q⟩ => ?_) fun _ _ => rfl
  · rw [com_iff, hc] at q
    cases q
  · have := last_iff hn i j a b
    omega
theorem told_0 (hp : List CO) : F__law_told [.d (logD firstL), .d (logD secondL)] hp = .ok (.d (.str "large")) hp := by
  refine told_ex (n := "TooLarge") ?_ rfl
  refine allm_spec ok_first ok_second (P := fun r => r = .ex ⟨"TooLarge", []⟩ hp) (fun q => ?_) (fun _ _ => rfl) fun _ q => ?_
  · rw [com_iff] at q
    exact absurd q (by decide +kernel)
  · exact absurd (q 5 5 (by decide) (by decide)) (by decide +kernel)
theorem told_2 (hp : List CO) : F__law_told [.d (logD firstL), .d (logD firstL)] hp = .ok (.d (.str "missing")) hp := by
  have c : Common firstL firstL := com_iff.mpr (by decide +kernel)
  exact told_ex (n := "Missing") (allm_spec ok_first ok_first (P := fun r => r = .ex ⟨"Missing", []⟩ hp) (fun _ => rfl) (fun q => absurd c q) fun q => absurd c q) rfl
theorem ok_take {l : Log} {n : Nat} (h : LogOk l) : LogOk (l.take n) := ⟨by rw [List.length_take]; have := h.len; omega, fun p m => h.ev p (List.mem_of_mem_take m)⟩
theorem rows_len {l1 l2 : Log} : (rowsOf l1 l2).length = Mg.num l1.length l2.length := by
  unfold rowsOf
  rw [(sortD_prm _).length_eq, List.length_map, rw_len]
theorem rows_4 : rowsOf [] secondL = [logD secondL] := by
  unfold rowsOf
  rw [show rw_ [] secondL (([] : Log).length, secondL.length) = [secondL] by decide +kernel]
  exact List.mergeSort_singleton _
theorem endD : pEq (.list [.str "large", .int 56, .str "missing", .int 61, .tuple [.str "told", .list [logD secondL]]]) (.list [.str "large", .int 56, .str "missing", .int 61, .tuple [.str "told", .list [logD secondL]]]) = some (.bool true) := rfl
theorem law_turn (h : Strm nums) {scr : PyData} {s2 s3 s4 s5 s6 s9 s10 s11 s13 s14 s16 : Sl} {k : Nat} {rest : List CO} (hk : k ≤ 2000) {D : RS → Prop}
    (hD : ∀ s2 s3 s4 s5 s6 s9 s10 s11 s13 s14 s16 (k' : Nat) rest, k' ≤ k + 30 → D (.nx (stL scr s2 s3 s4 s5 s6 s9 s10 s11 s13 s14 s16 (stO nums (k' : Nat) :: rest)))) :
    Wp D
  (sSeq (sSet 3 (mCall 1 F__law_words (mCons (mVar 1) mNil)))
  (sSeq (sSet 4 (mCall 4 F__law_log (mCons (mVar 1) (mCons (mVar 3) (mCons (mC (.int 4)) (mCons (mC (.int 3)) mNil))))))
  (sSeq (sSet 5 (mIxG (mFz (mLst (mCons (mC (.int 3)) (mCons (mC (.int 2)) (mCons (mC (.int 0)) mNil))))) (mCall 2 F__law_next (mCons (mVar 1) (mCons (mC (.int 3)) mNil)))))
  (sSeq (sSet 6 (mBind (mBf (mLc (mItems (mCall 4 F__law_log (mCons (mVar 1) (mCons (mVar 3) (mCons (mC (.int 4)) (mCons (mC (.int 3)) mNil)))))) (gT (unCons (gN 7) (unCons (gN 8) unNil)) ((gN 7).ix ++ ((gN 8).ix ++ []))) mYes (mTup (mCons (mVar 7) (mCons (m2 (lift2 pAdd) (mVar 8) (mVar 5)) mNil))) [7, 8])) gTupc))
  (sSeq (sSet 9 (mBind (mBo (mTup (mCons (mVar 4) (mCons (mVar 6) mNil)))) gRep))
  (sSeq (sSet 10 (mC (.str "missing")))
  (sSeq (sIf (mNot (mTru (mBind (mBf (mLc (mItems (mCall 1 F__law_names (mCons (mVar 6) mNil))) (gN 8) mYes (m2b (gInG false) (mVar 8) (mBo (mCall 1 F__law_names (mCons (mVar 4) mNil)))) [8])) gAny))) (sSeq (sOwn 11 (mLc (mItems (mCall 2 F__law_choices (mCons (m2 (lift2 pAdd) (mBind (mPeek 4) gLen) (mBind (mPeek 6) gLen)) (mCons (mBind (mPeek 4) gLen) mNil)))) (gN 12) mYes (mCall 3 F__law_merged (mCons (mVar 4) (mCons (mVar 6) (mCons (mVar 12) mNil)))) [12]))
  (sSet 10 (mTup (mCons (mC (.str "told")) (mCons (mFz (mBind (mPeek 11) gSort)) mNil))))) sNx)
  (sSeq (sSet 13 (mCall 2 F__law_told (mCons (mVar 4) (mCons (mVar 6) mNil))))
  (sSeq (sIf (mNot (mTru (mCall 2 F__law_same (mCons (mVar 13) (mCons (mVar 10) mNil))))) (sRet (mC (.bool false))) sNx)
  (sSeq (sIf (mTru (m2 (lift2 pNe) (mVar 10) (mC (.str "missing")))) (sFor (mItems (mIxNG 13 (mC (.int 1)))) (gN 14)
  (sIf (mOr (mTru (m2 (lift2 pNe) (mBind (mBf (mLc (mItems (mVar 14)) (gN 15) (mTru (m2b (gInG false) (mIxNG 15 (mC (.int 1))) (mBo (mCall 1 F__law_names (mCons (mVar 4) mNil))))) (mVar 15) [15])) gTupc) (mVar 4))) (mTru (m2 (lift2 pNe) (mBind (mBf (mLc (mItems (mVar 14)) (gN 15) (mTru (m2b (gInG true) (mIxNG 15 (mC (.int 1))) (mBo (mCall 1 F__law_names (mCons (mVar 4) mNil))))) (mVar 15) [15])) gTupc) (mVar 6)))) (sRet (mC (.bool false))) sNx)) sNx)
  (sSeq (sSet 16 (mIxG (mFz (mLst (mCons (mTup (mCons (mTup (mCons (mC (.str "A")) (mCons (mC (.int 0)) mNil))) mNil)) (mCons (mTup (mCons (mTup (mCons (mC (.str "a")) (mCons (mBind (mC (.int 1)) gNeg) mNil))) mNil)) (mCons (mTup (mCons (mTup (mCons (mC (.str "a")) (mCons (mC (.int 1000)) mNil))) mNil)) mNil))))) (mCall 2 F__law_next (mCons (mVar 1) (mCons (mC (.int 3)) mNil)))))
  (sIf (mOr (mTru (m2 (lift2 pNe) (mFz (mLst (mCons (mCall 2 F__law_told (mCons (mVar 16) (mCons (mVar 6) mNil))) (mCons (mCall 2 F__law_told (mCons (mVar 4) (mCons (mVar 16) mNil))) mNil)))) (mFz (mBind (mLst (mCons (mC (.str "refused")) mNil)) (gRepL 2))))) (mTru (m2 (lift2 pNe) (mBind (mBo (mTup (mCons (mVar 4) (mCons (mVar 6) mNil)))) gRep) (mVar 9)))) (sRet (mC (.bool false))) sNx))))))))))))
  (stL scr s2 s3 s4 s5 s6 s9 s10 s11 s13 s14 s16 (stO nums (k : Nat) :: rest)) := by
  obtain ⟨ws, hws, ew⟩ := words_eq h (k := k) (rest := rest) (by omega)
  obtain ⟨w1, w2, w3⟩ := wsets_sub ws hws
  obtain ⟨l1, k1, i1, b1, el1⟩ := log_eq h (k := k + 1) (rest := rest) (ws := ws) (by omega) w1 w2
  obtain ⟨v, hv, ev⟩ := nxt h (k := k1) (m := 3) (rest := rest) (by omega) (by decide)
  obtain ⟨l0, k2, i2, b2, el2⟩ := log_eq h (k := k1 + 1) (rest := rest) (ws := ws) (by omega) w1 w2
  obtain ⟨sh, hsh, esh⟩ : ∃ sh : Int, (sh = 3 ∨ sh = 2 ∨ sh = 0) ∧ L2.atI [PyData.int 3, .int 2, .int 0] ((v : Nat) : Int) = some (.int sh) := by
    rcases v with _ | _ | _ | v
    · exact ⟨3, .inl rfl, rfl⟩
    · exact ⟨2, .inr (.inl rfl), rfl⟩
    · exact ⟨0, .inr (.inr rfl), rfl⟩
    · omega
  have ht : Two l1 (l0.map fun p => (p.1, p.2 + sh)) := ⟨i1.len, by rw [List.length_map]; exact i2.len, fun p m => ⟨w3 _ (i1.ev p m).1, (i1.ev p m).2.1, by have := (i1.ev p m).2.2; omega⟩, fun p m => by
    obtain ⟨q, hq, rfl⟩ := List.mem_map.mp m
    have := i2.ev q hq
    exact ⟨w3 _ this.1, by show 0 ≤ q.2 + sh; omega, by show q.2 + sh ≤ 5; omega⟩⟩
  refine .seq (.set (x := .d (wsD ws)) (c1 := stL scr s2 s3 s4 s5 s6 s9 s10 s11 s13 s14 s16 (stO nums ((k + 1 : Nat) : Int) :: rest)) (call_ok rfl rfl ew) (go ?_))
  refine .seq (.set (x := .d (logD l1)) (c1 := stL scr s2 (.v (.d (wsD ws))) s4 s5 s6 s9 s10 s11 s13 s14 s16 (stO nums (k1 : Nat) :: rest)) (call_ok rfl rfl el1) (go ?_))
  refine .seq (.set (x := .d (.int sh)) (c1 := stL scr s2 (.v (.d (wsD ws))) (.v (.d (logD l1))) s5 s6 s9 s10 s11 s13 s14 s16 (stO nums ((k1 + 1 : Nat) : Int) :: rest)) ?_ (go ?_))
  · show mIxG _ _ (stL scr s2 (.v (.d (wsD ws))) (.v (.d (logD l1))) s5 s6 s9 s10 s11 s13 s14 s16 (stO nums (k1 : Nat) :: rest)) = _
    rw [mIxG_ap]
    show Res.bind (Res.ok (CV.d (.list [.int 3, .int 2, .int 0])) (stL scr s2 (.v (.d (wsD ws))) (.v (.d (logD l1))) s5 s6 s9 s10 s11 s13 s14 s16 (stO nums (k1 : Nat) :: rest))) _ = _
    rw [rb_ok, mBind_ap, show mCall 2 F__law_next (mCons (mVar 1) (mCons (mC (.int 3)) mNil)) (stL scr s2 (.v (.d (wsD ws))) (.v (.d (logD l1))) s5 s6 s9 s10 s11 s13 s14 s16 (stO nums (k1 : Nat) :: rest)) = .ok (.d (.int (v : Nat))) (stL scr s2 (.v (.d (wsD ws))) (.v (.d (logD l1))) s5 s6 s9 s10 s11 s13 s14 s16 (stO nums ((k1 + 1 : Nat) : Int) :: rest)) from call_ok rfl rfl ev, rb_ok, ixg_list esh]
  refine .seq (.set (x := .d (logD (l0.map fun p => (p.1, p.2 + sh)))) (c1 := stL scr s2 (.v (.d (wsD ws))) (.v (.d (logD l1))) (.v (.d (.int sh))) s6 s9 s10 s11 s13 s14 s16 (stO nums (k2 : Nat) :: rest)) ?_ (go ?_))
  · show mBind _ _ (stL scr s2 (.v (.d (wsD ws))) (.v (.d (logD l1))) (.v (.d (.int sh))) s6 s9 s10 s11 s13 s14 s16 (stO nums ((k1 + 1 : Nat) : Int) :: rest)) = _
    rw [mBind_ap, mBf_ap, lc_all (l := l0) evD (fun p => evD (p.1, p.2 + sh)) (c0 := stL scr s2 (.v (.d (wsD ws))) (.v (.d (logD l1))) (.v (.d (.int sh))) s6 s9 s10 s11 s13 s14 s16 (stO nums (k2 : Nat) :: rest)) (w := stL scr s2 (.v (.d (wsD ws))) (.v (.d (logD l1))) (.v (.d (.int sh))) s6 s9 s10 s11 s13 s14 s16 (stO nums (k2 : Nat) :: rest)) ?e (by have := i2.len; omega) ?w ?h]
    case e =>
      rw [mItems_ap, show mCall 4 F__law_log (mCons (mVar 1) (mCons (mVar 3) (mCons (mC (.int 4)) (mCons (mC (.int 3)) mNil)))) (stL scr s2 (.v (.d (wsD ws))) (.v (.d (logD l1))) (.v (.d (.int sh))) s6 s9 s10 s11 s13 s14 s16 (stO nums ((k1 + 1 : Nat) : Int) :: rest)) = .ok _ (stL scr s2 (.v (.d (wsD ws))) (.v (.d (logD l1))) (.v (.d (.int sh))) s6 s9 s10 s11 s13 s14 s16 (stO nums (k2 : Nat) :: rest)) from call_ok rfl rfl el2]
      rfl
    case w => rfl
    case h => exact fun p _ => ⟨_, _, rfl, rfl, rfl⟩
    have e : l0.map (fun p => evD (p.1, p.2 + sh)) = (l0.map fun p => (p.1, p.2 + sh)).map evD := by rw [List.map_map]; rfl
    rw [e]
    rfl
  generalize l0.map (fun p => (p.1, p.2 + sh)) = l2 at ht
  refine .seq (.set (e_rep ht) (go ?_))
  refine .seq (.set (x := .d (.str "missing")) (c1 := stL scr s2 (.v (.d (wsD ws))) (.v (.d (logD l1))) (.v (.d (.int sh))) (.v (.d (logD l2))) (.v (.d (.str (pairD l1 l2).shown))) s10 s11 s13 s14 s16 (stO nums (k2 : Nat) :: rest)) rfl (go ?_))
  obtain ⟨kc, hkc, ec⟩ := e_com (scr := scr) (s2 := s2) (s3 := .v (.d (wsD ws))) (s5 := .v (.d (.int sh))) (s9 := .v (.d (.str (pairD l1 l2).shown))) (s10 := .v (.d (.str "missing"))) (s11 := s11) (s13 := s13) (s14 := s14) (s16 := s16) (hp := stO nums (k2 : Nat) :: rest) ht
  -- the last two statements, from any state behind the loop
  have tail : ∀ (s2 s3 s5 s10 s11 s13 s14 s16 : Sl) (rest : List CO), Wp D (sSeq (sSet 16 (mIxG (mFz (mLst (mCons (mTup (mCons (mTup (mCons (mC (.str "A")) (mCons (mC (.int 0)) mNil))) mNil)) (mCons (mTup (mCons (mTup (mCons (mC (.str "a")) (mCons (mBind (mC (.int 1)) gNeg) mNil))) mNil)) (mCons (mTup (mCons (mTup (mCons (mC (.str "a")) (mCons (mC (.int 1000)) mNil))) mNil)) mNil))))) (mCall 2 F__law_next (mCons (mVar 1) (mCons (mC (.int 3)) mNil)))))
  (sIf (mOr (mTru (m2 (lift2 pNe) (mFz (mLst (mCons (mCall 2 F__law_told (mCons (mVar 16) (mCons (mVar 6) mNil))) (mCons (mCall 2 F__law_told (mCons (mVar 4) (mCons (mVar 16) mNil))) mNil)))) (mFz (mBind (mLst (mCons (mC (.str "refused")) mNil)) (gRepL 2))))) (mTru (m2 (lift2 pNe) (mBind (mBo (mTup (mCons (mVar 4) (mCons (mVar 6) mNil)))) gRep) (mVar 9)))) (sRet (mC (.bool false))) sNx)) (stL scr s2 s3 (.v (.d (logD l1))) s5 (.v (.d (logD l2))) (.v (.d (.str (pairD l1 l2).shown))) s10 s11 s13 s14 s16 (stO nums (k2 : Nat) :: rest)) := fun s2 s3 s5 s10 s11 s13 s14 s16 rest => by
    obtain ⟨v, hv, ev⟩ := nxt h (k := k2) (m := 3) (rest := rest) (by omega) (by decide)
    obtain ⟨b, hb, eb⟩ : ∃ b ∈ bads, L2.atI [logD [("A", 0)], logD [("a", -1)], logD [("a", 1000)]] ((v : Nat) : Int) = some (logD b) := by
      rcases v with _ | _ | _ | v
      · exact ⟨_, .head _, rfl⟩
      · exact ⟨_, .tail _ (.head _), rfl⟩
      · exact ⟨_, .tail _ (.tail _ (.head _)), rfl⟩
      · omega
    refine .seq (.set (x := .d (logD b)) (c1 := stL scr s2 s3 (.v (.d (logD l1))) s5 (.v (.d (logD l2))) (.v (.d (.str (pairD l1 l2).shown))) s10 s11 s13 s14 s16 (stO nums ((k2 + 1 : Nat) : Int) :: rest)) ?_ (go (.iff (e_last ht hb) (.nx (hD _ _ _ _ _ _ _ _ _ _ _ _ _ (by omega))))))
    rw [mIxG_ap]
    show Res.bind (Res.ok (CV.d (.list [logD [("A", 0)], logD [("a", -1)], logD [("a", 1000)]])) (stL scr s2 s3 (.v (.d (logD l1))) s5 (.v (.d (logD l2))) (.v (.d (.str (pairD l1 l2).shown))) s10 s11 s13 s14 s16 (stO nums (k2 : Nat) :: rest))) _ = _
    rw [rb_ok, mBind_ap, show mCall 2 F__law_next (mCons (mVar 1) (mCons (mC (.int 3)) mNil)) (stL scr s2 s3 (.v (.d (logD l1))) s5 (.v (.d (logD l2))) (.v (.d (.str (pairD l1 l2).shown))) s10 s11 s13 s14 s16 (stO nums (k2 : Nat) :: rest)) = .ok (.d (.int (v : Nat))) (stL scr s2 s3 (.v (.d (logD l1))) s5 (.v (.d (logD l2))) (.v (.d (.str (pairD l1 l2).shown))) s10 s11 s13 s14 s16 (stO nums ((k2 + 1 : Nat) : Int) :: rest)) from call_ok rfl rfl ev, rb_ok, ixg_list eb]
  refine .seq (.ite ec (fun hkt => ?_) fun hkf => .nx (go ?_))
  · have hc : ¬ Common l1 l2 := hkc.mp hkt
    obtain ⟨rows, rest2, pr, er⟩ := e_rows (scr := scr) (s2 := s2) (s3 := .v (.d (wsD ws))) (s5 := .v (.d (.int sh))) (s9 := .v (.d (.str (pairD l1 l2).shown))) (s10 := .v (.d (.str "missing"))) (s11 := s11) (s13 := s13) (s14 := s14) (s16 := s16) (k := (k2 : Nat)) (rest := rest) (nums := nums) ht hc
    have so : sortOk (rows.map logD) = true := by
      refine sort_ok (by rw [pr.length_eq, rw_len]; exact Nat.le_trans (num_small _ ht.n1 _ ht.n2) (by decide)) ?_
      by_cases hz : l1.length + l2.length = 0
      · right
        rw [pr.length_eq, rw_len, show l1.length = 0 by omega, show l2.length = 0 by omega]
        decide
      · left
        intro r hr e
        have := Mg.cell_length _ _ r (pr.mem_iff.mp hr)
        rw [e] at this
        simp at this
        omega
    refine .seq (.own er (go (.set (x := .d (dueD l1 l2)) (c1 := stL scr s2 (.v (.d (wsD ws))) (.v (.d (logD l1))) (.v (.d (.int sh))) (.v (.d (logD l2))) (.v (.d (.str (pairD l1 l2).shown))) (.v (.d (.str "missing"))) (.ol (rows.map logD)) s13 s14 s16 (stO nums (k2 : Nat) :: rest2)) ?_ (go ?_))))
    · rw [mTup_ap, mCons_ap, mC_ap, rb_ok, mBind_ap, mCons_ap, mFz_ap, mBind_ap]
      show Res.bind (Res.bind (Res.bind (Res.bind (gSort (.l (rows.map logD)) (stL scr s2 (.v (.d (wsD ws))) (.v (.d (logD l1))) (.v (.d (.int sh))) (.v (.d (logD l2))) (.v (.d (.str (pairD l1 l2).shown))) (.v (.d (.str "missing"))) (.ol (rows.map logD)) s13 s14 s16 (stO nums (k2 : Nat) :: rest2))) _) _) _) _ = _
      unfold gSort
      rw [gO_ap, show bSort (.l (rows.map logD)) (stO nums (k2 : Nat) :: rest2) = some (sortD (rows.map logD)) from if_pos so, logs_sort pr]
      rfl
    refine .seq (.set (x := .d (dueD l1 l2)) (c1 := stL scr s2 (.v (.d (wsD ws))) (.v (.d (logD l1))) (.v (.d (.int sh))) (.v (.d (logD l2))) (.v (.d (.str (pairD l1 l2).shown))) (.v (.d (dueD l1 l2))) (.ol (rows.map logD)) s13 s14 s16 (stO nums (k2 : Nat) :: rest2)) (call_ok rfl rfl (ht.told hc _)) (go ?_))
    refine .seq (.iff (c1 := stL scr s2 (.v (.d (wsD ws))) (.v (.d (logD l1))) (.v (.d (.int sh))) (.v (.d (logD l2))) (.v (.d (.str (pairD l1 l2).shown))) (.v (.d (dueD l1 l2))) (.ol (rows.map logD)) (.v (.d (dueD l1 l2))) s14 s16 (stO nums (k2 : Nat) :: rest2)) ?_ (.nx (go ?_)))
    · show mNot (mTru (mCall 2 F__law_same (mCons (mVar 13) (mCons (mVar 10) mNil)))) (stL scr s2 (.v (.d (wsD ws))) (.v (.d (logD l1))) (.v (.d (.int sh))) (.v (.d (logD l2))) (.v (.d (.str (pairD l1 l2).shown))) (.v (.d (dueD l1 l2))) (.ol (rows.map logD)) (.v (.d (dueD l1 l2))) s14 s16 (stO nums (k2 : Nat) :: rest2)) = _
      rw [mNot_ap, mTru_ap, show mCall 2 F__law_same (mCons (mVar 13) (mCons (mVar 10) mNil)) (stL scr s2 (.v (.d (wsD ws))) (.v (.d (logD l1))) (.v (.d (.int sh))) (.v (.d (logD l2))) (.v (.d (.str (pairD l1 l2).shown))) (.v (.d (dueD l1 l2))) (.ol (rows.map logD)) (.v (.d (dueD l1 l2))) s14 s16 (stO nums (k2 : Nat) :: rest2)) = .ok (.d (.bool true)) (stL scr s2 (.v (.d (wsD ws))) (.v (.d (logD l1))) (.v (.d (.int sh))) (.v (.d (logD l2))) (.v (.d (.str (pairD l1 l2).shown))) (.v (.d (dueD l1 l2))) (.ol (rows.map logD)) (.v (.d (dueD l1 l2))) s14 s16 (stO nums (k2 : Nat) :: rest2)) from call_ok rfl rfl (same_ok ht.due (by decide) (by decide) _)]
      rfl
    refine .seq (.ift (c1 := stL scr s2 (.v (.d (wsD ws))) (.v (.d (logD l1))) (.v (.d (.int sh))) (.v (.d (logD l2))) (.v (.d (.str (pairD l1 l2).shown))) (.v (.d (dueD l1 l2))) (.ol (rows.map logD)) (.v (.d (dueD l1 l2))) s14 s16 (stO nums (k2 : Nat) :: rest2)) ?_ ?_)
    · rw [mTru_ap]
      show Res.bind (mOpt ((pNe (dueD l1 l2) (.str "missing")).map CV.d) _) asB = _
      rw [due_ne ht]
      rfl
    refine .for (xs := rowsOf l1 l2) (c1 := stL scr s2 (.v (.d (wsD ws))) (.v (.d (logD l1))) (.v (.d (.int sh))) (.v (.d (logD l2))) (.v (.d (.str (pairD l1 l2).shown))) (.v (.d (dueD l1 l2))) (.ol (rows.map logD)) (.v (.d (dueD l1 l2))) s14 s16 (stO nums (k2 : Nat) :: rest2)) rfl
      (fun pre c => ∃ s14, c = stL scr s2 (.v (.d (wsD ws))) (.v (.d (logD l1))) (.v (.d (.int sh))) (.v (.d (logD l2))) (.v (.d (.str (pairD l1 l2).shown))) (.v (.d (dueD l1 l2))) (.ol (rows.map logD)) (.v (.d (dueD l1 l2))) s14 s16 (stO nums (k2 : Nat) :: rest2)) ⟨_, rfl⟩ ?_ ?_
    · rintro pre x post c hx ⟨s14, rfl⟩
      have hm : x ∈ rowsOf l1 l2 := by rw [hx]; exact List.mem_append.mpr (.inr (.head _))
      obtain ⟨r, hr, rfl⟩ := List.mem_map.mp (sortD_mem.mp hm)
      exact ⟨_, rfl, .iff (e_filt ht hc hr) (.nx ⟨_, rfl⟩)⟩
    · rintro c ⟨s14, rfl⟩
      exact go (tail _ _ _ _ _ _ _ _ _)
  · have hc : Common l1 l2 := Classical.not_not.mp fun q => by rw [hkc.mpr q] at hkf; cases hkf
    refine .seq (.set (x := .d (.str "missing")) (c1 := stL scr s2 (.v (.d (wsD ws))) (.v (.d (logD l1))) (.v (.d (.int sh))) (.v (.d (logD l2))) (.v (.d (.str (pairD l1 l2).shown))) (.v (.d (.str "missing"))) s11 s13 s14 s16 (stO nums (k2 : Nat) :: rest)) (call_ok rfl rfl (ht.miss hc _)) (go ?_))
    refine .seq (.iff (c1 := stL scr s2 (.v (.d (wsD ws))) (.v (.d (logD l1))) (.v (.d (.int sh))) (.v (.d (logD l2))) (.v (.d (.str (pairD l1 l2).shown))) (.v (.d (.str "missing"))) s11 (.v (.d (.str "missing"))) s14 s16 (stO nums (k2 : Nat) :: rest)) ?_ (.nx (go ?_)))
    · show mNot (mTru (mCall 2 F__law_same (mCons (mVar 13) (mCons (mVar 10) mNil)))) (stL scr s2 (.v (.d (wsD ws))) (.v (.d (logD l1))) (.v (.d (.int sh))) (.v (.d (logD l2))) (.v (.d (.str (pairD l1 l2).shown))) (.v (.d (.str "missing"))) s11 (.v (.d (.str "missing"))) s14 s16 (stO nums (k2 : Nat) :: rest)) = _
      rw [mNot_ap, mTru_ap, show mCall 2 F__law_same (mCons (mVar 13) (mCons (mVar 10) mNil)) (stL scr s2 (.v (.d (wsD ws))) (.v (.d (logD l1))) (.v (.d (.int sh))) (.v (.d (logD l2))) (.v (.d (.str (pairD l1 l2).shown))) (.v (.d (.str "missing"))) s11 (.v (.d (.str "missing"))) s14 s16 (stO nums (k2 : Nat) :: rest)) = .ok (.d (.bool true)) (stL scr s2 (.v (.d (wsD ws))) (.v (.d (logD l1))) (.v (.d (.int sh))) (.v (.d (logD l2))) (.v (.d (.str (pairD l1 l2).shown))) (.v (.d (.str "missing"))) s11 (.v (.d (.str "missing"))) s14 s16 (stO nums (k2 : Nat) :: rest)) from call_ok rfl rfl (same_ok (fine_str (n := 100) (by decide +kernel)) (by decide) (by decide) _)]
      rfl
    exact .seq (.iff (c1 := stL scr s2 (.v (.d (wsD ws))) (.v (.d (logD l1))) (.v (.d (.int sh))) (.v (.d (logD l2))) (.v (.d (.str (pairD l1 l2).shown))) (.v (.d (.str "missing"))) s11 (.v (.d (.str "missing"))) s14 s16 (stO nums (k2 : Nat) :: rest)) rfl (.nx (go (tail _ _ _ _ _ _ _ _ _))))
theorem law_true : ∀ ns : List Int, ns.length ≤ 63 → ∃ hp, F_law [.d (.list (ns.map .int))] [] = .ok (.d (.bool true)) hp := by
  intro ns hl
  obtain ⟨nums, h1, h2, h3⟩ := stream_eq hl []
  have h : Strm nums := ⟨h1, h2⟩
  refine fn_wp (m := m_law) (n := 20) (P := fun r => ∃ hp, r = .ok (.d (.bool true)) hp) ?_
  generalize PyData.list (ns.map .int) = scr at h3
  refine .seq (.set (x := .r 0) (c1 := ⟨[.v (.d scr), .un, .un, .un, .un, .un, .un, .un, .un, .un, .un, .un, .un, .un, .un, .un, .un, .un, .un, .un], [stO nums 0]⟩) ?_ (go ?_))
  · show mNewD _ ⟨[.v (.d scr), .un, .un, .un, .un, .un, .un, .un, .un, .un, .un, .un, .un, .un, .un, .un, .un, .un, .un, .un], []⟩ = _
    rw [mNewD_ap, mCons_ap, show mCall 1 F__law_stream (mCons (mVar 0) mNil) ⟨[.v (.d scr), .un, .un, .un, .un, .un, .un, .un, .un, .un, .un, .un, .un, .un, .un, .un, .un, .un, .un, .un], []⟩ = .ok _ ⟨[.v (.d scr), .un, .un, .un, .un, .un, .un, .un, .un, .un, .un, .un, .un, .un, .un, .un, .un, .un, .un, .un], []⟩ from call_ok rfl rfl h3]
    rfl
  refine .seq (.for (xs := rgL 0 10) (c1 := stL scr .un .un .un .un .un .un .un .un .un .un .un [stO nums 0]) rfl
    (fun pre c => ∃ s2 s3 s4 s5 s6 s9 s10 s11 s13 s14 s16 k rest, c = stL scr s2 s3 s4 s5 s6 s9 s10 s11 s13 s14 s16 (stO nums ((k : Nat) : Int) :: rest) ∧ k ≤ 30 * pre.length) ⟨_, _, _, _, _, _, _, _, _, _, _, 0, [], rfl, by decide⟩ ?_ ?_)
  · rintro pre x post c hx ⟨s2, s3, s4, s5, s6, s9, s10, s11, s13, s14, s16, k, rest, rfl, hk⟩
    have hlt := (rgl_mem hx).2
    refine ⟨stL scr (.v (.d x)) s3 s4 s5 s6 s9 s10 s11 s13 s14 s16 (stO nums ((k : Nat) : Int) :: rest), rfl, ?_⟩
    refine law_turn h (by omega) fun s2 s3 s4 s5 s6 s9 s10 s11 s13 s14 s16 k' rest hk' => ?_
    exact ⟨s2, s3, s4, s5, s6, s9, s10, s11, s13, s14, s16, k', rest, rfl, by rw [List.length_append, List.length_singleton]; omega⟩
  · rintro c ⟨s2, s3, s4, s5, s6, s9, s10, s11, s13, s14, s16, k, rest, rfl, hk⟩
    generalize stO nums ((k : Nat) : Int) :: rest = hp
    refine go (.seq (.set (x := .d (logD firstL)) (c1 := stL scr s2 s3 s4 s5 s6 s9 s10 s11 s13 s14 s16 hp) rfl (go ?_)))
    refine .seq (.set (x := .d (logD secondL)) (c1 := ⟨[.v (.d scr), .v (.r 0), s2, s3, s4, s5, s6, .un, .un, s9, s10, s11, .un, s13, s14, .un, s16, .v (.d (logD firstL)), .un, .un], hp⟩) rfl (go ?_))
    have t1 := told_some (l1 := firstL) (l2 := secondL.take 3) ok_first (ok_take ok_second) (by decide +kernel) (by decide +kernel) hp
    have t3 := told_some (l1 := firstL.take 1) (l2 := sixty) (ok_take ok_first) ok_sixty (by decide +kernel) (by decide +kernel) hp
    have t4 := told_some (l1 := []) (l2 := secondL) (ok_take (n := 0) ok_first) ok_second (by decide +kernel) (by decide +kernel) hp
    have n1 : (rowsOf firstL (secondL.take 3)).length = 56 := by rw [rows_len]; decide +kernel
    have n3 : (rowsOf (firstL.take 1) sixty).length = 61 := by rw [rows_len]; decide +kernel
    unfold dueD at t1 t3 t4
    rw [rows_4] at t4
    generalize rowsOf firstL (secondL.take 3) = r1 at t1 n1
    generalize rowsOf (firstL.take 1) sixty = r3 at t3 n3
    have qc : ∀ (x y v : PyData) (ma : Mo (List CV)), ma ⟨[.v (.d scr), .v (.r 0), s2, s3, s4, s5, s6, .un, .un, s9, s10, s11, .un, s13, s14, .un, s16, .v (.d (logD firstL)), .un, .v (.d (logD secondL))], hp⟩ = .ok [.d x, .d y] ⟨[.v (.d scr), .v (.r 0), s2, s3, s4, s5, s6, .un, .un, s9, s10, s11, .un, s13, s14, .un, s16, .v (.d (logD firstL)), .un, .v (.d (logD secondL))], hp⟩ → F__law_told [.d x, .d y] hp = .ok (.d v) hp →
        mCall 2 F__law_told ma ⟨[.v (.d scr), .v (.r 0), s2, s3, s4, s5, s6, .un, .un, s9, s10, s11, .un, s13, s14, .un, s16, .v (.d (logD firstL)), .un, .v (.d (logD secondL))], hp⟩ = .ok (.d v) ⟨[.v (.d scr), .v (.r 0), s2, s3, s4, s5, s6, .un, .un, s9, s10, s11, .un, s13, s14, .un, s16, .v (.d (logD firstL)), .un, .v (.d (logD secondL))], hp⟩ := fun x y v ma e1 e2 => call_ok e1 rfl e2
    refine .seq (.own (x := [.str "large", .tuple [.str "told", .list r1], .str "missing", .tuple [.str "told", .list r3], .tuple [.str "told", .list [logD secondL]]]) (c1 := ⟨[.v (.d scr), .v (.r 0), s2, s3, s4, s5, s6, .un, .un, s9, s10, s11, .un, s13, s14, .un, s16, .v (.d (logD firstL)), .un, .v (.d (logD secondL))], hp⟩) ?_ (go ?_))
    · show mLst _ ⟨[.v (.d scr), .v (.r 0), s2, s3, s4, s5, s6, .un, .un, s9, s10, s11, .un, s13, s14, .un, s16, .v (.d (logD firstL)), .un, .v (.d (logD secondL))], hp⟩ = _
      have q0 := qc _ _ _ (mCons (mVar 17) (mCons (mVar 19) mNil)) rfl (told_0 hp)
      have q1 := qc _ _ _ (mCons (mVar 17) (mCons (mSl (mVar 19) (mRet none) (mPart (mC (.int 3)))) mNil)) rfl t1
      have q2 := qc _ _ _ (mCons (mVar 17) (mCons (mVar 17) mNil)) rfl (told_2 hp)
      have q3 := qc _ _ _ (mCons (mSl (mVar 17) (mRet none) (mPart (mC (.int 1)))) (mCons (m2 (lift2 pMulT) (mTup (mCons (mTup (mCons (mC (.str "a")) (mCons (mC (.int 9)) mNil))) mNil)) (mC (.int 60))) mNil)) rfl t3
      have q4 := qc _ _ _ (mCons (mTup mNil) (mCons (mVar 19) mNil)) rfl t4
      rw [mLst_ap, mCons_ap, q0, rb_ok, mBind_ap, mCons_ap, q1, rb_ok, mBind_ap, mCons_ap, q2, rb_ok, mBind_ap, mCons_ap, q3, rb_ok, mBind_ap, mCons_ap, q4]
      rfl
    refine .ret (x := .d (.bool true)) (c1 := ⟨[.v (.d scr), .v (.r 0), s2, s3, s4, s5, s6, .un, .un, s9, s10, s11, .un, .ol [.str "large", .tuple [.str "told", .list r1], .str "missing", .tuple [.str "told", .list r3], .tuple [.str "told", .list [logD secondL]]], s14, .un, s16, .v (.d (logD firstL)), .un, .v (.d (logD secondL))], hp⟩) ?_ ⟨hp, rfl⟩
    show mAndV _ _ ⟨[.v (.d scr), .v (.r 0), s2, s3, s4, s5, s6, .un, .un, s9, s10, s11, .un, .ol [.str "large", .tuple [.str "told", .list r1], .str "missing", .tuple [.str "told", .list r3], .tuple [.str "told", .list [logD secondL]]], s14, .un, s16, .v (.d (logD firstL)), .un, .v (.d (logD secondL))], hp⟩ = _
    rw [mAndV_ap, mTru_ap, m2_ap]
    show Res.bind (Res.bind (Res.bind (Res.ok (CV.d (.list [.str "large", .int (r1.length : Nat), .str "missing", .int (r3.length : Nat), .tuple [.str "told", .list [logD secondL]]])) (⟨[.v (.d scr), .v (.r 0), s2, s3, s4, s5, s6, .un, .un, s9, s10, s11, .un, .ol [.str "large", .tuple [.str "told", .list r1], .str "missing", .tuple [.str "told", .list r3], .tuple [.str "told", .list [logD secondL]]], s14, .un, s16, .v (.d (logD firstL)), .un, .v (.d (logD secondL))], hp⟩ : CS)) _) _) _ = _
    rw [rb_ok, n1, n3]
    rfl
end Lw

set_option Elab.async false
set_option maxRecDepth 100000
set_option maxHeartbeats 4000000
namespace Lw
open PySem PySem.Spec PyProof.Rows L2 Cl
theorem all_mk {P : Program} {w : World} {K : PySem.W.Frag} {h : Heap} {mg : Str → Option Value} {fa : Addr} (X : K.In h) (G : h.Ns mainGlobals mg) (hfa : mg "law" = some (.ref fa))
    {t_FIRST : Tok} {t_LATER : Tok} {t_MAX_LISTED : Tok} {t_MAX_LOG : Tok} {t_MAX_NAME : Tok} {t_MAX_WORD : Tok} {f__law_choices : Addr} {oc__law_choices kV__law_choices dc__law_choices pm__law_choices cd__law_choices ct__law_choices : Value} {od__law_choices an__law_choices : Option Addr} {sl__law_choices : Array (Option Value)} {f__law_next : Addr} {oc__law_next kV__law_next dc__law_next pm__law_next cd__law_next ct__law_next : Value} {od__law_next an__law_next : Option Addr} {sl__law_next : Array (Option Value)} {f__law_log : Addr} {oc__law_log kV__law_log dc__law_log pm__law_log cd__law_log ct__law_log : Value} {od__law_log an__law_log : Option Addr} {sl__law_log : Array (Option Value)} {f__law_merged : Addr} {oc__law_merged kV__law_merged dc__law_merged pm__law_merged cd__law_merged ct__law_merged : Value} {od__law_merged an__law_merged : Option Addr} {sl__law_merged : Array (Option Value)} {f__law_names : Addr} {oc__law_names kV__law_names dc__law_names pm__law_names cd__law_names ct__law_names : Value} {od__law_names an__law_names : Option Addr} {sl__law_names : Array (Option Value)} {f__law_same : Addr} {oc__law_same kV__law_same dc__law_same pm__law_same cd__law_same ct__law_same : Value} {od__law_same an__law_same : Option Addr} {sl__law_same : Array (Option Value)} {f__law_stream : Addr} {oc__law_stream kV__law_stream dc__law_stream pm__law_stream cd__law_stream ct__law_stream : Value} {od__law_stream an__law_stream : Option Addr} {sl__law_stream : Array (Option Value)} {f_is_word : Addr} {oc_is_word kV_is_word dc_is_word pm_is_word cd_is_word ct_is_word : Value} {od_is_word an_is_word : Option Addr} {sl_is_word : Array (Option Value)} {f_check_log : Addr} {oc_check_log kV_check_log dc_check_log pm_check_log cd_check_log ct_check_log : Value} {od_check_log an_check_log : Option Addr} {sl_check_log : Array (Option Value)} {f_names_of_known : Addr} {oc_names_of_known kV_names_of_known dc_names_of_known pm_names_of_known cd_names_of_known ct_names_of_known : Value} {od_names_of_known an_names_of_known : Option Addr} {sl_names_of_known : Array (Option Value)} {f_all_merges : Addr} {oc_all_merges kV_all_merges dc_all_merges pm_all_merges cd_all_merges ct_all_merges : Value} {od_all_merges an_all_merges : Option Addr} {sl_all_merges : Array (Option Value)} {f__law_told : Addr} {oc__law_told kV__law_told dc__law_told pm__law_told cd__law_told ct__law_told : Value} {od__law_told an__law_told : Option Addr} {sl__law_told : Array (Option Value)} {f__law_words : Addr} {oc__law_words kV__law_words dc__law_words pm__law_words cd__law_words ct__law_words : Value} {od__law_words an__law_words : Option Addr} {sl__law_words : Array (Option Value)} {f_law : Addr} {oc_law kV_law dc_law pm_law cd_law ct_law : Value} {od_law an_law : Option Addr} {sl_law : Array (Option Value)} {f__law_error : Addr} {oc__law_error kV__law_error dc__law_error pm__law_error cd__law_error ct__law_error : Value} {od__law_error an__law_error : Option Addr} {sl__law_error : Array (Option Value)} {C_Missing : Addr} {C_NotAllowed : Addr} {C_TooLarge : Addr} {C_BadPaper : Addr} {C_BadForm : Addr} {C_WardenError : Addr}
    (b_abs : PySem.W.nsIn K mainGlobals "abs" = some none)
    (b_all : PySem.W.nsIn K mainGlobals "all" = some none)
    (b_any : PySem.W.nsIn K mainGlobals "any" = some none)
    (b_int : PySem.W.nsIn K mainGlobals "int" = some none)
    (b_isinstance : PySem.W.nsIn K mainGlobals "isinstance" = some none)
    (b_len : PySem.W.nsIn K mainGlobals "len" = some none)
    (b_list : PySem.W.nsIn K mainGlobals "list" = some none)
    (b_range : PySem.W.nsIn K mainGlobals "range" = some none)
    (b_repr : PySem.W.nsIn K mainGlobals "repr" = some none)
    (b_set : PySem.W.nsIn K mainGlobals "set" = some none)
    (b_sorted : PySem.W.nsIn K mainGlobals "sorted" = some none)
    (b_sum : PySem.W.nsIn K mainGlobals "sum" = some none)
    (b_tuple : PySem.W.nsIn K mainGlobals "tuple" = some none)
    (c_FIRST : PySem.W.nsIn K mainGlobals "FIRST" = some (some (.str "abcdefghijklmnopqrstuvwxyz" t_FIRST)))
    (c_LATER : PySem.W.nsIn K mainGlobals "LATER" = some (some (.str "abcdefghijklmnopqrstuvwxyz0123456789" t_LATER)))
    (c_MAX_LISTED : PySem.W.nsIn K mainGlobals "MAX_LISTED" = some (some (.int 200 t_MAX_LISTED)))
    (c_MAX_LOG : PySem.W.nsIn K mainGlobals "MAX_LOG" = some (some (.int 60 t_MAX_LOG)))
    (c_MAX_NAME : PySem.W.nsIn K mainGlobals "MAX_NAME" = some (some (.int 999 t_MAX_NAME)))
    (c_MAX_WORD : PySem.W.nsIn K mainGlobals "MAX_WORD" = some (some (.int 12 t_MAX_WORD)))
    (n__law_choices : PySem.W.nsIn K mainGlobals "_law_choices" = some (some (.ref f__law_choices)))
    (l__law_choices : K.lookup f__law_choices = some ⟨oc__law_choices, od__law_choices, .func (PySem.W.fnOf "_law_choices" "_law_choices" (defArgs s__law_choices) (defBody s__law_choices) (defScope s__law_choices) .none kV__law_choices dc__law_choices pm__law_choices an__law_choices cd__law_choices ct__law_choices), sl__law_choices⟩)
    (d__law_choices : PySem.W.codeIn K cd__law_choices "_law_choices" = true)
    (k__law_choices : PySem.W.keepIn K (.ref f__law_choices) = true)
    (n__law_next : PySem.W.nsIn K mainGlobals "_law_next" = some (some (.ref f__law_next)))
    (l__law_next : K.lookup f__law_next = some ⟨oc__law_next, od__law_next, .func (PySem.W.fnOf "_law_next" "_law_next" (defArgs s__law_next) (defBody s__law_next) (defScope s__law_next) .none kV__law_next dc__law_next pm__law_next an__law_next cd__law_next ct__law_next), sl__law_next⟩)
    (d__law_next : PySem.W.codeIn K cd__law_next "_law_next" = true)
    (k__law_next : PySem.W.keepIn K (.ref f__law_next) = true)
    (n__law_log : PySem.W.nsIn K mainGlobals "_law_log" = some (some (.ref f__law_log)))
    (l__law_log : K.lookup f__law_log = some ⟨oc__law_log, od__law_log, .func (PySem.W.fnOf "_law_log" "_law_log" (defArgs s__law_log) (defBody s__law_log) (defScope s__law_log) .none kV__law_log dc__law_log pm__law_log an__law_log cd__law_log ct__law_log), sl__law_log⟩)
    (d__law_log : PySem.W.codeIn K cd__law_log "_law_log" = true)
    (k__law_log : PySem.W.keepIn K (.ref f__law_log) = true)
    (n__law_merged : PySem.W.nsIn K mainGlobals "_law_merged" = some (some (.ref f__law_merged)))
    (l__law_merged : K.lookup f__law_merged = some ⟨oc__law_merged, od__law_merged, .func (PySem.W.fnOf "_law_merged" "_law_merged" (defArgs s__law_merged) (defBody s__law_merged) (defScope s__law_merged) .none kV__law_merged dc__law_merged pm__law_merged an__law_merged cd__law_merged ct__law_merged), sl__law_merged⟩)
    (d__law_merged : PySem.W.codeIn K cd__law_merged "_law_merged" = true)
    (k__law_merged : PySem.W.keepIn K (.ref f__law_merged) = true)
    (n__law_names : PySem.W.nsIn K mainGlobals "_law_names" = some (some (.ref f__law_names)))
    (l__law_names : K.lookup f__law_names = some ⟨oc__law_names, od__law_names, .func (PySem.W.fnOf "_law_names" "_law_names" (defArgs s__law_names) (defBody s__law_names) (defScope s__law_names) .none kV__law_names dc__law_names pm__law_names an__law_names cd__law_names ct__law_names), sl__law_names⟩)
    (d__law_names : PySem.W.codeIn K cd__law_names "_law_names" = true)
    (k__law_names : PySem.W.keepIn K (.ref f__law_names) = true)
    (n__law_same : PySem.W.nsIn K mainGlobals "_law_same" = some (some (.ref f__law_same)))
    (l__law_same : K.lookup f__law_same = some ⟨oc__law_same, od__law_same, .func (PySem.W.fnOf "_law_same" "_law_same" (defArgs s__law_same) (defBody s__law_same) (defScope s__law_same) .none kV__law_same dc__law_same pm__law_same an__law_same cd__law_same ct__law_same), sl__law_same⟩)
    (d__law_same : PySem.W.codeIn K cd__law_same "_law_same" = true)
    (k__law_same : PySem.W.keepIn K (.ref f__law_same) = true)
    (n__law_stream : PySem.W.nsIn K mainGlobals "_law_stream" = some (some (.ref f__law_stream)))
    (l__law_stream : K.lookup f__law_stream = some ⟨oc__law_stream, od__law_stream, .func (PySem.W.fnOf "_law_stream" "_law_stream" (defArgs s__law_stream) (defBody s__law_stream) (defScope s__law_stream) .none kV__law_stream dc__law_stream pm__law_stream an__law_stream cd__law_stream ct__law_stream), sl__law_stream⟩)
    (d__law_stream : PySem.W.codeIn K cd__law_stream "_law_stream" = true)
    (k__law_stream : PySem.W.keepIn K (.ref f__law_stream) = true)
    (n_is_word : PySem.W.nsIn K mainGlobals "is_word" = some (some (.ref f_is_word)))
    (l_is_word : K.lookup f_is_word = some ⟨oc_is_word, od_is_word, .func (PySem.W.fnOf "is_word" "is_word" (defArgs s_is_word) (defBody s_is_word) (defScope s_is_word) .none kV_is_word dc_is_word pm_is_word an_is_word cd_is_word ct_is_word), sl_is_word⟩)
    (d_is_word : PySem.W.codeIn K cd_is_word "is_word" = true)
    (k_is_word : PySem.W.keepIn K (.ref f_is_word) = true)
    (n_check_log : PySem.W.nsIn K mainGlobals "check_log" = some (some (.ref f_check_log)))
    (l_check_log : K.lookup f_check_log = some ⟨oc_check_log, od_check_log, .func (PySem.W.fnOf "check_log" "check_log" (defArgs s_check_log) (defBody s_check_log) (defScope s_check_log) .none kV_check_log dc_check_log pm_check_log an_check_log cd_check_log ct_check_log), sl_check_log⟩)
    (d_check_log : PySem.W.codeIn K cd_check_log "check_log" = true)
    (k_check_log : PySem.W.keepIn K (.ref f_check_log) = true)
    (n_names_of_known : PySem.W.nsIn K mainGlobals "names_of_known" = some (some (.ref f_names_of_known)))
    (l_names_of_known : K.lookup f_names_of_known = some ⟨oc_names_of_known, od_names_of_known, .func (PySem.W.fnOf "names_of_known" "names_of_known" (defArgs s_names_of_known) (defBody s_names_of_known) (defScope s_names_of_known) .none kV_names_of_known dc_names_of_known pm_names_of_known an_names_of_known cd_names_of_known ct_names_of_known), sl_names_of_known⟩)
    (d_names_of_known : PySem.W.codeIn K cd_names_of_known "names_of_known" = true)
    (k_names_of_known : PySem.W.keepIn K (.ref f_names_of_known) = true)
    (n_all_merges : PySem.W.nsIn K mainGlobals "all_merges" = some (some (.ref f_all_merges)))
    (l_all_merges : K.lookup f_all_merges = some ⟨oc_all_merges, od_all_merges, .func (PySem.W.fnOf "all_merges" "all_merges" (defArgs s_all_merges) (defBody s_all_merges) (defScope s_all_merges) .none kV_all_merges dc_all_merges pm_all_merges an_all_merges cd_all_merges ct_all_merges), sl_all_merges⟩)
    (d_all_merges : PySem.W.codeIn K cd_all_merges "all_merges" = true)
    (k_all_merges : PySem.W.keepIn K (.ref f_all_merges) = true)
    (n__law_told : PySem.W.nsIn K mainGlobals "_law_told" = some (some (.ref f__law_told)))
    (l__law_told : K.lookup f__law_told = some ⟨oc__law_told, od__law_told, .func (PySem.W.fnOf "_law_told" "_law_told" (defArgs s__law_told) (defBody s__law_told) (defScope s__law_told) .none kV__law_told dc__law_told pm__law_told an__law_told cd__law_told ct__law_told), sl__law_told⟩)
    (d__law_told : PySem.W.codeIn K cd__law_told "_law_told" = true)
    (k__law_told : PySem.W.keepIn K (.ref f__law_told) = true)
    (n__law_words : PySem.W.nsIn K mainGlobals "_law_words" = some (some (.ref f__law_words)))
    (l__law_words : K.lookup f__law_words = some ⟨oc__law_words, od__law_words, .func (PySem.W.fnOf "_law_words" "_law_words" (defArgs s__law_words) (defBody s__law_words) (defScope s__law_words) .none kV__law_words dc__law_words pm__law_words an__law_words cd__law_words ct__law_words), sl__law_words⟩)
    (d__law_words : PySem.W.codeIn K cd__law_words "_law_words" = true)
    (k__law_words : PySem.W.keepIn K (.ref f__law_words) = true)
    (n_law : PySem.W.nsIn K mainGlobals "law" = some (some (.ref f_law)))
    (l_law : K.lookup f_law = some ⟨oc_law, od_law, .func (PySem.W.fnOf "law" "law" (defArgs s_law) (defBody s_law) (defScope s_law) .none kV_law dc_law pm_law an_law cd_law ct_law), sl_law⟩)
    (d_law : PySem.W.codeIn K cd_law "law" = true)
    (k_law : PySem.W.keepIn K (.ref f_law) = true)
    (n__law_error : PySem.W.nsIn K mainGlobals "_law_error" = some (some (.ref f__law_error)))
    (l__law_error : K.lookup f__law_error = some ⟨oc__law_error, od__law_error, .func (PySem.W.fnOf "_law_error" "_law_error" (defArgs s__law_error) (defBody s__law_error) (defScope s__law_error) .none kV__law_error dc__law_error pm__law_error an__law_error cd__law_error ct__law_error), sl__law_error⟩)
    (d__law_error : PySem.W.codeIn K cd__law_error "_law_error" = true)
    (k__law_error : PySem.W.keepIn K (.ref f__law_error) = true)
    (nC_Missing : PySem.W.nsIn K mainGlobals "Missing" = some (some (.ref C_Missing)))
    (kC_Missing : PySem.W.keepIn K (.ref C_Missing) = true)
    (xF_Missing : PySem.W.excIn K C_Missing [.type "Exception", .type "BaseException", .type "object"] "Exception.__new__" = true)
    (bF_Missing : PySem.W.subIn K (.ref C_Missing) (.type "BaseException") = some true)
    (tF_Missing : PySem.W.typeIn K (.ref C_Missing) = some (.type "type"))
    (nC_NotAllowed : PySem.W.nsIn K mainGlobals "NotAllowed" = some (some (.ref C_NotAllowed)))
    (kC_NotAllowed : PySem.W.keepIn K (.ref C_NotAllowed) = true)
    (xF_NotAllowed : PySem.W.excIn K C_NotAllowed [.type "Exception", .type "BaseException", .type "object"] "Exception.__new__" = true)
    (bF_NotAllowed : PySem.W.subIn K (.ref C_NotAllowed) (.type "BaseException") = some true)
    (tF_NotAllowed : PySem.W.typeIn K (.ref C_NotAllowed) = some (.type "type"))
    (nC_TooLarge : PySem.W.nsIn K mainGlobals "TooLarge" = some (some (.ref C_TooLarge)))
    (kC_TooLarge : PySem.W.keepIn K (.ref C_TooLarge) = true)
    (xF_TooLarge : PySem.W.excIn K C_TooLarge [.type "Exception", .type "BaseException", .type "object"] "Exception.__new__" = true)
    (bF_TooLarge : PySem.W.subIn K (.ref C_TooLarge) (.type "BaseException") = some true)
    (tF_TooLarge : PySem.W.typeIn K (.ref C_TooLarge) = some (.type "type"))
    (nC_BadPaper : PySem.W.nsIn K mainGlobals "BadPaper" = some (some (.ref C_BadPaper)))
    (nC_BadForm : PySem.W.nsIn K mainGlobals "BadForm" = some (some (.ref C_BadForm)))
    (nC_WardenError : PySem.W.nsIn K mainGlobals "WardenError" = some (some (.ref C_WardenError)))
    (bF_WardenError : PySem.W.subIn K (.ref C_WardenError) (.type "BaseException") = some true)
    (iC_NotAllowed : PySem.W.isClsIn K C_NotAllowed = true)
    (iC_TooLarge : PySem.W.isClsIn K C_TooLarge = true)
    (iC_Missing : PySem.W.isClsIn K C_Missing = true)
    (iC_BadPaper : PySem.W.isClsIn K C_BadPaper = true)
    (tF_BadPaper : PySem.W.typeIn K (.ref C_BadPaper) = some (.type "type"))
    (iC_BadForm : PySem.W.isClsIn K C_BadForm = true)
    (tF_BadForm : PySem.W.typeIn K (.ref C_BadForm) = some (.type "type"))
    (iC_WardenError : PySem.W.isClsIn K C_WardenError = true)
    (tF_WardenError : PySem.W.typeIn K (.ref C_WardenError) = some (.type "type"))
    (e_get : PySem.W.specialIn K (.builtin "object.__class__") "__get__" = some (some (.builtin "getset_descriptor.__get__")))
    (e_tk : PySem.W.takesIn K (.builtin "object.__class__") = some true)
    (eg_Missing : PySem.W.findIn K (.ref C_Missing) "__getattribute__" = some (some (.builtin "BaseException.__getattribute__")))
    (ek_Missing : PySem.W.findIn K (.ref C_Missing) "__getattr__" = some none)
    (ed_Missing : PySem.W.hasDictIn K C_Missing = true)
    (ea_Missing : PySem.W.findIn K (.ref C_Missing) "__class__" = some (some (.builtin "object.__class__")))
    (em_Missing : PySem.W.mroIn K C_Missing (.type "object") = some true)
    (s_Missing_WardenError : PySem.W.subIn K (.ref C_Missing) (.ref C_WardenError) = some true)
    (s_Missing_NotAllowed : PySem.W.subIn K (.ref C_Missing) (.ref C_NotAllowed) = some false)
    (q_Missing_NotAllowed : ((Value.ref C_Missing) == (Value.ref C_NotAllowed)) = false)
    (s_Missing_TooLarge : PySem.W.subIn K (.ref C_Missing) (.ref C_TooLarge) = some false)
    (q_Missing_TooLarge : ((Value.ref C_Missing) == (Value.ref C_TooLarge)) = false)
    (s_Missing_Missing : PySem.W.subIn K (.ref C_Missing) (.ref C_Missing) = some true)
    (s_Missing_BadPaper : PySem.W.subIn K (.ref C_Missing) (.ref C_BadPaper) = some false)
    (q_Missing_BadPaper : ((Value.ref C_Missing) == (Value.ref C_BadPaper)) = false)
    (s_Missing_BadForm : PySem.W.subIn K (.ref C_Missing) (.ref C_BadForm) = some false)
    (q_Missing_BadForm : ((Value.ref C_Missing) == (Value.ref C_BadForm)) = false)
    (eg_NotAllowed : PySem.W.findIn K (.ref C_NotAllowed) "__getattribute__" = some (some (.builtin "BaseException.__getattribute__")))
    (ek_NotAllowed : PySem.W.findIn K (.ref C_NotAllowed) "__getattr__" = some none)
    (ed_NotAllowed : PySem.W.hasDictIn K C_NotAllowed = true)
    (ea_NotAllowed : PySem.W.findIn K (.ref C_NotAllowed) "__class__" = some (some (.builtin "object.__class__")))
    (em_NotAllowed : PySem.W.mroIn K C_NotAllowed (.type "object") = some true)
    (s_NotAllowed_WardenError : PySem.W.subIn K (.ref C_NotAllowed) (.ref C_WardenError) = some true)
    (s_NotAllowed_NotAllowed : PySem.W.subIn K (.ref C_NotAllowed) (.ref C_NotAllowed) = some true)
    (s_NotAllowed_TooLarge : PySem.W.subIn K (.ref C_NotAllowed) (.ref C_TooLarge) = some false)
    (q_NotAllowed_TooLarge : ((Value.ref C_NotAllowed) == (Value.ref C_TooLarge)) = false)
    (s_NotAllowed_Missing : PySem.W.subIn K (.ref C_NotAllowed) (.ref C_Missing) = some false)
    (q_NotAllowed_Missing : ((Value.ref C_NotAllowed) == (Value.ref C_Missing)) = false)
    (s_NotAllowed_BadPaper : PySem.W.subIn K (.ref C_NotAllowed) (.ref C_BadPaper) = some false)
    (q_NotAllowed_BadPaper : ((Value.ref C_NotAllowed) == (Value.ref C_BadPaper)) = false)
    (s_NotAllowed_BadForm : PySem.W.subIn K (.ref C_NotAllowed) (.ref C_BadForm) = some false)
    (q_NotAllowed_BadForm : ((Value.ref C_NotAllowed) == (Value.ref C_BadForm)) = false)
    (eg_TooLarge : PySem.W.findIn K (.ref C_TooLarge) "__getattribute__" = some (some (.builtin "BaseException.__getattribute__")))
    (ek_TooLarge : PySem.W.findIn K (.ref C_TooLarge) "__getattr__" = some none)
    (ed_TooLarge : PySem.W.hasDictIn K C_TooLarge = true)
    (ea_TooLarge : PySem.W.findIn K (.ref C_TooLarge) "__class__" = some (some (.builtin "object.__class__")))
    (em_TooLarge : PySem.W.mroIn K C_TooLarge (.type "object") = some true)
    (s_TooLarge_WardenError : PySem.W.subIn K (.ref C_TooLarge) (.ref C_WardenError) = some true)
    (s_TooLarge_NotAllowed : PySem.W.subIn K (.ref C_TooLarge) (.ref C_NotAllowed) = some false)
    (q_TooLarge_NotAllowed : ((Value.ref C_TooLarge) == (Value.ref C_NotAllowed)) = false)
    (s_TooLarge_TooLarge : PySem.W.subIn K (.ref C_TooLarge) (.ref C_TooLarge) = some true)
    (s_TooLarge_Missing : PySem.W.subIn K (.ref C_TooLarge) (.ref C_Missing) = some false)
    (q_TooLarge_Missing : ((Value.ref C_TooLarge) == (Value.ref C_Missing)) = false)
    (s_TooLarge_BadPaper : PySem.W.subIn K (.ref C_TooLarge) (.ref C_BadPaper) = some false)
    (q_TooLarge_BadPaper : ((Value.ref C_TooLarge) == (Value.ref C_BadPaper)) = false)
    (s_TooLarge_BadForm : PySem.W.subIn K (.ref C_TooLarge) (.ref C_BadForm) = some false)
    (q_TooLarge_BadForm : ((Value.ref C_TooLarge) == (Value.ref C_BadForm)) = false)
    : ∃ fd : FuncData, (∀ (s : Shared) (u : Value), BindsTo s fd ⟨[u], []⟩ [("script", u)]) ∧ ∀ base : Heap, K.In base → base.Ns mainGlobals mg → FnG P w K mg base (L2N.CX P w) 5 fa fd ["script"] (spC ⟨K, w⟩ mg F_law 1) := by
  have e := hfa.symm.trans (PySem.W.mg_of X G n_law)
  cases e
  have u__law_choices := fun_mk (st := s__law_choices) l__law_choices d__law_choices k__law_choices
  have u__law_next := fun_mk (st := s__law_next) l__law_next d__law_next k__law_next
  have u__law_log := fun_mk (st := s__law_log) l__law_log d__law_log k__law_log
  have u__law_merged := fun_mk (st := s__law_merged) l__law_merged d__law_merged k__law_merged
  have u__law_names := fun_mk (st := s__law_names) l__law_names d__law_names k__law_names
  have u__law_same := fun_mk (st := s__law_same) l__law_same d__law_same k__law_same
  have u__law_stream := fun_mk (st := s__law_stream) l__law_stream d__law_stream k__law_stream
  have u_is_word := fun_mk (st := s_is_word) l_is_word d_is_word k_is_word
  have u_check_log := fun_mk (st := s_check_log) l_check_log d_check_log k_check_log
  have u_names_of_known := fun_mk (st := s_names_of_known) l_names_of_known d_names_of_known k_names_of_known
  have u_all_merges := fun_mk (st := s_all_merges) l_all_merges d_all_merges k_all_merges
  have u__law_told := fun_mk (st := s__law_told) l__law_told d__law_told k__law_told
  have u__law_words := fun_mk (st := s__law_words) l__law_words d__law_words k__law_words
  have u_law := fun_mk (st := s_law) l_law d_law k_law
  have u__law_error := fun_mk (st := s__law_error) l__law_error d__law_error k__law_error
  let T : Txt K mg := { b_abs := PySem.W.mg_none_of X G b_abs, b_all := PySem.W.mg_none_of X G b_all, b_any := PySem.W.mg_none_of X G b_any, b_int := PySem.W.mg_none_of X G b_int, b_isinstance := PySem.W.mg_none_of X G b_isinstance, b_len := PySem.W.mg_none_of X G b_len, b_list := PySem.W.mg_none_of X G b_list, b_range := PySem.W.mg_none_of X G b_range, b_repr := PySem.W.mg_none_of X G b_repr, b_set := PySem.W.mg_none_of X G b_set, b_sorted := PySem.W.mg_none_of X G b_sorted, b_sum := PySem.W.mg_none_of X G b_sum, b_tuple := PySem.W.mg_none_of X G b_tuple, t_FIRST := t_FIRST, c_FIRST := PySem.W.mg_of X G c_FIRST, t_LATER := t_LATER, c_LATER := PySem.W.mg_of X G c_LATER, t_MAX_LISTED := t_MAX_LISTED, c_MAX_LISTED := PySem.W.mg_of X G c_MAX_LISTED, t_MAX_LOG := t_MAX_LOG, c_MAX_LOG := PySem.W.mg_of X G c_MAX_LOG, t_MAX_NAME := t_MAX_NAME, c_MAX_NAME := PySem.W.mg_of X G c_MAX_NAME, t_MAX_WORD := t_MAX_WORD, c_MAX_WORD := PySem.W.mg_of X G c_MAX_WORD, a__law_choices := f__law_choices, d__law_choices := _, g__law_choices := PySem.W.mg_of X G n__law_choices, u__law_choices := u__law_choices, n__law_choices := u__law_choices.binds (ps := ["many", "few"]) fun _ _ _ _ _ _ us hl => match us, hl with | [_, _], _ => rfl, a__law_next := f__law_next, d__law_next := _, g__law_next := PySem.W.mg_of X G n__law_next, u__law_next := u__law_next, n__law_next := u__law_next.binds (ps := ["state", "many"]) fun _ _ _ _ _ _ us hl => match us, hl with | [_, _], _ => rfl, a__law_log := f__law_log, d__law_log := _, g__law_log := PySem.W.mg_of X G n__law_log, u__law_log := u__law_log, n__law_log := u__law_log.binds (ps := ["state", "words", "most", "names"]) fun _ _ _ _ _ _ us hl => match us, hl with | [_, _, _, _], _ => rfl, a__law_merged := f__law_merged, d__law_merged := _, g__law_merged := PySem.W.mg_of X G n__law_merged, u__law_merged := u__law_merged, n__law_merged := u__law_merged.binds (ps := ["one", "other", "places"]) fun _ _ _ _ _ _ us hl => match us, hl with | [_, _, _], _ => rfl, a__law_names := f__law_names, d__law_names := _, g__law_names := PySem.W.mg_of X G n__law_names, u__law_names := u__law_names, n__law_names := u__law_names.binds (ps := ["log"]) fun _ _ _ _ _ _ us hl => match us, hl with | [_], _ => rfl, a__law_same := f__law_same, d__law_same := _, g__law_same := PySem.W.mg_of X G n__law_same, u__law_same := u__law_same, n__law_same := u__law_same.binds (ps := ["told", "due"]) fun _ _ _ _ _ _ us hl => match us, hl with | [_, _], _ => rfl, a__law_stream := f__law_stream, d__law_stream := _, g__law_stream := PySem.W.mg_of X G n__law_stream, u__law_stream := u__law_stream, n__law_stream := u__law_stream.binds (ps := ["script"]) fun _ _ _ _ _ _ us hl => match us, hl with | [_], _ => rfl, a_is_word := f_is_word, d_is_word := _, g_is_word := PySem.W.mg_of X G n_is_word, u_is_word := u_is_word, n_is_word := u_is_word.binds (ps := ["text"]) fun _ _ _ _ _ _ us hl => match us, hl with | [_], _ => rfl, a_check_log := f_check_log, d_check_log := _, g_check_log := PySem.W.mg_of X G n_check_log, u_check_log := u_check_log, n_check_log := u_check_log.binds (ps := ["log"]) fun _ _ _ _ _ _ us hl => match us, hl with | [_], _ => rfl, a_names_of_known := f_names_of_known, d_names_of_known := _, g_names_of_known := PySem.W.mg_of X G n_names_of_known, u_names_of_known := u_names_of_known, n_names_of_known := u_names_of_known.binds (ps := ["log"]) fun _ _ _ _ _ _ us hl => match us, hl with | [_], _ => rfl, a_all_merges := f_all_merges, d_all_merges := _, g_all_merges := PySem.W.mg_of X G n_all_merges, u_all_merges := u_all_merges, n_all_merges := u_all_merges.binds (ps := ["one", "other"]) fun _ _ _ _ _ _ us hl => match us, hl with | [_, _], _ => rfl, a__law_told := f__law_told, d__law_told := _, g__law_told := PySem.W.mg_of X G n__law_told, u__law_told := u__law_told, n__law_told := u__law_told.binds (ps := ["one", "other"]) fun _ _ _ _ _ _ us hl => match us, hl with | [_, _], _ => rfl, a__law_words := f__law_words, d__law_words := _, g__law_words := PySem.W.mg_of X G n__law_words, u__law_words := u__law_words, n__law_words := u__law_words.binds (ps := ["state"]) fun _ _ _ _ _ _ us hl => match us, hl with | [_], _ => rfl, a_law := fa, d_law := _, g_law := PySem.W.mg_of X G n_law, u_law := u_law, n_law := u_law.binds (ps := ["script"]) fun _ _ _ _ _ _ us hl => match us, hl with | [_], _ => rfl, a__law_error := f__law_error, d__law_error := _, g__law_error := PySem.W.mg_of X G n__law_error, u__law_error := u__law_error, n__law_error := u__law_error.binds (ps := ["e"]) fun _ _ _ _ _ _ us hl => match us, hl with | [_], _ => rfl, C_Missing := C_Missing, x_Missing := ⟨PySem.W.mg_of X G nC_Missing, kC_Missing, xF_Missing, bF_Missing, tF_Missing⟩, C_NotAllowed := C_NotAllowed, x_NotAllowed := ⟨PySem.W.mg_of X G nC_NotAllowed, kC_NotAllowed, xF_NotAllowed, bF_NotAllowed, tF_NotAllowed⟩, C_TooLarge := C_TooLarge, x_TooLarge := ⟨PySem.W.mg_of X G nC_TooLarge, kC_TooLarge, xF_TooLarge, bF_TooLarge, tF_TooLarge⟩, C_BadPaper := C_BadPaper, g_BadPaper := PySem.W.mg_of X G nC_BadPaper, C_BadForm := C_BadForm, g_BadForm := PySem.W.mg_of X G nC_BadForm, C_WardenError := C_WardenError, w_WardenError := PySem.W.mg_of X G nC_WardenError, e_Missing := ⟨eg_Missing, ek_Missing, bF_Missing, ed_Missing, ea_Missing, e_get, e_tk, em_Missing⟩, m_Missing := exm_of bF_WardenError iC_WardenError tF_WardenError s_Missing_WardenError, i_Missing_NotAllowed := kit_of iC_NotAllowed tF_NotAllowed s_Missing_NotAllowed (.inr q_Missing_NotAllowed), i_Missing_TooLarge := kit_of iC_TooLarge tF_TooLarge s_Missing_TooLarge (.inr q_Missing_TooLarge), i_Missing_Missing := kit_of iC_Missing tF_Missing s_Missing_Missing (.inl rfl), i_Missing_BadPaper := kit_of iC_BadPaper tF_BadPaper s_Missing_BadPaper (.inr q_Missing_BadPaper), i_Missing_BadForm := kit_of iC_BadForm tF_BadForm s_Missing_BadForm (.inr q_Missing_BadForm), e_NotAllowed := ⟨eg_NotAllowed, ek_NotAllowed, bF_NotAllowed, ed_NotAllowed, ea_NotAllowed, e_get, e_tk, em_NotAllowed⟩, m_NotAllowed := exm_of bF_WardenError iC_WardenError tF_WardenError s_NotAllowed_WardenError, i_NotAllowed_NotAllowed := kit_of iC_NotAllowed tF_NotAllowed s_NotAllowed_NotAllowed (.inl rfl), i_NotAllowed_TooLarge := kit_of iC_TooLarge tF_TooLarge s_NotAllowed_TooLarge (.inr q_NotAllowed_TooLarge), i_NotAllowed_Missing := kit_of iC_Missing tF_Missing s_NotAllowed_Missing (.inr q_NotAllowed_Missing), i_NotAllowed_BadPaper := kit_of iC_BadPaper tF_BadPaper s_NotAllowed_BadPaper (.inr q_NotAllowed_BadPaper), i_NotAllowed_BadForm := kit_of iC_BadForm tF_BadForm s_NotAllowed_BadForm (.inr q_NotAllowed_BadForm), e_TooLarge := ⟨eg_TooLarge, ek_TooLarge, bF_TooLarge, ed_TooLarge, ea_TooLarge, e_get, e_tk, em_TooLarge⟩, m_TooLarge := exm_of bF_WardenError iC_WardenError tF_WardenError s_TooLarge_WardenError, i_TooLarge_NotAllowed := kit_of iC_NotAllowed tF_NotAllowed s_TooLarge_NotAllowed (.inr q_TooLarge_NotAllowed), i_TooLarge_TooLarge := kit_of iC_TooLarge tF_TooLarge s_TooLarge_TooLarge (.inl rfl), i_TooLarge_Missing := kit_of iC_Missing tF_Missing s_TooLarge_Missing (.inr q_TooLarge_Missing), i_TooLarge_BadPaper := kit_of iC_BadPaper tF_BadPaper s_TooLarge_BadPaper (.inr q_TooLarge_BadPaper), i_TooLarge_BadForm := kit_of iC_BadForm tF_BadForm s_TooLarge_BadForm (.inr q_TooLarge_BadForm) }
  exact ⟨_, fun s u => .of_eq rfl, fun base _ _ => ok_law T base⟩
end Lw
open PySem PySem.W PyProof.Rows
set_option maxHeartbeats 0 in
theorem PySem.Challenge.cw_namewarden_k87_all_merges_of_two_logs_holds : PySem.Challenge.rw_namewarden_k87_all_merges_of_two_logs.Holds := by
  w_on; o_law; k_head; (case hw => w_witness2)
  k_fill
  refine Cl.walk_mirror (l := PySem.Challenge.rw_namewarden_k87_all_merges_of_two_logs) (F := Lw.F_law) (n := 63) (k := 5) (x := "script") rfl (by decide) rfl (Cl.roomG_caller ⟨rfl, by decide, by decide⟩) (fun w h Y => PySem.W.kIn_of Y) ?F Lw.law_true
  case F =>
    intro w mg fa h KX G hmg
    refine' Lw.all_mk KX G hmg ?b_abs ?b_all ?b_any ?b_int ?b_isinstance ?b_len ?b_list ?b_range ?b_repr ?b_set ?b_sorted ?b_sum ?b_tuple ?c_FIRST ?c_LATER ?c_MAX_LISTED ?c_MAX_LOG ?c_MAX_NAME ?c_MAX_WORD ?n__law_choices ?l__law_choices ?d__law_choices ?k__law_choices ?n__law_next ?l__law_next ?d__law_next ?k__law_next ?n__law_log ?l__law_log ?d__law_log ?k__law_log ?n__law_merged ?l__law_merged ?d__law_merged ?k__law_merged ?n__law_names ?l__law_names ?d__law_names ?k__law_names ?n__law_same ?l__law_same ?d__law_same ?k__law_same ?n__law_stream ?l__law_stream ?d__law_stream ?k__law_stream ?n_is_word ?l_is_word ?d_is_word ?k_is_word ?n_check_log ?l_check_log ?d_check_log ?k_check_log ?n_names_of_known ?l_names_of_known ?d_names_of_known ?k_names_of_known ?n_all_merges ?l_all_merges ?d_all_merges ?k_all_merges ?n__law_told ?l__law_told ?d__law_told ?k__law_told ?n__law_words ?l__law_words ?d__law_words ?k__law_words ?n_law ?l_law ?d_law ?k_law ?n__law_error ?l__law_error ?d__law_error ?k__law_error ?nC_Missing ?kC_Missing ?xF_Missing ?bF_Missing ?tF_Missing ?nC_NotAllowed ?kC_NotAllowed ?xF_NotAllowed ?bF_NotAllowed ?tF_NotAllowed ?nC_TooLarge ?kC_TooLarge ?xF_TooLarge ?bF_TooLarge ?tF_TooLarge ?nC_BadPaper ?nC_BadForm ?nC_WardenError ?bF_WardenError ?iC_NotAllowed ?iC_TooLarge ?iC_Missing ?iC_BadPaper ?tF_BadPaper ?iC_BadForm ?tF_BadForm ?iC_WardenError ?tF_WardenError ?e_get ?e_tk ?eg_Missing ?ek_Missing ?ed_Missing ?ea_Missing ?em_Missing ?s_Missing_WardenError ?s_Missing_NotAllowed ?q_Missing_NotAllowed ?s_Missing_TooLarge ?q_Missing_TooLarge ?s_Missing_Missing ?s_Missing_BadPaper ?q_Missing_BadPaper ?s_Missing_BadForm ?q_Missing_BadForm ?eg_NotAllowed ?ek_NotAllowed ?ed_NotAllowed ?ea_NotAllowed ?em_NotAllowed ?s_NotAllowed_WardenError ?s_NotAllowed_NotAllowed ?s_NotAllowed_TooLarge ?q_NotAllowed_TooLarge ?s_NotAllowed_Missing ?q_NotAllowed_Missing ?s_NotAllowed_BadPaper ?q_NotAllowed_BadPaper ?s_NotAllowed_BadForm ?q_NotAllowed_BadForm ?eg_TooLarge ?ek_TooLarge ?ed_TooLarge ?ea_TooLarge ?em_TooLarge ?s_TooLarge_WardenError ?s_TooLarge_NotAllowed ?q_TooLarge_NotAllowed ?s_TooLarge_TooLarge ?s_TooLarge_Missing ?q_TooLarge_Missing ?s_TooLarge_BadPaper ?q_TooLarge_BadPaper ?s_TooLarge_BadForm ?q_TooLarge_BadForm
    (case b_abs => k_is)
    (case b_all => k_is)
    (case b_any => k_is)
    (case b_int => k_is)
    (case b_isinstance => k_is)
    (case b_len => k_is)
    (case b_list => k_is)
    (case b_range => k_is)
    (case b_repr => k_is)
    (case b_set => k_is)
    (case b_sorted => k_is)
    (case b_sum => k_is)
    (case b_tuple => k_is)
    (case c_FIRST => k_is)
    (case c_LATER => k_is)
    (case c_MAX_LISTED => k_is)
    (case c_MAX_LOG => k_is)
    (case c_MAX_NAME => k_is)
    (case c_MAX_WORD => k_is)
    (case n__law_choices => k_is)
    (case l__law_choices => k_is)
    (case d__law_choices => k_is)
    (case k__law_choices => k_is)
    (case n__law_next => k_is)
    (case l__law_next => k_is)
    (case d__law_next => k_is)
    (case k__law_next => k_is)
    (case n__law_log => k_is)
    (case l__law_log => k_is)
    (case d__law_log => k_is)
    (case k__law_log => k_is)
    (case n__law_merged => k_is)
    (case l__law_merged => k_is)
    (case d__law_merged => k_is)
    (case k__law_merged => k_is)
    (case n__law_names => k_is)
    (case l__law_names => k_is)
    (case d__law_names => k_is)
    (case k__law_names => k_is)
    (case n__law_same => k_is)
    (case l__law_same => k_is)
    (case d__law_same => k_is)
    (case k__law_same => k_is)
    (case n__law_stream => k_is)
    (case l__law_stream => k_is)
    (case d__law_stream => k_is)
    (case k__law_stream => k_is)
    (case n_is_word => k_is)
    (case l_is_word => k_is)
    (case d_is_word => k_is)
    (case k_is_word => k_is)
    (case n_check_log => k_is)
    (case l_check_log => k_is)
    (case d_check_log => k_is)
    (case k_check_log => k_is)
    (case n_names_of_known => k_is)
    (case l_names_of_known => k_is)
    (case d_names_of_known => k_is)
    (case k_names_of_known => k_is)
    (case n_all_merges => k_is)
    (case l_all_merges => k_is)
    (case d_all_merges => k_is)
    (case k_all_merges => k_is)
    (case n__law_told => k_is)
    (case l__law_told => k_is)
    (case d__law_told => k_is)
    (case k__law_told => k_is)
    (case n__law_words => k_is)
    (case l__law_words => k_is)
    (case d__law_words => k_is)
    (case k__law_words => k_is)
    (case n_law => k_is)
    (case l_law => k_is)
    (case d_law => k_is)
    (case k_law => k_is)
    (case n__law_error => k_is)
    (case l__law_error => k_is)
    (case d__law_error => k_is)
    (case k__law_error => k_is)
    (case nC_Missing => k_is)
    (case kC_Missing => k_is)
    (case xF_Missing => k_exc)
    (case bF_Missing => k_is)
    (case tF_Missing => k_is)
    (case nC_NotAllowed => k_is)
    (case kC_NotAllowed => k_is)
    (case xF_NotAllowed => k_exc)
    (case bF_NotAllowed => k_is)
    (case tF_NotAllowed => k_is)
    (case nC_TooLarge => k_is)
    (case kC_TooLarge => k_is)
    (case xF_TooLarge => k_exc)
    (case bF_TooLarge => k_is)
    (case tF_TooLarge => k_is)
    (case nC_BadPaper => k_is)
    (case nC_BadForm => k_is)
    (case nC_WardenError => k_is)
    (case bF_WardenError => k_is)
    (case iC_NotAllowed => k_is)
    (case iC_TooLarge => k_is)
    (case iC_Missing => k_is)
    (case iC_BadPaper => k_is)
    (case tF_BadPaper => k_is)
    (case iC_BadForm => k_is)
    (case tF_BadForm => k_is)
    (case iC_WardenError => k_is)
    (case tF_WardenError => k_is)
    (case e_get => k_is)
    (case e_tk => k_is)
    (case eg_Missing => k_is)
    (case ek_Missing => k_is)
    (case ed_Missing => k_is)
    (case ea_Missing => k_is)
    (case em_Missing => k_is)
    (case s_Missing_WardenError => k_is)
    (case s_Missing_NotAllowed => first | rfl | k_is)
    (case q_Missing_NotAllowed => first | rfl | decide)
    (case s_Missing_TooLarge => first | rfl | k_is)
    (case q_Missing_TooLarge => first | rfl | decide)
    (case s_Missing_Missing => first | rfl | k_is)
    (case s_Missing_BadPaper => first | rfl | k_is)
    (case q_Missing_BadPaper => first | rfl | decide)
    (case s_Missing_BadForm => first | rfl | k_is)
    (case q_Missing_BadForm => first | rfl | decide)
    (case eg_NotAllowed => k_is)
    (case ek_NotAllowed => k_is)
    (case ed_NotAllowed => k_is)
    (case ea_NotAllowed => k_is)
    (case em_NotAllowed => k_is)
    (case s_NotAllowed_WardenError => k_is)
    (case s_NotAllowed_NotAllowed => first | rfl | k_is)
    (case s_NotAllowed_TooLarge => first | rfl | k_is)
    (case q_NotAllowed_TooLarge => first | rfl | decide)
    (case s_NotAllowed_Missing => first | rfl | k_is)
    (case q_NotAllowed_Missing => first | rfl | decide)
    (case s_NotAllowed_BadPaper => first | rfl | k_is)
    (case q_NotAllowed_BadPaper => first | rfl | decide)
    (case s_NotAllowed_BadForm => first | rfl | k_is)
    (case q_NotAllowed_BadForm => first | rfl | decide)
    (case eg_TooLarge => k_is)
    (case ek_TooLarge => k_is)
    (case ed_TooLarge => k_is)
    (case ea_TooLarge => k_is)
    (case em_TooLarge => k_is)
    (case s_TooLarge_WardenError => k_is)
    (case s_TooLarge_NotAllowed => first | rfl | k_is)
    (case q_TooLarge_NotAllowed => first | rfl | decide)
    (case s_TooLarge_TooLarge => first | rfl | k_is)
    (case s_TooLarge_Missing => first | rfl | k_is)
    (case q_TooLarge_Missing => first | rfl | decide)
    (case s_TooLarge_BadPaper => first | rfl | k_is)
    (case q_TooLarge_BadPaper => first | rfl | decide)
    (case s_TooLarge_BadForm => first | rfl | k_is)
    (case q_TooLarge_BadForm => first | rfl | decide)

