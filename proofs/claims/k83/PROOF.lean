import PyProof.Rows.All
import HandS.ForMost
import HandS.ForExc
import KE.DataEq
import KE.KDictKeyed
import KE.KeyNested
import HandS.Iter
import KE.DataCmp
import HandS.TupAny
import HandS.Star
import HandS.Text
import HandS.ExcCtx
import HandS.HotCalls
import HandS.ExcIs
import PyProof.ReprRoads
import KE.SortData
import HandS.Set
import HandS.SetFor
import HandS.SetKeys
import HandS.DictComp
import KE.KDictDisplayH
import HandS.Conv
import KE.DataFind
import HandS.TupMul
import HandS.Hot
import PyProof.CompFree
import HandS.ExcValue
import HandS.ExcOwn
import PyProof.ReprLen
import KE.GoesMore
import HandS.Zip
import HandS.WordsDict
import HandS.Strs
import KE.KRevSl
import HandS.FStr
import PyProof.StrOps2
import HandS.ExcInit
import HandS.ExcSuper
import KE.KSuper
import HandS.SuiteRaise
import HandS.RaiseFrom
import PySem.Challenge.RW_namewarden_k83_desk_forms_and_limits
set_option Elab.async false
set_option maxRecDepth 100000
set_option maxHeartbeats 2000000
/-! The clean layer: data without addresses, the state of a def's run, and how they lie in the abstract heap. -/
namespace Cl
open PySem PySem.Spec PyProof.Rows L2

/-- a clean value: pure data; the n-th object of the clean heap; an opaque value -/
inductive CV where
  | d (x : PyData)
  | r (n : Nat)
  | o (v : V)
/-- a mutable object -/
inductive CO where
  | lst (xs : List CV)
  | dic (kvs : List (PyData × CV))
  | ins (C : Str) (fs : List (Str × CV))
/-- a slot: empty, a value, a list or dict of data that nothing else knows -/
inductive Sl where
  | un
  | v (x : CV)
  | ol (xs : List PyData)
  | od (kvs : List (PyData × PyData))
structure CS where
  sl : List Sl
  hp : List CO
/-- an exception: its class, its fields -/
structure XC where
  cls : Str
  fs : List (Str × PyData)
inductive Res (α : Type) where
  | ok (a : α) (c : CS)
  | ex (e : XC) (c : CS)
  | no
abbrev Mo (α : Type) := CS → Res α
def mRet {α : Type} (a : α) : Mo α := fun c => .ok a c
def mBind {α β : Type} (m : Mo α) (f : α → Mo β) : Mo β := fun c => match m c with
  | .ok a c1 => f a c1
  | .ex e c1 => .ex e c1
  | .no => .no
def mOpt {α : Type} (o : Option α) : Mo α := fun c => match o with
  | some a => .ok a c
  | none => .no

/-! ### data in the abstract heap -/
/-- the written part and the world -/
structure KW where
  K : PySem.W.Frag
  w : World
abbrev kwOf (X : Cx) : KW := ⟨X.K, X.w⟩
/-- a list that never changes: frozen, or of the written part -/
def FzL (K : PySem.W.Frag) (H : Hp) (a : Addr) (vs : List V) : Prop := (∃ o, H a = some (.frz o (.lst vs))) ∨ ∀ H', SqL K H' a vs
theorem FzL.sq {K : PySem.W.Frag} {H : Hp} {a : Addr} {vs : List V} (h : FzL K H a vs) : SqL K H a vs := by
  rcases h with ⟨o, h⟩ | h
  · exact .inl (.inr ⟨o, h⟩)
  · exact h H
/-- what never changes, stays -/
structure Fz (H H' : Hp) : Prop where
  t : ∀ a xs, H a = some (.tup xs) → H' a = some (.tup xs)
  f : ∀ a o u, H a = some (.frz o u) → H' a = some (.frz o u)
theorem Fz.refl (H : Hp) : Fz H H := ⟨fun _ _ h => h, fun _ _ _ h => h⟩
theorem Fz.trans {H H1 H2 : Hp} (x : Fz H H1) (y : Fz H1 H2) : Fz H H2 := ⟨fun a xs h => y.t a xs (x.t a xs h), fun a o u h => y.f a o u (x.f a o u h)⟩
theorem Fz.same {H H' : Hp} (x : Same H H') : Fz H H' := ⟨fun _ _ h => x _ _ h, fun _ _ _ h => x _ _ h⟩
theorem Fz.sqT {K : PySem.W.Frag} {H H' : Hp} (x : Fz H H') {a : Addr} {vs : List V} (h : SqT K H a vs) : SqT K H' a vs := by
  rcases h with (h | ⟨o, h⟩) | h
  · exact .inl (.inl (x.t _ _ h))
  · exact .inl (.inr ⟨o, x.f _ _ _ h⟩)
  · exact .inr h
theorem Fz.fzL {K : PySem.W.Frag} {H H' : Hp} (x : Fz H H') {a : Addr} {vs : List V} (h : FzL K H a vs) : FzL K H' a vs := by
  rcases h with ⟨o, h⟩ | h
  · exact .inl ⟨o, x.f _ _ _ h⟩
  · exact .inr h
def keyD : Key → PyData
  | .inl i => .int i
  | .inr x => .str x
mutual
/-- a datum as a dict's key -/
def nk : PyData → NestedKey
  | .bool b => .num (if b = true then 1 else 0)
  | .int i => .num i
  | .str x => .text x
  | .tuple xs => .tup (nks xs)
  | _ => .none
def nks : List PyData → List NestedKey
  | [] => []
  | x :: xs => nk x :: nks xs
end
mutual
/-- it has a hash -/
def hashb : PyData → Bool
  | .none => true
  | .bool _ => true
  | .int _ => true
  | .str _ => true
  | .tuple xs => hashbs xs
  | .list _ => false
  | .dict _ => false
def hashbs : List PyData → Bool
  | [] => true
  | x :: xs => hashb x && hashbs xs
end
/-- a tuple that may be a key -/
def keyOk : PyData → Bool
  | .tuple xs => hashbs xs && decide ((NestedKey.tup (nks xs)).depth ≤ 8)
  | _ => false
/-- the dict at a with tuples as keys: each key, where its tuple stands, its value -/
def DKy (w : World) (a : Addr) (kws : List (NestedKey × Addr × V)) : HO := .ext fun h => kws.length ≤ sizeLine ∧ (a == sysModules) = false ∧ (kws.map (·.1)).Nodup ∧
  ∃ (xs : List (NestedKey × Addr × Value)) (o : Obj) (es : Array DictEntry) (ep : Nat), Paired (fun p q => p.1 = q.1 ∧ p.2.1 = q.2.1 ∧ RelV p.2.2 q.2.2) kws xs ∧ h.get? a = some o ∧ o.ExactDict ∧ o.data = .dict es ep ∧
    es.toList = xs.map fun x => ⟨x.1.hash w, .ref x.2.1, x.2.2⟩
mutual
def Den (K : KW) (H : Hp) : PyData → V → Prop
  | .none, v => v = .non
  | .bool b, v => v = .bl b
  | .int i, v => v = .int i
  | .str x, v => v = .str x
  | .tuple xs, v => ∃ a vs, v = .ref a ∧ SqT K.K H a vs ∧ DenL K H xs vs
  | .list xs, v => ∃ a vs, v = .ref a ∧ FzL K.K H a vs ∧ DenL K H xs vs
  | .dict kvs, v => ∃ a o, v = .ref a ∧ ((∃ kws : List (Key × V), H a = some (.frz o (.dK kws)) ∧ kvs.map (·.1) = kws.map (fun q => keyD q.1) ∧ DenW K H kvs (kws.map (·.2))) ∨
      ∃ kws : List (NestedKey × Addr × V), H a = some (.frz o (DKy K.w a kws)) ∧ DenE K H kvs kws)
def DenW (K : KW) (H : Hp) : List (PyData × PyData) → List V → Prop
  | [], vs => vs = []
  | (_, x) :: xs, vs => ∃ v r, vs = v :: r ∧ Den K H x v ∧ DenW K H xs r
def DenE (K : KW) (H : Hp) : List (PyData × PyData) → List (NestedKey × Addr × V) → Prop
  | [], ks => ks = []
  | (k, x) :: xs, ks => ∃ b v r, ks = (nk k, b, v) :: r ∧ keyOk k = true ∧ Den K H k (.ref b) ∧ Den K H x v ∧ DenE K H xs r
def DenL (K : KW) (H : Hp) : List PyData → List V → Prop
  | [], vs => vs = []
  | x :: xs, vs => ∃ v r, vs = v :: r ∧ Den K H x v ∧ DenL K H xs r
end
mutual
theorem Den.mono {K : KW} {H H' : Hp} (f : Fz H H') : ∀ (x : PyData) (v : V), Den K H x v → Den K H' x v
  | .none, v, h => by simpa only [Den] using h
  | .bool b, v, h => by simpa only [Den] using h
  | .int b, v, h => by simpa only [Den] using h
  | .str b, v, h => by simpa only [Den] using h
  | .tuple xs, v, h => by
    simp only [Den] at h ⊢
    obtain ⟨a, vs, e, q, r⟩ := h
    exact ⟨a, vs, e, f.sqT q, DenL.mono f xs vs r⟩
  | .list xs, v, h => by
    simp only [Den] at h ⊢
    obtain ⟨a, vs, e, q, r⟩ := h
    exact ⟨a, vs, e, f.fzL q, DenL.mono f xs vs r⟩
  | .dict kvs, v, h => by
    simp only [Den] at h ⊢
    obtain ⟨a, o, e, ⟨kws, h1, h2, h3⟩ | ⟨kws, h1, h3⟩⟩ := h
    · exact ⟨a, o, e, .inl ⟨kws, f.f _ _ _ h1, h2, DenW.mono f kvs _ h3⟩⟩
    · exact ⟨a, o, e, .inr ⟨kws, f.f _ _ _ h1, DenE.mono f kvs _ h3⟩⟩
theorem DenW.mono {K : KW} {H H' : Hp} (f : Fz H H') : ∀ (xs : List (PyData × PyData)) (vs : List V), DenW K H xs vs → DenW K H' xs vs
  | [], vs, h => by simpa only [DenW] using h
  | (k, x) :: xs, vs, h => by
    simp only [DenW] at h ⊢
    obtain ⟨v, r, e, q, t⟩ := h
    exact ⟨v, r, e, Den.mono f x v q, DenW.mono f xs r t⟩
theorem DenE.mono {K : KW} {H H' : Hp} (f : Fz H H') : ∀ (xs : List (PyData × PyData)) (vs : List (NestedKey × Addr × V)), DenE K H xs vs → DenE K H' xs vs
  | [], vs, h => by simpa only [DenE] using h
  | (k, x) :: xs, vs, h => by
    simp only [DenE] at h ⊢
    obtain ⟨b, v, r, e, k1, k2, q, t⟩ := h
    exact ⟨b, v, r, e, k1, Den.mono f k _ k2, Den.mono f x v q, DenE.mono f xs r t⟩
theorem DenL.mono {K : KW} {H H' : Hp} (f : Fz H H') : ∀ (xs : List PyData) (vs : List V), DenL K H xs vs → DenL K H' xs vs
  | [], vs, h => by simpa only [DenL] using h
  | x :: xs, vs, h => by
    simp only [DenL] at h ⊢
    obtain ⟨v, r, e, q, t⟩ := h
    exact ⟨v, r, e, Den.mono f x v q, DenL.mono f xs r t⟩
end
section
variable {X : Cx} {pins : List (Addr × Obj)} {σ : L2.St} {H : Hp} {s : Shared}
mutual
theorem Den.reads (I : Inv X pins σ H s) : ∀ (x : PyData) (v : V) (u : Value), x.plain = true → Den (kwOf X) H x v → RelV v u → ∃ as, Reads s.heap u x as
  | .none, v, u, _, h, r => by
    simp only [Den] at h
    subst h
    obtain rfl : u = Value.none := r
    exact ⟨_, .none⟩
  | .bool b, v, u, _, h, r => by
    simp only [Den] at h
    subst h
    obtain rfl : u = Value.bool b := r
    exact ⟨_, .bool b⟩
  | .int i, v, u, _, h, r => by
    simp only [Den] at h
    subst h
    obtain ⟨t, rfl⟩ := r
    exact ⟨_, .int i t⟩
  | .str i, v, u, _, h, r => by
    simp only [Den] at h
    subst h
    obtain ⟨t, rfl⟩ := r
    exact ⟨_, .str i t⟩
  | .tuple xs, v, u, p, h, r => by
    simp only [Den] at h
    obtain ⟨a, vs, rfl, q, d⟩ := h
    obtain rfl : u = Value.ref a := r
    obtain ⟨its, rv, ⟨o, ho, hc, n, hd⟩, _⟩ := I.tuple q
    obtain ⟨as, ra⟩ := DenL.reads I xs vs its p d rv
    exact ⟨_, .tuple ho hc hd (by simpa using ra)⟩
  | .list xs, v, u, p, h, r => by
    simp only [Den] at h
    obtain ⟨a, vs, rfl, q, d⟩ := h
    obtain rfl : u = Value.ref a := r
    obtain ⟨its, rv, ⟨o, n, ho, hc, _, hd⟩, _⟩ := I.list q.sq
    obtain ⟨as, ra⟩ := DenL.reads I xs vs its p d rv
    exact ⟨_, .list ho hc hd (by simpa using ra)⟩
  | .dict _, v, u, p, h, r => nomatch p
theorem DenL.reads (I : Inv X pins σ H s) : ∀ (xs : List PyData) (vs : List V) (us : List Value), PyData.plainAll xs = true → DenL (kwOf X) H xs vs → Vals vs us → ∃ as, ReadsAll s.heap us xs as
  | [], vs, us, _, h, r => by
    simp only [DenL] at h
    subst h
    cases r
    exact ⟨_, .nil⟩
  | x :: xs, vs, us, p, h, r => by
    simp only [DenL] at h
    obtain ⟨v, w, rfl, d, t⟩ := h
    have p : (x.plain && PyData.plainAll xs) = true := p
    have p1 := Bool.and_eq_true_iff.mp p
    cases r with
    | cons r1 r2 =>
      obtain ⟨as, ra⟩ := Den.reads I x v _ p1.1 d r1
      obtain ⟨bs, rb⟩ := DenL.reads I xs w _ p1.2 t r2
      exact ⟨_, .cons ra rb⟩
end
end
theorem DenL.length {K : KW} {H : Hp} : ∀ {xs : List PyData} {vs : List V}, DenL K H xs vs → vs.length = xs.length
  | [], vs, h => by
    simp only [DenL] at h
    subst h
    rfl
  | x :: xs, vs, h => by
    simp only [DenL] at h
    obtain ⟨v, r, rfl, _, t⟩ := h
    rw [List.length_cons, List.length_cons, DenL.length t]
theorem DenL.nil {K : KW} {H : Hp} : DenL K H [] [] := by simp only [DenL]
theorem DenL.cons {K : KW} {H : Hp} {x : PyData} {xs : List PyData} {v : V} {vs : List V} (h : Den K H x v) (t : DenL K H xs vs) : DenL K H (x :: xs) (v :: vs) := by
  simp only [DenL]
  exact ⟨v, vs, rfl, h, t⟩
theorem DenL.append {K : KW} {H : Hp} : ∀ {xs ys : List PyData} {vs ws : List V}, DenL K H xs vs → DenL K H ys ws → DenL K H (xs ++ ys) (vs ++ ws)
  | [], ys, vs, ws, h, t => by
    simp only [DenL] at h
    subst h
    exact t
  | x :: xs, ys, vs, ws, h, t => by
    simp only [DenL] at h
    obtain ⟨v, r, rfl, d, q⟩ := h
    exact .cons d (DenL.append q t)
theorem DenL.get {K : KW} {H : Hp} : ∀ {xs : List PyData} {vs : List V} {i : Nat} {x : PyData}, DenL K H xs vs → xs[i]? = some x → ∃ v, vs[i]? = some v ∧ Den K H x v
  | [], vs, i, x, h, e => by simp at e
  | y :: xs, vs, 0, x, h, e => by
    simp only [DenL] at h
    obtain ⟨v, r, rfl, d, q⟩ := h
    simp at e
    subst e
    exact ⟨v, rfl, d⟩
  | y :: xs, vs, i + 1, x, h, e => by
    simp only [DenL] at h
    obtain ⟨v, r, rfl, d, q⟩ := h
    exact DenL.get (i := i) q (by simpa using e)
theorem DenL.get' {K : KW} {H : Hp} : ∀ {xs : List PyData} {vs : List V} {i : Nat} {v : V}, DenL K H xs vs → vs[i]? = some v → ∃ x, xs[i]? = some x ∧ Den K H x v
  | [], vs, i, v, h, e => by
    simp only [DenL] at h
    subst h
    simp at e
  | y :: xs, vs, 0, v, h, e => by
    simp only [DenL] at h
    obtain ⟨w, r, rfl, d, q⟩ := h
    simp at e
    subst e
    exact ⟨y, rfl, d⟩
  | y :: xs, vs, i + 1, v, h, e => by
    simp only [DenL] at h
    obtain ⟨w, r, rfl, d, q⟩ := h
    exact DenL.get' (i := i) q (by simpa using e)
theorem DenL.take {K : KW} {H : Hp} : ∀ (n : Nat) {xs : List PyData} {vs : List V}, DenL K H xs vs → DenL K H (xs.take n) (vs.take n)
  | 0, xs, vs, h => by simp only [List.take_zero]; exact .nil
  | n + 1, [], vs, h => by
    simp only [DenL] at h
    subst h
    exact .nil
  | n + 1, x :: xs, vs, h => by
    simp only [DenL] at h
    obtain ⟨w, r, rfl, d, q⟩ := h
    exact .cons d (DenL.take n q)
theorem DenL.drop {K : KW} {H : Hp} : ∀ (n : Nat) {xs : List PyData} {vs : List V}, DenL K H xs vs → DenL K H (xs.drop n) (vs.drop n)
  | 0, xs, vs, h => h
  | n + 1, [], vs, h => by
    simp only [DenL] at h
    subst h
    exact .nil
  | n + 1, x :: xs, vs, h => by
    simp only [DenL] at h
    obtain ⟨w, r, rfl, d, q⟩ := h
    exact DenL.drop n q
theorem DenL.set {K : KW} {H : Hp} {y : PyData} {w : V} (hd : Den K H y w) : ∀ (n : Nat) {xs : List PyData} {vs : List V}, DenL K H xs vs → DenL K H (xs.set n y) (vs.set n w)
  | n, [], vs, h => by
    simp only [DenL] at h
    subst h
    exact .nil
  | 0, x :: xs, vs, h => by
    simp only [DenL] at h
    obtain ⟨w, r, rfl, d, q⟩ := h
    exact .cons hd q
  | n + 1, x :: xs, vs, h => by
    simp only [DenL] at h
    obtain ⟨w, r, rfl, d, q⟩ := h
    exact .cons d (DenL.set hd n q)

/-- freezing: a tracked list that is written no more -/
theorem freeze {X : Cx} {pins : List (Addr × Obj)} {σ : L2.St} {H : Hp} {s : Shared} {a : Addr} {vs : List V} (I : Inv X pins σ H s) (h : H a = some (.lst vs)) : ∃ o, Inv X pins σ (upd H a (.frz o (.lst vs))) s := by
  obtain ⟨z, its, n, r, e⟩ := I.hok a _ h
  refine ⟨{ cls := .type "list", data := .seq its.toArray n }, I.un (t' := s.toks) (h' := s.heap) ?_ ?_⟩
  · have ne : ∀ b, H b = none → b ≠ a := fun b eb z => by
      rw [z, h] at eb
      cases eb
    refine ⟨fun b ob q _ _ _ => q, fun b ob q _ _ _ => ⟨ob.slots, q⟩, fun b ob q hb _ => by rw [upd_ne (ne b hb)]; exact hb, fun b ob q _ => ⟨ob, q⟩, fun b xs q => ?_, fun b o u q => ?_, fun b ps q => ?_⟩
    · rw [upd_ne (ne_of q h (fun z => by cases z))]
      exact q
    · rw [upd_ne (ne_of q h (fun z => by cases z))]
      exact q
    · exact ⟨#[], by rw [upd_ne (ne_of q h (fun z => by cases z)), q]; simp⟩
  · intro b u q
    by_cases hb : b = a
    · subst hb
      rw [upd_same] at q
      cases q
      exact ⟨e, z, its, n, r, e⟩
    · rw [upd_ne hb] at q
      refine (I.hok b u q).stay (fun _ _ _ z => z) (fun c z => ?_) fun c xs z => ?_
      · rw [upd_ne (ne_of z h (fun z => by cases z))]
        exact z
      · rw [upd_ne (ne_of z h (fun z => by cases z))]
        exact z
end Cl

set_option Elab.async false
set_option maxRecDepth 100000
set_option maxHeartbeats 2000000
namespace Cl
open PySem PySem.Spec PyProof.Rows L2

/-! ### the state in the abstract heap -/
/-- what is fixed through a def's run: the written part, the module's names, what was tracked at the entry, the caller's objects -/
structure Gh where
  K : KW
  mg : Str → Option Value
  B : Hp
  m0 : List Addr
def VDen (K : KW) (H : Hp) (μ : List Addr) : CV → V → Prop
  | .d x, v => Den K H x v
  | .r n, v => ∃ a, μ[n]? = some a ∧ v = .ref a
  | .o w, v => v = w
abbrev VDenL (K : KW) (H : Hp) (μ : List Addr) : List CV → List V → Prop := Paired (VDen K H μ)
theorem pre_get {α : Type} {l l' : List α} (p : l <+: l') {n : Nat} {a : α} (h : l[n]? = some a) : l'[n]? = some a := by
  obtain ⟨t, rfl⟩ := p
  rw [List.getElem?_append_left (List.getElem?_eq_some_iff.mp h).1]
  exact h
theorem VDen.mono {K : KW} {H H' : Hp} {μ μ' : List Addr} (f : Fz H H') (p : μ <+: μ') {x : CV} {v : V} (h : VDen K H μ x v) : VDen K H' μ' x v := by
  cases x with
  | d x => exact Den.mono f x v h
  | r n =>
    obtain ⟨a, e, r⟩ := h
    exact ⟨a, pre_get p e, r⟩
  | o w => exact h
theorem VDenL.mono {K : KW} {H H' : Hp} {μ μ' : List Addr} (f : Fz H H') (p : μ <+: μ') {xs : List CV} {vs : List V} (h : VDenL K H μ xs vs) : VDenL K H' μ' xs vs := Paired.mapP h fun _ _ q => VDen.mono f p q
/-- the entries of the dict at a -/
def DicP {α : Type} (K : KW) (H : Hp) (R : α → V → Prop) (kvs : List (PyData × α)) (a : Addr) (ho : HO) : Prop :=
  (∃ kws : List (Key × V), ho = .dK kws ∧ Paired (fun p q => p.1 = keyD q.1 ∧ R p.2 q.2) kvs kws) ∨
  ∃ kws : List (NestedKey × Addr × V), ho = DKy K.w a kws ∧ Paired (fun p q => (q.1 = nk p.1 ∧ keyOk p.1 = true ∧ Den K H p.1 (.ref q.2.1)) ∧ R p.2 q.2.2) kvs kws
theorem DicP.mono {α : Type} {K : KW} {H H' : Hp} {R R' : α → V → Prop} {kvs : List (PyData × α)} {a : Addr} {ho : HO} (h : DicP K H R kvs a ho) (f : Fz H H') (g : ∀ a v, R a v → R' a v) : DicP K H' R' kvs a ho := by
  rcases h with ⟨kws, e, p⟩ | ⟨kws, e, p⟩
  · exact .inl ⟨kws, e, Paired.mapP p fun _ _ q => ⟨q.1, g _ _ q.2⟩⟩
  · exact .inr ⟨kws, e, Paired.mapP p fun _ _ q => ⟨⟨q.1.1, q.1.2.1, Den.mono f _ _ q.1.2.2⟩, g _ _ q.2⟩⟩
theorem denW_of {K : KW} {H : Hp} {κ : Type} {f : κ → PyData} : ∀ {kvs : List (PyData × PyData)} {kws : List (κ × V)}, Paired (fun p q => p.1 = f q.1 ∧ Den K H p.2 q.2) kvs kws → kvs.map (·.1) = kws.map (fun q => f q.1) ∧ DenW K H kvs (kws.map (·.2))
  | _, _, .nil => by
    simp only [DenW]
    exact ⟨rfl, rfl⟩
  | (k, x) :: _, (k', v) :: _, .cons h t => by
    obtain ⟨h1, h2⟩ := denW_of t
    obtain ⟨e, d⟩ := h
    simp only [DenW, List.map_cons]
    have e : k = f k' := e
    exact ⟨by rw [h1, e], _, _, rfl, d, h2⟩
theorem denW_to {K : KW} {H : Hp} {κ : Type} {f : κ → PyData} : ∀ {kvs : List (PyData × PyData)} {kws : List (κ × V)}, kvs.map (·.1) = kws.map (fun q => f q.1) → DenW K H kvs (kws.map (·.2)) → Paired (fun p q => p.1 = f q.1 ∧ Den K H p.2 q.2) kvs kws
  | [], [], _, _ => .nil
  | [], _ :: _, e, _ => by cases e
  | _ :: _, [], e, _ => by cases e
  | (k, x) :: kvs, (k', v) :: kws, e, h => by
    simp only [DenW, List.map_cons] at h
    obtain ⟨v', r, e1, d, h2⟩ := h
    have e3 : k :: kvs.map (·.1) = f k' :: kws.map (fun q => f q.1) := e
    injection e3 with e4 e5
    injection e1 with e6 e7
    subst e6 e7
    exact .cons ⟨e4, d⟩ (denW_to e5 h2)
theorem denE_of {K : KW} {H : Hp} : ∀ {kvs : List (PyData × PyData)} {kws : List (NestedKey × Addr × V)}, Paired (fun p q => (q.1 = nk p.1 ∧ keyOk p.1 = true ∧ Den K H p.1 (.ref q.2.1)) ∧ Den K H p.2 q.2.2) kvs kws → DenE K H kvs kws
  | _, _, .nil => by simp only [DenE]
  | (k, x) :: _, (n, b, v) :: _, .cons h t => by
    obtain ⟨⟨e, h1, h2⟩, h3⟩ := h
    have e : n = nk k := e
    subst e
    simp only [DenE]
    exact ⟨b, v, _, rfl, h1, h2, h3, denE_of t⟩
theorem denE_to {K : KW} {H : Hp} : ∀ {kvs : List (PyData × PyData)} {kws : List (NestedKey × Addr × V)}, DenE K H kvs kws → Paired (fun p q => (q.1 = nk p.1 ∧ keyOk p.1 = true ∧ Den K H p.1 (.ref q.2.1)) ∧ Den K H p.2 q.2.2) kvs kws
  | [], _, h => by
    simp only [DenE] at h
    subst h
    exact .nil
  | (k, x) :: kvs, _, h => by
    simp only [DenE] at h
    obtain ⟨b, v, r, rfl, h1, h2, h3, t⟩ := h
    exact .cons ⟨⟨rfl, h1, h2⟩, h3⟩ (denE_to t)
/-- a frozen dict -/
theorem den_dict {K : KW} {H : Hp} {kvs : List (PyData × PyData)} {ho : HO} {a : Addr} {o : Obj} (h : DicP K H (Den K H) kvs a ho) (ha : H a = some (.frz o ho)) : Den K H (.dict kvs) (.ref a) := by
  simp only [Den]
  rcases h with ⟨kws, rfl, p⟩ | ⟨kws, rfl, p⟩
  · obtain ⟨h1, h2⟩ := denW_of p
    exact ⟨a, o, rfl, .inl ⟨kws, ha, h1, h2⟩⟩
  · exact ⟨a, o, rfl, .inr ⟨kws, ha, denE_of p⟩⟩
theorem dict_den {K : KW} {H : Hp} {kvs : List (PyData × PyData)} {v : V} (h : Den K H (.dict kvs) v) : ∃ a o ho, v = .ref a ∧ H a = some (.frz o ho) ∧ DicP K H (Den K H) kvs a ho := by
  simp only [Den] at h
  obtain ⟨a, o, rfl, ⟨kws, h1, h2, h3⟩ | ⟨kws, h1, h3⟩⟩ := h
  · exact ⟨a, o, _, rfl, h1, .inl ⟨kws, rfl, denW_to h2 h3⟩⟩
  · exact ⟨a, o, _, rfl, h1, .inr ⟨kws, rfl, denE_to h3⟩⟩
def ODen (G : Gh) (H : Hp) (μ : List Addr) (a : Addr) : CO → HO → Prop
  | .lst xs, ho => ∃ vs, ho = .lst vs ∧ VDenL G.K H μ xs vs
  | .dic kvs, ho => DicP G.K H (VDen G.K H μ) kvs a ho
  | .ins C fs, ho => ∃ Ca dx gs, ho = .ins Ca dx gs ∧ G.mg C = some (.ref Ca) ∧ Paired (fun p q => p.1 = q.1 ∧ VDen G.K H μ p.2 q.2) fs gs
theorem ODen.mono {G : Gh} {H H' : Hp} {μ μ' : List Addr} (f : Fz H H') (p : μ <+: μ') {a : Addr} {o : CO} {ho : HO} (h : ODen G H μ a o ho) : ODen G H' μ' a o ho := by
  cases o with
  | lst xs =>
    obtain ⟨vs, e, q⟩ := h
    exact ⟨vs, e, VDenL.mono f p q⟩
  | dic kvs => exact DicP.mono h f fun _ _ q => VDen.mono f p q
  | ins C fs =>
    obtain ⟨Ca, dx, gs, e, g, q⟩ := h
    exact ⟨Ca, dx, gs, e, g, Paired.mapP q fun _ _ z => ⟨z.1, VDen.mono f p z.2⟩⟩
/-- objects that may be written -/
def Wr : HO → Prop
  | .lst _ => True
  | .dK _ => True
  | .dT _ => True
  | .ins _ _ _ => True
  | .ext _ => True
  | _ => False
theorem ODen.wr {G : Gh} {H : Hp} {μ : List Addr} {a : Addr} {o : CO} {ho : HO} (h : ODen G H μ a o ho) : Wr ho := by
  cases o with
  | lst xs =>
    obtain ⟨vs, rfl, _⟩ := h
    trivial
  | dic kvs =>
    rcases h with ⟨kws, rfl, _⟩ | ⟨kws, rfl, _⟩ <;> trivial
  | ins C fs =>
    obtain ⟨Ca, dx, gs, rfl, _⟩ := h
    trivial
theorem Wr.fz {H : Hp} {a : Addr} {ho o : HO} (w : Wr ho) (h : H a = some ho) : Fz H (upd H a o) := by
  refine ⟨fun b xs e => ?_, fun b q u e => ?_⟩
  · rw [upd_ne]
    · exact e
    · rintro rfl
      rw [h] at e
      cases e
      exact w
  · rw [upd_ne]
    · exact e
    · rintro rfl
      rw [h] at e
      cases e
      exact w
def Sl.own : Sl → Bool
  | .ol _ => true
  | .od _ => true
  | _ => false
/-- what lies at an owned slot's address -/
def SDen (K : KW) (H : Hp) (a : Addr) : Sl → HO → Prop
  | .ol xs, ho => ∃ vs, ho = .lst vs ∧ DenL K H xs vs
  | .od kvs, ho => DicP K H (Den K H) kvs a ho
  | _, _ => False
theorem SDen.mono {K : KW} {H H' : Hp} (f : Fz H H') {a : Addr} {s : Sl} {ho : HO} (h : SDen K H a s ho) : SDen K H' a s ho := by
  cases s with
  | ol xs =>
    obtain ⟨vs, e, q⟩ := h
    exact ⟨vs, e, DenL.mono f _ _ q⟩
  | od kvs => exact DicP.mono h f fun _ _ q => Den.mono f _ _ q
  | un => exact h
  | v x => exact h
theorem SDen.wr {K : KW} {H : Hp} {a : Addr} {s : Sl} {ho : HO} (h : SDen K H a s ho) : Wr ho := by
  cases s with
  | ol xs =>
    obtain ⟨vs, rfl, _⟩ := h
    trivial
  | od kvs =>
    rcases h with ⟨kws, rfl, _⟩ | ⟨kws, rfl, _⟩ <;> trivial
  | un => exact h.elim
  | v x => exact h.elim
structure Rel (G : Gh) (μ : List Addr) (c : CS) (σ : L2.St) (H : Hp) : Prop where
  len : c.sl.length = σ.length
  vl : ∀ (i : Nat) (x : CV), c.sl[i]? = some (.v x) → ∃ v, σ[i]? = some (some v) ∧ VDen G.K H μ x v
  ow : ∀ (i : Nat) (s : Sl), c.sl[i]? = some s → s.own = true → ∃ a ho, σ[i]? = some (some (.ref a)) ∧ H a = some ho ∧ SDen G.K H a s ho ∧ G.B a = none ∧ a ∉ μ
  ap : ∀ (i j : Nat) (s t : Sl) (a : Addr), i ≠ j → c.sl[i]? = some s → s.own = true → c.sl[j]? = some t → t.own = true → σ[i]? = some (some (.ref a)) → σ[j]? ≠ some (some (.ref a))
  hl : μ.length = c.hp.length
  hp : ∀ (n : Nat) (o : CO), c.hp[n]? = some o → ∃ a ho, μ[n]? = some a ∧ H a = some ho ∧ ODen G H μ a o ho
  nd : μ.Nodup
  pre : G.m0 <+: μ
  new : ∀ a : Addr, a ∈ μ → a ∉ G.m0 → G.B a = none
  fr : ∀ a o, G.B a = some o → a ∉ G.m0 → H a = some o
section
variable {G : Gh} {μ : List Addr} {c : CS} {σ : L2.St} {H H' : Hp} {p : Addr} {i : Nat}
theorem Rel.same (R : Rel G μ c σ H) (e : Same H H') : Rel G μ c σ H' where
  len := R.len
  vl := fun i x h => let ⟨v, a, b⟩ := R.vl i x h; ⟨v, a, b.mono (Fz.same e) (List.prefix_refl μ)⟩
  ow := fun i s h k => let ⟨a, ho, a1, a2, a3, a4, a5⟩ := R.ow i s h k; ⟨a, ho, a1, e _ _ a2, a3.mono (Fz.same e), a4, a5⟩
  ap := R.ap
  hl := R.hl
  hp := fun n o h => let ⟨a, ho, a1, a2, a3⟩ := R.hp n o h; ⟨a, ho, a1, e _ _ a2, a3.mono (Fz.same e) (List.prefix_refl μ)⟩
  nd := R.nd
  pre := R.pre
  new := R.new
  fr := fun a o h n => e _ _ (R.fr a o h n)
theorem same_new {o : HO} (hp : H p = none) : Same H (upd H p o) := fun b x e => by
  rw [upd_ne (ne_of_none e hp)]
  exact e
theorem Rel.tracked (R : Rel G μ c σ H) {a : Addr} (h : a ∈ μ) : ∃ ho, H a = some ho ∧ Wr ho := by
  obtain ⟨n, hn, e⟩ := List.getElem_of_mem h
  have hn' : n < c.hp.length := by rw [← R.hl]; exact hn
  obtain ⟨b, ho, a1, a2, a3⟩ := R.hp n _ (List.getElem?_eq_getElem hn')
  rw [List.getElem?_eq_getElem hn, e] at a1
  cases a1
  exact ⟨ho, a2, a3.wr⟩
theorem Rel.fresh (R : Rel G μ c σ H) (hp : H p = none) : p ∉ μ ∧ G.B p = none := by
  have h1 : p ∉ μ := fun z => by
    obtain ⟨ho, e, _⟩ := R.tracked z
    rw [hp] at e
    cases e
  refine ⟨h1, ?_⟩
  cases q : G.B p with
  | none => rfl
  | some o =>
    have n0 : p ∉ G.m0 := fun z => h1 (R.pre.subset z)
    have := R.fr p o q n0
    rw [hp] at this
    cases this
/-- a slot holds a value -/
theorem Rel.set (R : Rel G μ c σ H) {x : CV} {v : V} (h : VDen G.K H μ x v) : Rel G μ { c with sl := c.sl.set i (.v x) } (σ.set i (some v)) H where
  len := by
    show (c.sl.set i _).length = _
    rw [List.length_set, List.length_set, R.len]
  vl := fun j y e => by
    have e : (c.sl.set i (.v x))[j]? = some (.v y) := e
    by_cases hj : i = j
    · subst hj
      have hi : i < c.sl.length := by
        have := (List.getElem?_eq_some_iff.mp e).1
        rwa [List.length_set] at this
      rw [List.getElem?_set_self hi] at e
      cases e
      exact ⟨v, List.getElem?_set_self (by rw [← R.len]; exact hi), h⟩
    · rw [List.getElem?_set_ne hj] at e
      rw [List.getElem?_set_ne hj]
      exact R.vl j y e
  ow := fun j s e k => by
    have e : (c.sl.set i (.v x))[j]? = some s := e
    by_cases hj : i = j
    · subst hj
      have hi : i < c.sl.length := by
        have := (List.getElem?_eq_some_iff.mp e).1
        rwa [List.length_set] at this
      rw [List.getElem?_set_self hi] at e
      cases e
      cases k
    · rw [List.getElem?_set_ne hj] at e
      rw [List.getElem?_set_ne hj]
      exact R.ow j s e k
  ap := fun j l s t a n e1 k1 e2 k2 => by
    have e1 : (c.sl.set i (.v x))[j]? = some s := e1
    have e2 : (c.sl.set i (.v x))[l]? = some t := e2
    by_cases hj : i = j
    · subst hj
      have hi : i < c.sl.length := by
        have := (List.getElem?_eq_some_iff.mp e1).1
        rwa [List.length_set] at this
      rw [List.getElem?_set_self hi] at e1
      cases e1
      cases k1
    · by_cases hl : i = l
      · subst hl
        have hi : i < c.sl.length := by
          have := (List.getElem?_eq_some_iff.mp e2).1
          rwa [List.length_set] at this
        rw [List.getElem?_set_self hi] at e2
        cases e2
        cases k2
      · rw [List.getElem?_set_ne hj] at e1
        rw [List.getElem?_set_ne hl] at e2
        rw [List.getElem?_set_ne hj, List.getElem?_set_ne hl]
        exact R.ap j l s t a n e1 k1 e2 k2
  hl := R.hl
  hp := R.hp
  nd := R.nd
  pre := R.pre
  new := R.new
  fr := R.fr
/-- a slot forgotten -/
theorem Rel.forget (R : Rel G μ c σ H) {t : Option V} : Rel G μ { c with sl := c.sl.set i .un } (σ.set i t) H where
  len := by
    show (c.sl.set i _).length = _
    rw [List.length_set, List.length_set, R.len]
  vl := fun j y e => by
    have e : (c.sl.set i .un)[j]? = some (.v y) := e
    by_cases hj : i = j
    · subst hj
      have hi : i < c.sl.length := by
        have := (List.getElem?_eq_some_iff.mp e).1
        rwa [List.length_set] at this
      rw [List.getElem?_set_self hi] at e
      cases e
    · rw [List.getElem?_set_ne hj] at e
      rw [List.getElem?_set_ne hj]
      exact R.vl j y e
  ow := fun j s e k => by
    have e : (c.sl.set i .un)[j]? = some s := e
    by_cases hj : i = j
    · subst hj
      have hi : i < c.sl.length := by
        have := (List.getElem?_eq_some_iff.mp e).1
        rwa [List.length_set] at this
      rw [List.getElem?_set_self hi] at e
      cases e
      cases k
    · rw [List.getElem?_set_ne hj] at e
      rw [List.getElem?_set_ne hj]
      exact R.ow j s e k
  ap := fun j l s t a n e1 k1 e2 k2 => by
    have e1 : (c.sl.set i .un)[j]? = some s := e1
    have e2 : (c.sl.set i .un)[l]? = some t := e2
    by_cases hj : i = j
    · subst hj
      have hi : i < c.sl.length := by
        have := (List.getElem?_eq_some_iff.mp e1).1
        rwa [List.length_set] at this
      rw [List.getElem?_set_self hi] at e1
      cases e1
      cases k1
    · by_cases hl : i = l
      · subst hl
        have hi : i < c.sl.length := by
          have := (List.getElem?_eq_some_iff.mp e2).1
          rwa [List.length_set] at this
        rw [List.getElem?_set_self hi] at e2
        cases e2
        cases k2
      · rw [List.getElem?_set_ne hj] at e1
        rw [List.getElem?_set_ne hl] at e2
        rw [List.getElem?_set_ne hj, List.getElem?_set_ne hl]
        exact R.ap j l s t a n e1 k1 e2 k2
  hl := R.hl
  hp := R.hp
  nd := R.nd
  pre := R.pre
  new := R.new
  fr := R.fr
/-- a slot owns a new object -/
theorem Rel.setOwn (R : Rel G μ c σ H) {s : Sl} {ho : HO} (hs : s.own = true) (hp : H p = none) (h : SDen G.K H p s ho) : Rel G μ { c with sl := c.sl.set i s } (σ.set i (some (.ref p))) (upd H p ho) := by
  have sm : Same H (upd H p ho) := same_new hp
  obtain ⟨pm, pB⟩ := R.fresh hp
  have R1 := R.same sm
  have other : ∀ j t, i ≠ j → c.sl[j]? = some t → t.own = true → σ[j]? ≠ some (some (.ref p)) := fun j t n e k z => by
    obtain ⟨a, ho', a1, a2, _⟩ := R.ow j t e k
    rw [a1] at z
    cases z
    rw [hp] at a2
    cases a2
  refine ⟨?_, fun j y e => ?_, fun j t e k => ?_, fun j l t u a n e1 k1 e2 k2 => ?_, R1.hl, R1.hp, R1.nd, R1.pre, R1.new, R1.fr⟩
  · show (c.sl.set i _).length = _
    rw [List.length_set, List.length_set, R.len]
  · have e : (c.sl.set i s)[j]? = some (.v y) := e
    by_cases hj : i = j
    · subst hj
      have hi : i < c.sl.length := by
        have := (List.getElem?_eq_some_iff.mp e).1
        rwa [List.length_set] at this
      rw [List.getElem?_set_self hi] at e
      cases e
      cases hs
    · rw [List.getElem?_set_ne hj] at e
      rw [List.getElem?_set_ne hj]
      exact R1.vl j y e
  · have e : (c.sl.set i s)[j]? = some t := e
    by_cases hj : i = j
    · subst hj
      have hi : i < c.sl.length := by
        have := (List.getElem?_eq_some_iff.mp e).1
        rwa [List.length_set] at this
      rw [List.getElem?_set_self hi] at e
      cases e
      exact ⟨p, ho, List.getElem?_set_self (by rw [← R.len]; exact hi), upd_same, h.mono (Fz.same sm), pB, pm⟩
    · rw [List.getElem?_set_ne hj] at e
      rw [List.getElem?_set_ne hj]
      exact R1.ow j t e k
  · have e1 : (c.sl.set i s)[j]? = some t := e1
    have e2 : (c.sl.set i s)[l]? = some u := e2
    by_cases hj : i = j
    · subst hj
      have hl : i ≠ l := n
      have hi : i < c.sl.length := by
        have := (List.getElem?_eq_some_iff.mp e1).1
        rwa [List.length_set] at this
      rw [List.getElem?_set_ne hl] at e2
      rw [List.getElem?_set_self (by rw [← R.len]; exact hi), List.getElem?_set_ne hl]
      intro z
      cases z
      exact other l u hl e2 k2
    · by_cases hl : i = l
      · subst hl
        have hi : i < c.sl.length := by
          have := (List.getElem?_eq_some_iff.mp e2).1
          rwa [List.length_set] at this
        rw [List.getElem?_set_ne hj] at e1
        rw [List.getElem?_set_self (by rw [← R.len]; exact hi), List.getElem?_set_ne hj]
        intro z w
        cases w
        exact other j t hj e1 k1 z
      · rw [List.getElem?_set_ne hj] at e1
        rw [List.getElem?_set_ne hl] at e2
        rw [List.getElem?_set_ne hj, List.getElem?_set_ne hl]
        exact R.ap j l t u a n e1 k1 e2 k2
/-- an owned object is changed -/
theorem Rel.chOwn (R : Rel G μ c σ H) {s t : Sl} {ho : HO} {a : Addr} (hi : c.sl[i]? = some s) (hs : s.own = true) (ha : σ[i]? = some (some (.ref a))) (ht : t.own = true) (h : SDen G.K (upd H a ho) a t ho) :
    Rel G μ { c with sl := c.sl.set i t } σ (upd H a ho) ∧ Fz H (upd H a ho) := by
  obtain ⟨a', ho', a1, a2, a3, a4, a5⟩ := R.ow i s hi hs
  rw [ha] at a1
  cases a1
  have fz : Fz H (upd H a ho) := a3.wr.fz a2
  have hil : i < c.sl.length := (List.getElem?_eq_some_iff.mp hi).1
  refine ⟨⟨?_, fun j y e => ?_, fun j u e k => ?_, fun j l u w b n e1 k1 e2 k2 => ?_, R.hl, fun n o e => ?_, R.nd, R.pre, R.new, fun b o e n => ?_⟩, fz⟩
  · show (c.sl.set i _).length = _
    rw [List.length_set, R.len]
  · have e : (c.sl.set i t)[j]? = some (.v y) := e
    by_cases hj : i = j
    · subst hj
      rw [List.getElem?_set_self hil] at e
      cases e
      cases ht
    · rw [List.getElem?_set_ne hj] at e
      obtain ⟨v, b1, b2⟩ := R.vl j y e
      exact ⟨v, b1, b2.mono fz (List.prefix_refl _)⟩
  · have e : (c.sl.set i t)[j]? = some u := e
    by_cases hj : i = j
    · subst hj
      rw [List.getElem?_set_self hil] at e
      cases e
      exact ⟨a, ho, ha, upd_same, h, a4, a5⟩
    · rw [List.getElem?_set_ne hj] at e
      obtain ⟨b, hb, b1, b2, b3, b4, b5⟩ := R.ow j u e k
      refine ⟨b, hb, b1, ?_, b3.mono fz, b4, b5⟩
      rw [upd_ne]
      · exact b2
      · rintro rfl
        exact R.ap i j s u b hj hi hs e k ha b1
  · have e1 : (c.sl.set i t)[j]? = some u := e1
    have e2 : (c.sl.set i t)[l]? = some w := e2
    have f1 : ∃ u', c.sl[j]? = some u' ∧ u'.own = true := by
      by_cases hj : i = j
      · subst hj
        exact ⟨s, hi, hs⟩
      · rw [List.getElem?_set_ne hj] at e1
        exact ⟨u, e1, k1⟩
    have f2 : ∃ w', c.sl[l]? = some w' ∧ w'.own = true := by
      by_cases hj : i = l
      · subst hj
        exact ⟨s, hi, hs⟩
      · rw [List.getElem?_set_ne hj] at e2
        exact ⟨w, e2, k2⟩
    obtain ⟨u', g1, g2⟩ := f1
    obtain ⟨w', g3, g4⟩ := f2
    exact R.ap j l u' w' b n g1 g2 g3 g4
  · obtain ⟨b, hb, b1, b2, b3⟩ := R.hp n o e
    refine ⟨b, hb, b1, ?_, b3.mono fz (List.prefix_refl _)⟩
    rw [upd_ne]
    · exact b2
    · rintro rfl
      exact a5 (List.mem_of_getElem? b1)
  · rw [upd_ne]
    · exact R.fr b o e n
    · rintro rfl
      rw [a4] at e
      cases e
/-- an owned object is frozen -/
theorem Rel.chFrz (R : Rel G μ c σ H) {s : Sl} {x : CV} {ho : HO} {o : Obj} {a : Addr} (hi : c.sl[i]? = some s) (hs : s.own = true) (ha : σ[i]? = some (some (.ref a))) (hH : H a = some ho)
    (hx : VDen G.K (upd H a (.frz o ho)) μ x (.ref a)) :
    Rel G μ { c with sl := c.sl.set i (.v x) } σ (upd H a (.frz o ho)) ∧ Fz H (upd H a (.frz o ho)) := by
  obtain ⟨a', ho', a1, a2, a3, a4, a5⟩ := R.ow i _ hi hs
  rw [ha] at a1
  cases a1
  rw [hH] at a2
  cases a2
  have fz : Fz H (upd H a (.frz o ho)) := a3.wr.fz hH
  have hil : i < c.sl.length := (List.getElem?_eq_some_iff.mp hi).1
  refine ⟨⟨?_, fun j y e => ?_, fun j u e k => ?_, fun j l u w b n e1 k1 e2 k2 => ?_, R.hl, fun n o e => ?_, R.nd, R.pre, R.new, fun b o e n => ?_⟩, fz⟩
  · show (c.sl.set i _).length = _
    rw [List.length_set, R.len]
  · have e : (c.sl.set i (.v x))[j]? = some (.v y) := e
    by_cases hj : i = j
    · subst hj
      rw [List.getElem?_set_self hil] at e
      cases e
      exact ⟨.ref a, ha, hx⟩
    · rw [List.getElem?_set_ne hj] at e
      obtain ⟨v, b1, b2⟩ := R.vl j y e
      exact ⟨v, b1, b2.mono fz (List.prefix_refl _)⟩
  · have e : (c.sl.set i (.v x))[j]? = some u := e
    by_cases hj : i = j
    · subst hj
      rw [List.getElem?_set_self hil] at e
      cases e
      cases k
    · rw [List.getElem?_set_ne hj] at e
      obtain ⟨b, hb, b1, b2, b3, b4, b5⟩ := R.ow j u e k
      refine ⟨b, hb, b1, ?_, b3.mono fz, b4, b5⟩
      rw [upd_ne]
      · exact b2
      · rintro rfl
        exact R.ap i j _ u b hj hi hs e k ha b1
  · have e1 : (c.sl.set i (.v x))[j]? = some u := e1
    have e2 : (c.sl.set i (.v x))[l]? = some w := e2
    by_cases hj : i = j
    · subst hj
      rw [List.getElem?_set_self hil] at e1
      cases e1
      cases k1
    · by_cases hl : i = l
      · subst hl
        rw [List.getElem?_set_self hil] at e2
        cases e2
        cases k2
      · rw [List.getElem?_set_ne hj] at e1
        rw [List.getElem?_set_ne hl] at e2
        exact R.ap j l u w b n e1 k1 e2 k2
  · obtain ⟨b, hb, b1, b2, b3⟩ := R.hp n _ e
    refine ⟨b, hb, b1, ?_, b3.mono fz (List.prefix_refl _)⟩
    rw [upd_ne]
    · exact b2
    · rintro rfl
      exact a5 (List.mem_of_getElem? b1)
  · rw [upd_ne]
    · exact R.fr b _ e n
    · rintro rfl
      rw [a4] at e
      cases e
/-- an object of the clean heap is changed -/
theorem Rel.chHp (R : Rel G μ c σ H) {n : Nat} {o' : CO} {ho : HO} {a : Addr} (ha : μ[n]? = some a) (h : ODen G (upd H a ho) μ a o' ho) :
    Rel G μ { c with hp := c.hp.set n o' } σ (upd H a ho) ∧ Fz H (upd H a ho) := by
  have hn : n < μ.length := (List.getElem?_eq_some_iff.mp ha).1
  obtain ⟨o, ho1⟩ : ∃ o, c.hp[n]? = some o := ⟨_, List.getElem?_eq_getElem (by rw [← R.hl]; exact hn)⟩
  obtain ⟨a', hb, b1, b2, b3⟩ := R.hp n o ho1
  rw [ha] at b1
  cases b1
  have am : a ∈ μ := List.mem_of_getElem? ha
  have fz : Fz H (upd H a ho) := b3.wr.fz b2
  refine ⟨⟨R.len, fun j y e => ?_, fun j u e k => ?_, R.ap, ?_, fun m u e => ?_, R.nd, R.pre, R.new, fun b u e k => ?_⟩, fz⟩
  · obtain ⟨v, b1, b2⟩ := R.vl j y e
    exact ⟨v, b1, b2.mono fz (List.prefix_refl _)⟩
  · obtain ⟨b, hb, b1, b2, b3, b4, b5⟩ := R.ow j u e k
    refine ⟨b, hb, b1, ?_, b3.mono fz, b4, b5⟩
    rw [upd_ne]
    · exact b2
    · rintro rfl
      exact b5 am
  · show _ = (c.hp.set n o').length
    rw [List.length_set]
    exact R.hl
  · have e : (c.hp.set n o')[m]? = some u := e
    by_cases hm : n = m
    · subst hm
      rw [List.getElem?_set_self (by rw [← R.hl]; exact hn)] at e
      cases e
      exact ⟨a, ho, ha, upd_same, h⟩
    · rw [List.getElem?_set_ne hm] at e
      obtain ⟨b, hb, c1, c2, c3⟩ := R.hp m u e
      refine ⟨b, hb, c1, ?_, c3.mono fz (List.prefix_refl _)⟩
      rw [upd_ne]
      · exact c2
      · rintro rfl
        have h1 := (List.getElem?_eq_some_iff.mp ha)
        have h2 := (List.getElem?_eq_some_iff.mp c1)
        obtain ⟨q1, e1⟩ := h1
        obtain ⟨q2, e2⟩ := h2
        exact hm ((List.getElem_inj R.nd).mp (e1.trans e2.symm))
  · by_cases hb : b = a
    · subst hb
      exact absurd (R.new b am k) (by rw [e]; simp)
    · rw [upd_ne hb]
      exact R.fr b u e k
/-- a new object of the clean heap -/
theorem Rel.newHp (R : Rel G μ c σ H) {o : CO} {ho : HO} (hp : H p = none) (h : ODen G (upd H p ho) (μ ++ [p]) p o ho) :
    Rel G (μ ++ [p]) { c with hp := c.hp ++ [o] } σ (upd H p ho) ∧ Fz H (upd H p ho) ∧ μ <+: μ ++ [p] := by
  have sm : Same H (upd H p ho) := same_new hp
  obtain ⟨pm, pB⟩ := R.fresh hp
  have pf : μ <+: μ ++ [p] := List.prefix_append _ _
  refine ⟨⟨R.len, fun j y e => ?_, fun j u e k => ?_, R.ap, ?_, fun m u e => ?_, ?_, R.pre.trans pf, fun b hb k => ?_, fun b u e k => sm _ _ (R.fr b u e k)⟩, Fz.same sm, pf⟩
  · obtain ⟨v, b1, b2⟩ := R.vl j y e
    exact ⟨v, b1, b2.mono (Fz.same sm) pf⟩
  · obtain ⟨b, hb, b1, b2, b3, b4, b5⟩ := R.ow j u e k
    refine ⟨b, hb, b1, sm _ _ b2, b3.mono (Fz.same sm), b4, fun z => ?_⟩
    rcases List.mem_append.mp z with z | z
    · exact b5 z
    · have : b = p := by simpa using z
      subst this
      rw [hp] at b2
      cases b2
  · show _ = (c.hp ++ [o]).length
    rw [List.length_append, List.length_append, R.hl]
    rfl
  · have e : (c.hp ++ [o])[m]? = some u := e
    by_cases hm : m < c.hp.length
    · rw [List.getElem?_append_left hm] at e
      obtain ⟨b, hb, c1, c2, c3⟩ := R.hp m u e
      exact ⟨b, hb, pre_get pf c1, sm _ _ c2, c3.mono (Fz.same sm) pf⟩
    · rw [List.getElem?_append_right (by omega)] at e
      have hz : m - c.hp.length = 0 := by
        have := (List.getElem?_eq_some_iff.mp e).1
        simp at this
        omega
      rw [hz] at e
      have eo : o = u := by simpa using e
      subst eo
      refine ⟨p, ho, ?_, upd_same, h⟩
      rw [List.getElem?_append_right (by rw [R.hl]; omega), R.hl, hz]
      rfl
  · rw [List.nodup_append]
    refine ⟨R.nd, by simp, fun a ha b hb => ?_⟩
    have : b = p := by simpa using hb
    subst this
    rintro rfl
    exact pm ha
  · rcases List.mem_append.mp hb with z | z
    · exact R.new b z k
    · have : b = p := by simpa using z
      subst this
      exact pB
end
end Cl

set_option Elab.async false
set_option maxRecDepth 100000
set_option maxHeartbeats 2000000
namespace Cl
open PySem PySem.Spec PyProof.Rows L2
abbrev LSt := L2.St

/-! ### runs -/
/-- what is wanted around a def's run: what was tracked at its entry, the caller's objects, the wish about exceptions -/
structure Wn where
  B : Hp
  m0 : List Addr
  W : WX
abbrev Wn.q (N : Wn) : Wn := { N with W := fun _ _ _ _ => False }
abbrev gh (X : Cx) (N : Wn) : Gh := ⟨kwOf X, X.mg, N.B, N.m0⟩
def XDen (G : Gh) (H : Hp) (e : XC) (cls : Value) (d : Option Addr) : Prop :=
  G.mg e.cls = some cls ∧ ((e.fs = [] ∧ d = none) ∨ e.fs ≠ [] ∧ ∃ dd gs, d = some dd ∧ H dd = some (.xd gs) ∧ Paired (fun p q => p.1 = q.1 ∧ Den G.K H p.2 q.2) e.fs gs)
def RunAt (G : Gh) (W : WX) {α : Type} (m : Mo α) (μ : List Addr) (c : CS) (σ : LSt) (H : Hp) (P : α → List Addr → CS → Hp → Prop) : Prop := match m c with
  | .ok a c1 => ∀ μ1 H1, μ <+: μ1 → Fz H H1 → Rel G μ1 c1 σ H1 → P a μ1 c1 H1
  | .ex e c1 => ∀ μ1 cls d H1, μ <+: μ1 → Fz H H1 → Rel G μ1 c1 σ H1 → XDen G H1 e cls d → W cls d σ H1
  | .no => False
section
variable {G : Gh} {W : WX} {α β : Type} {μ : List Addr} {c : CS} {σ : LSt} {H : Hp}
theorem RunAt.imp {m : Mo α} {P P' : α → List Addr → CS → Hp → Prop} (h : RunAt G W m μ c σ H P) (f : ∀ a μ1 c1 H1, μ <+: μ1 → Fz H H1 → Rel G μ1 c1 σ H1 → P a μ1 c1 H1 → P' a μ1 c1 H1) : RunAt G W m μ c σ H P' := by
  unfold RunAt at h ⊢
  cases e : m c with
  | ok a c1 =>
    rw [e] at h
    exact fun μ1 H1 p q r => f a μ1 c1 H1 p q r (h μ1 H1 p q r)
  | ex x c1 =>
    rw [e] at h
    exact h
  | no =>
    rw [e] at h
    exact h
theorem RunAt.bind {m : Mo α} {f : α → Mo β} {P : β → List Addr → CS → Hp → Prop} (h : RunAt G W (mBind m f) μ c σ H P) : RunAt G W m μ c σ H fun a μ1 c1 H1 => RunAt G W (f a) μ1 c1 σ H1 P := by
  unfold RunAt at h ⊢
  unfold mBind at h
  cases e : m c with
  | ok a c1 =>
    rw [e] at h
    dsimp only at h ⊢
    intro μ1 H1 p q r
    cases e2 : f a c1 with
    | ok b c2 =>
      rw [e2] at h
      exact fun μ2 H2 p2 q2 r2 => h μ2 H2 (p.trans p2) (q.trans q2) r2
    | ex x c2 =>
      rw [e2] at h
      exact fun μ2 cls d H2 p2 q2 r2 => h μ2 cls d H2 (p.trans p2) (q.trans q2) r2
    | no =>
      rw [e2] at h
      exact h
  | ex x c1 =>
    rw [e] at h
    exact h
  | no =>
    rw [e] at h
    exact h
/-- a step that gives a value and changes nothing but, perhaps, lays new objects -/
theorem RunAt.opt {o : Option α} {P : α → List Addr → CS → Hp → Prop} (h : RunAt G W (mOpt o) μ c σ H P) : ∃ a, o = some a ∧ ∀ H1, Fz H H1 → Rel G μ c σ H1 → P a μ c H1 := by
  unfold RunAt mOpt at h
  cases o with
  | none => exact h.elim
  | some a => exact ⟨a, rfl, fun H1 q r => h μ H1 (List.prefix_refl _) q r⟩
theorem RunAt.ret {a : α} {P : α → List Addr → CS → Hp → Prop} (h : RunAt G W (mRet a) μ c σ H P) : ∀ H1, Fz H H1 → Rel G μ c σ H1 → P a μ c H1 := by
  unfold RunAt mRet at h
  exact fun H1 q r => h μ H1 (List.prefix_refl _) q r
end

/-! ### the readings -/
def tM (G : Gh) (W : WX) (m : Mo CV) : TE := fun σ H Q => ∃ μ c, Rel G μ c σ H ∧ RunAt G W m μ c σ H fun x μ1 _ H1 => ∀ v, VDen G.K H1 μ1 x v → Q v H1
/-- what may be read on the spot: a value, a list or a dict that is still written elsewhere -/
inductive BV where
  | c (x : CV)
  | l (xs : List PyData)
  | k (kvs : List (PyData × PyData))
def BDen (K : KW) (H : Hp) (μ : List Addr) : BV → V → Prop
  | .c x, v => VDen K H μ x v
  | .l xs, v => ∃ a vs, v = .ref a ∧ H a = some (.lst vs) ∧ DenL K H xs vs
  | .k kvs, v => ∃ a ho, v = .ref a ∧ H a = some ho ∧ DicP K H (Den K H) kvs a ho
def tBo (G : Gh) (W : WX) (m : Mo BV) : TE := fun σ H Q => ∃ μ c, Rel G μ c σ H ∧ RunAt G W m μ c σ H fun x μ1 c1 H1 => ∀ v, BDen G.K H1 μ1 x v → Q v H1
/-- a new list -/
def tF (G : Gh) (W : WX) (m : Mo (List PyData)) : TE := fun σ H Q => ∃ μ c, Rel G μ c σ H ∧ RunAt G W m μ c σ H fun xs _ _ H1 => ∀ p vs, H1 p = none → DenL G.K H1 xs vs → Q (.ref p) (upd H1 p (.lst vs))
def tT (G : Gh) (W : WX) (m : Mo Bool) : TT := fun σ H Q => ∃ μ c, Rel G μ c σ H ∧ RunAt G W m μ c σ H fun b _ _ H1 => Q b H1
def tAr (G : Gh) (W : WX) (m : Mo (List CV)) : TA := fun σ H Q => ∃ μ c, Rel G μ c σ H ∧ RunAt G W m μ c σ H fun xs μ1 _ H1 => ∀ vs, VDenL G.K H1 μ1 xs vs → Q vs H1
inductive RS where
  | nx (c : CS)
  | rt (x : CV) (c : CS)
  | bk (c : CS)
  | ct (c : CS)
  | ex (e : XC) (c : CS)
  | no
abbrev MS := CS → RS
def RunS (G : Gh) (W : WX) (r : RS) (μ : List Addr) (H : Hp) (D : Ends) : Prop := match r with
  | .nx c1 => ∀ μ1 σ1 H1, μ <+: μ1 → Fz H H1 → Rel G μ1 c1 σ1 H1 → D.nx σ1 H1
  | .rt x c1 => ∀ μ1 σ1 H1 v, μ <+: μ1 → Fz H H1 → Rel G μ1 c1 σ1 H1 → VDen G.K H1 μ1 x v → D.rt v H1
  | .bk c1 => ∀ μ1 σ1 H1, μ <+: μ1 → Fz H H1 → Rel G μ1 c1 σ1 H1 → D.bk σ1 H1
  | .ct c1 => ∀ μ1 σ1 H1, μ <+: μ1 → Fz H H1 → Rel G μ1 c1 σ1 H1 → D.ct σ1 H1
  | .ex e c1 => ∀ μ1 σ1 cls d H1, μ <+: μ1 → Fz H H1 → Rel G μ1 c1 σ1 H1 → XDen G H1 e cls d → W cls d σ1 H1
  | .no => False
def tSt (G : Gh) (W : WX) (m : MS) : TS := fun D σ H => ∃ μ c, Rel G μ c σ H ∧ RunS G W (m c) μ H D
abbrev CE (X : Cx) (N : Wn) (e : Expr) (m : Mo CV) : Prop := PE X e (tM (gh X N) N.W m)
abbrev CB (X : Cx) (N : Wn) (e : Expr) (m : Mo BV) : Prop := PE X e (tBo (gh X N) N.W m)
abbrev CF (X : Cx) (N : Wn) (e : Expr) (m : Mo (List PyData)) : Prop := PE X e (tF (gh X N) N.W m)
abbrev CT (X : Cx) (N : Wn) (e : Expr) (m : Mo Bool) : Prop := PT X e (tT (gh X N) N.W m)
abbrev CA (X : Cx) (N : Wn) (es : List Expr) (m : Mo (List CV)) : Prop := PA X es (tAr (gh X N) N.W m)
abbrev CS1 (X : Cx) (N : Wn) (st : Stmt) (m : MS) : Prop := PS X st (tSt (gh X N) N.W m)
abbrev CSs (X : Cx) (N : Wn) (st : List Stmt) (m : MS) : Prop := PSs X st (tSt (gh X N) N.W m)

section
variable {X : Cx} {N : Wn} {pins : List (Addr × Obj)} {s : Shared} {σ : LSt} {H : Hp} {μ : List Addr} {c : CS} {e : Expr}
theorem use_e {m : Mo CV} {P : CV → List Addr → CS → Hp → Prop} (h : CE X N e m) (I : Inv X pins σ H s) (R : Rel (gh X N) μ c σ H) (p : RunAt (gh X N) N.W m μ c σ H P) :
    wpAny (model X.prog X.w) X.A (eval e X.env) (fun u s1 => ∃ v x μ1 c1 H1, Inv X pins σ H1 s1 ∧ RelV v u ∧ VDen (kwOf X) H1 μ1 x v ∧ Rel (gh X N) μ1 c1 σ H1 ∧ μ <+: μ1 ∧ Fz H H1 ∧ P x μ1 c1 H1) X.xe s := by
  refine thn (h.run pins s σ H (fun v H1 => ∃ x μ1 c1, VDen (kwOf X) H1 μ1 x v ∧ Rel (gh X N) μ1 c1 σ H1 ∧ μ <+: μ1 ∧ Fz H H1 ∧ P x μ1 c1 H1) I ⟨μ, c, R, p.imp fun x μ1 c1 H1 a b r q v d => ⟨x, μ1, c1, d, r, a, b, q⟩⟩) fun u s1 ⟨v, H1, I1, r1, x, μ1, c1, d, r, a, b, q⟩ => ⟨v, x, μ1, c1, H1, I1, r1, d, r, a, b, q⟩
theorem use_b {m : Mo BV} {P : BV → List Addr → CS → Hp → Prop} (h : CB X N e m) (I : Inv X pins σ H s) (R : Rel (gh X N) μ c σ H) (p : RunAt (gh X N) N.W m μ c σ H P) :
    wpAny (model X.prog X.w) X.A (eval e X.env) (fun u s1 => ∃ v x μ1 c1 H1, Inv X pins σ H1 s1 ∧ RelV v u ∧ BDen (kwOf X) H1 μ1 x v ∧ Rel (gh X N) μ1 c1 σ H1 ∧ μ <+: μ1 ∧ Fz H H1 ∧ P x μ1 c1 H1) X.xe s := by
  refine thn (h.run pins s σ H (fun v H1 => ∃ x μ1 c1, BDen (kwOf X) H1 μ1 x v ∧ Rel (gh X N) μ1 c1 σ H1 ∧ μ <+: μ1 ∧ Fz H H1 ∧ P x μ1 c1 H1) I ⟨μ, c, R, p.imp fun x μ1 c1 H1 a b r q v d => ⟨x, μ1, c1, d, r, a, b, q⟩⟩) fun u s1 ⟨v, H1, I1, r1, x, μ1, c1, d, r, a, b, q⟩ => ⟨v, x, μ1, c1, H1, I1, r1, d, r, a, b, q⟩
theorem use_f {m : Mo (List PyData)} {P : List PyData → List Addr → CS → Hp → Prop} (h : CF X N e m) (I : Inv X pins σ H s) (R : Rel (gh X N) μ c σ H) (p : RunAt (gh X N) N.W m μ c σ H P) :
    wpAny (model X.prog X.w) X.A (eval e X.env) (fun u s1 => ∃ q vs xs μ1 c1 H1, u = Value.ref q ∧ Inv X pins σ (upd H1 q (.lst vs)) s1 ∧ H1 q = none ∧ DenL (kwOf X) H1 xs vs ∧ Rel (gh X N) μ1 c1 σ H1 ∧ μ <+: μ1 ∧ Fz H H1 ∧ P xs μ1 c1 H1) X.xe s := by
  refine thn (h.run pins s σ H (fun v H2 => ∃ q vs xs μ1 c1 H1, v = .ref q ∧ H2 = upd H1 q (.lst vs) ∧ H1 q = none ∧ DenL (kwOf X) H1 xs vs ∧ Rel (gh X N) μ1 c1 σ H1 ∧ μ <+: μ1 ∧ Fz H H1 ∧ P xs μ1 c1 H1) I ⟨μ, c, R, p.imp fun x μ1 c1 H1 a b r q v vs d e => ⟨v, vs, x, μ1, c1, H1, rfl, rfl, d, e, r, a, b, q⟩⟩) fun u s1 ⟨v, H2, I1, r1, q, vs, xs, μ1, c1, H1, e1, e2, rest⟩ => ?_
  subst e1 e2
  exact ⟨q, vs, xs, μ1, c1, H1, r1, I1, rest⟩
theorem use_t {m : Mo Bool} {P : Bool → List Addr → CS → Hp → Prop} (h : CT X N e m) (I : Inv X pins σ H s) (R : Rel (gh X N) μ c σ H) (p : RunAt (gh X N) N.W m μ c σ H P) :
    wpAny (model X.prog X.w) X.A (isTrue e X.env (eval e X.env)) (fun b s1 => ∃ μ1 c1 H1, Inv X pins σ H1 s1 ∧ Rel (gh X N) μ1 c1 σ H1 ∧ μ <+: μ1 ∧ Fz H H1 ∧ P b μ1 c1 H1) X.xe s := by
  refine thn (h.run pins s σ H (fun b H1 => ∃ μ1 c1, Rel (gh X N) μ1 c1 σ H1 ∧ μ <+: μ1 ∧ Fz H H1 ∧ P b μ1 c1 H1) I ⟨μ, c, R, p.imp fun x μ1 c1 H1 a b r q => ⟨μ1, c1, r, a, b, q⟩⟩) fun u s1 ⟨H1, I1, μ1, c1, r, a, b, q⟩ => ⟨μ1, c1, H1, I1, r, a, b, q⟩
theorem use_a {m : Mo (List CV)} {es : List Expr} {pos : Pos} {P : List CV → List Addr → CS → Hp → Prop} (h : CA X N es m) (I : Inv X pins σ H s) (R : Rel (gh X N) μ c σ H) (p : RunAt (gh X N) N.W m μ c σ H P) :
    wpAny (model X.prog X.w) X.A (spliced (backTo pos (starEach es X.env))) (fun us s1 => ∃ vs xs μ1 c1 H1, Inv X pins σ H1 s1 ∧ Vals vs us ∧ VDenL (kwOf X) H1 μ1 xs vs ∧ Rel (gh X N) μ1 c1 σ H1 ∧ μ <+: μ1 ∧ Fz H H1 ∧ P xs μ1 c1 H1) X.xe s := by
  refine thn (h.run pos pins s σ H (fun vs H1 => ∃ xs μ1 c1, VDenL (kwOf X) H1 μ1 xs vs ∧ Rel (gh X N) μ1 c1 σ H1 ∧ μ <+: μ1 ∧ Fz H H1 ∧ P xs μ1 c1 H1) I ⟨μ, c, R, p.imp fun x μ1 c1 H1 a b r q v d => ⟨x, μ1, c1, d, r, a, b, q⟩⟩) fun u s1 ⟨v, H1, I1, r1, x, μ1, c1, d, r, a, b, q⟩ => ⟨v, x, μ1, c1, H1, I1, r1, d, r, a, b, q⟩
theorem PE.tm {t t' : TE} (h : PE X e t) (f : ∀ σ H Q, t' σ H Q → t σ H Q) : PE X e t' := ⟨fun pins s σ H Q I q => h.run pins s σ H Q I (f _ _ _ q)⟩
theorem PT.tm {t t' : TT} (h : PT X e t) (f : ∀ σ H Q, t' σ H Q → t σ H Q) : PT X e t' := ⟨fun pins s σ H Q I q => h.run pins s σ H Q I (f _ _ _ q)⟩
theorem PS.tm {st : Stmt} {t t' : TS} (h : PS X st t) (f : ∀ D σ H, t' D σ H → t D σ H) : PS X st t' := ⟨fun pins s σ H D I q => h.run pins s σ H D I (f _ _ _ q)⟩
theorem PSs.tm {st : List Stmt} {t t' : TS} (h : PSs X st t) (f : ∀ D σ H, t' D σ H → t D σ H) : PSs X st t' := ⟨fun pins s σ H D I q => h.run pins s σ H D I (f _ _ _ q)⟩

/-! ### names and constants -/
def mVar (i : Nat) : Mo CV := fun c => match c.sl[i]? with
  | some (.v x) => .ok x c
  | some (.ol xs) => .ok (.d (.list xs)) { c with sl := c.sl.set i (.v (.d (.list xs))) }
  | some (.od kvs) => .ok (.d (.dict kvs)) { c with sl := c.sl.set i (.v (.d (.dict kvs))) }
  | _ => .no
/-- read on the spot -/
def mPeek (i : Nat) : Mo BV := fun c => match c.sl[i]? with
  | some (.v x) => .ok (.c x) c
  | some (.ol xs) => .ok (.l xs) c
  | some (.od kvs) => .ok (.k kvs) c
  | _ => .no
theorem ce_var (i : Nat) {x : Str} {pos : Pos} (hN : X.N[i]? = some x := by rfl) (hv : Vis X.env.scope x := by first | exact Or.inl rfl | exact Or.inr (Or.inl rfl) | exact Or.inr (Or.inr rfl)) (hd : (x == ("__debug__" : Str)) = false := by decide)
    (hcd : (x == ("__classdict__" : Str)) = false := by decide) : CE X N (.Name x pos) (mVar i) := by
  refine ⟨fun pins s σ H Q I h => ?_⟩
  obtain ⟨μ, c, R, p⟩ := h
  unfold RunAt mVar at p
  cases e : c.sl[i]? with
  | none =>
    rw [e] at p
    exact p.elim
  | some sl =>
    rw [e] at p
    cases sl with
    | un => exact p.elim
    | od kvs =>
      obtain ⟨a, ho, e1, e2, e3, e4, e5⟩ := R.ow i _ e rfl
      have mu : Mut (some ho) := by
        rcases e3 with ⟨_, rfl, _⟩ | ⟨_, rfl, _⟩ <;> trivial
      obtain ⟨o, I1⟩ := Inv.lock I e2 mu
      have f1 : Fz H (upd H a (.frz o ho)) := SDen.wr (s := .od kvs) e3 |>.fz e2
      have dd : Den (kwOf X) (upd H a (.frz o ho)) (.dict kvs) (.ref a) := den_dict (DicP.mono e3 f1 fun _ _ q => Den.mono f1 _ _ q) upd_same
      obtain ⟨R1, f1⟩ := R.chFrz (o := o) (x := .d (.dict kvs)) e rfl e1 e2 dd
      have q := p μ _ (List.prefix_refl _) f1 R1 (.ref a) dd
      exact (pe_var (X := X) (i := i) hN hv hd hcd).run pins s σ _ Q I1 ⟨.ref a, e1, q⟩
    | v y =>
      obtain ⟨v, e1, d⟩ := R.vl i y e
      exact (pe_var (X := X) (i := i) hN hv hd hcd).run pins s σ H Q I ⟨v, e1, p μ H (List.prefix_refl _) (Fz.refl _) R v d⟩
    | ol xs =>
      obtain ⟨a, ho, e1, e2, ⟨vs, e3, dl⟩, e4, e5⟩ := R.ow i _ e rfl
      subst e3
      obtain ⟨o, I1⟩ := freeze I e2
      have f1 : Fz H (upd H a (.frz o (.lst vs))) := Wr.fz (ho := .lst vs) trivial e2
      have dd : Den (kwOf X) (upd H a (.frz o (.lst vs))) (.list xs) (.ref a) := by
        simp only [Den]
        exact ⟨a, vs, rfl, .inl ⟨o, upd_same⟩, DenL.mono f1 _ _ dl⟩
      obtain ⟨R1, f1⟩ := R.chFrz (o := o) (x := .d (.list xs)) e rfl e1 e2 dd
      have q := p μ _ (List.prefix_refl _) f1 R1 (.ref a) dd
      exact (pe_var (X := X) (i := i) hN hv hd hcd).run pins s σ _ Q I1 ⟨.ref a, e1, q⟩
theorem cb_var (i : Nat) {x : Str} {pos : Pos} (hN : X.N[i]? = some x := by rfl) (hv : Vis X.env.scope x := by first | exact Or.inl rfl | exact Or.inr (Or.inl rfl) | exact Or.inr (Or.inr rfl)) (hd : (x == ("__debug__" : Str)) = false := by decide)
    (hcd : (x == ("__classdict__" : Str)) = false := by decide) : CB X N (.Name x pos) (mPeek i) := by
  refine PE.tm (pe_var (X := X) (i := i) hN hv hd hcd) fun σ H Q h => ?_
  obtain ⟨μ, c, R, p⟩ := h
  unfold RunAt mPeek at p
  cases e : c.sl[i]? with
  | none =>
    rw [e] at p
    exact p.elim
  | some sl =>
    rw [e] at p
    cases sl with
    | un => exact p.elim
    | v y =>
      obtain ⟨v, e1, d⟩ := R.vl i y e
      exact ⟨v, e1, p μ H (List.prefix_refl _) (Fz.refl _) R v d⟩
    | ol xs =>
      obtain ⟨a, ho, e1, e2, ⟨vs, e3, dl⟩, e4, e5⟩ := R.ow i _ e rfl
      subst e3
      exact ⟨.ref a, e1, p μ H (List.prefix_refl _) (Fz.refl _) R (.ref a) ⟨a, vs, rfl, e2, dl⟩⟩
    | od kvs =>
      obtain ⟨a, ho, e1, e2, e3, e4, e5⟩ := R.ow i _ e rfl
      exact ⟨.ref a, e1, p μ H (List.prefix_refl _) (Fz.refl _) R (.ref a) ⟨a, ho, rfl, e2, e3⟩⟩
def mC (x : PyData) : Mo CV := mRet (.d x)
/-- a constant -/
theorem ce_tc {x : PyData} {v : V} (h : PE X e (tC v)) (d : ∀ K H, Den K H x v) : CE X N e (mC x) := by
  refine PE.tm h fun σ H Q h => ?_
  obtain ⟨μ, c, R, p⟩ := h
  exact p.ret H (Fz.refl _) R v (d _ _)
theorem ce_int {i : Int} {j : Nat} {pos : Pos} : CE X N (.Constant (.int i) j pos) (mC (.int i)) := ce_tc pe_int fun K H => by simp only [Den]
theorem ce_str {i : Str} {j : Nat} {pos : Pos} : CE X N (.Constant (.str i) j pos) (mC (.str i)) := ce_tc pe_str fun K H => by simp only [Den]
theorem ce_bool {i : Bool} {j : Nat} {pos : Pos} : CE X N (.Constant (.bool i) j pos) (mC (.bool i)) := ce_tc pe_bl fun K H => by simp only [Den]
theorem ce_none {j : Nat} {pos : Pos} : CE X N (.Constant .none j pos) (mC .none) := ce_tc pe_non fun K H => by simp only [Den]
/-- a module's constant -/
theorem ce_glob {x : Str} {y : PyData} {v : V} {u : Value} {pos : Pos} (hm : X.mg x = some u) (r : RelV v u) (d : ∀ H, Den (kwOf X) H y v) (hg : Gl X x := by rfl) (hd : (x == ("__debug__" : Str)) = false := by decide) : CE X N (.Name x pos) (mC y) := by
  refine PE.tm (pe_glob hg hm r hd) fun σ H Q h => ?_
  obtain ⟨μ, c, R, p⟩ := h
  exact p.ret H (Fz.refl _) R v (d _)
/-- every value may be read on the spot -/
def mBo (m : Mo CV) : Mo BV := mBind m fun x => mRet (.c x)
theorem cb_of {m : Mo CV} (h : CE X N e m) : CB X N e (mBo m) := by
  refine ⟨fun pins s σ H Q I hq => ?_⟩
  obtain ⟨μ, c, R, p⟩ := hq
  refine thn (use_e h I R p.bind) fun u s1 ⟨v, x, μ1, c1, H1, I1, r1, d, R1, a, b, q⟩ => ?_
  exact ⟨v, H1, I1, r1, q.ret H1 (Fz.refl _) R1 v d⟩
/-- a new list, read on the spot -/
def mBf (m : Mo (List PyData)) : Mo BV := mBind m fun x => mRet (.l x)
theorem cb_f {m : Mo (List PyData)} (h : CF X N e m) : CB X N e (mBf m) := by
  refine ⟨fun pins s σ H Q I hq => ?_⟩
  obtain ⟨μ, c, R, p⟩ := hq
  refine thn (use_f h I R p.bind) fun u s1 ⟨q, vs, xs, μ1, c1, H1, e1, I1, hq, dl, R1, a, b, z⟩ => ?_
  have sm : Same H1 (upd H1 q (.lst vs)) := same_new hq
  exact ⟨.ref q, _, I1, e1, z.ret _ (Fz.same sm) (R1.same sm) (.ref q) ⟨q, vs, rfl, upd_same, DenL.mono (Fz.same sm) _ _ dl⟩⟩
/-- a new list, as a value: never written again -/
def mFz (m : Mo (List PyData)) : Mo CV := mBind m fun x => mRet (.d (.list x))
theorem ce_f {m : Mo (List PyData)} (h : CF X N e m) : CE X N e (mFz m) := by
  refine ⟨fun pins s σ H Q I hq => ?_⟩
  obtain ⟨μ, c, R, p⟩ := hq
  refine thn (use_f h I R p.bind) fun u s1 ⟨q, vs, xs, μ1, c1, H1, e1, I1, hq, dl, R1, a, b, z⟩ => ?_
  obtain ⟨o, I2⟩ := freeze I1 upd_same
  rw [upd_upd] at I2
  have sm : Same H1 (upd H1 q (.frz o (.lst vs))) := same_new hq
  refine ⟨.ref q, _, I2, e1, z.ret _ (Fz.same sm) (R1.same sm) (.ref q) ?_⟩
  show Den (kwOf X) _ (.list xs) _
  simp only [Den]
  exact ⟨q, vs, rfl, .inl ⟨o, upd_same⟩, DenL.mono (Fz.same sm) _ _ dl⟩
end
end Cl

set_option Elab.async false
set_option maxRecDepth 100000
set_option maxHeartbeats 2000000
namespace Cl
open PySem PySem.Spec PyProof.Rows L2

theorem den_tup {K : KW} {H : Hp} {xs : List PyData} {vs : List V} {p : Addr} (d : DenL K H xs vs) (q : SqT K.K H p vs) : Den K H (.tuple xs) (.ref p) := by
  simp only [Den]
  exact ⟨p, vs, rfl, q, d⟩
theorem den_bool {K : KW} {H : Hp} (b : Bool) : Den K H (.bool b) (.bl b) := by simp only [Den]
theorem den_int {K : KW} {H : Hp} (b : Int) : Den K H (.int b) (.int b) := by simp only [Den]
theorem den_str {K : KW} {H : Hp} (b : Str) : Den K H (.str b) (.str b) := by simp only [Den]
theorem den_none {K : KW} {H : Hp} : Den K H .none .non := by simp only [Den]

theorem vden_bool {K : KW} {H : Hp} {μ : List Addr} (b : Bool) : VDen K H μ (.d (.bool b)) (.bl b) := den_bool (K := K) (H := H) b
theorem vden_none {K : KW} {H : Hp} {μ : List Addr} : VDen K H μ (.d .none) .non := den_none (K := K) (H := H)
theorem vden_int {K : KW} {H : Hp} {μ : List Addr} (i : Int) : VDen K H μ (.d (.int i)) (.int i) := den_int (K := K) (H := H) i
theorem vden_str {K : KW} {H : Hp} {μ : List Addr} (i : Str) : VDen K H μ (.d (.str i)) (.str i) := den_str (K := K) (H := H) i
/-! ### operations on two values -/
abbrev OpC (X : Cx) (N : Wn) (f : Value → Value → Sem Value) (g : CV → CV → Mo CV) : Prop :=
  ∀ (pins : List (Addr × Obj)) (s : Shared) (σ : LSt) (H : Hp) (μ : List Addr) (c : CS) (x y : CV) (v w : V) (v' w' : Value) (Q : VK), Inv X pins σ H s → Rel (gh X N) μ c σ H → VDen (kwOf X) H μ x v → VDen (kwOf X) H μ y w → RelV v v' → RelV w w' →
    RunAt (gh X N) N.W (g x y) μ c σ H (fun z μ1 _ H1 => ∀ zv, VDen (kwOf X) H1 μ1 z zv → Q zv H1) → wpAny (model X.prog X.w) X.A (f v' w') (EP X pins σ Q) X.xe s
/-- .. on data -/
abbrev OpP (X : Cx) (f : Value → Value → Sem Value) (g : PyData → PyData → Option PyData) : Prop :=
  ∀ (pins : List (Addr × Obj)) (s : Shared) (σ : LSt) (H : Hp) (x y z : PyData) (v w : V) (v' w' : Value) (Q : VK), Inv X pins σ H s → Den (kwOf X) H x v → Den (kwOf X) H y w → RelV v v' → RelV w w' → g x y = some z →
    (∀ zv H1, Same H H1 → Den (kwOf X) H1 z zv → Q zv H1) → wpAny (model X.prog X.w) X.A (f v' w') (EP X pins σ Q) X.xe s
def lift2 (g : PyData → PyData → Option PyData) : CV → CV → Mo CV := fun x y => match x, y with
  | .d a, .d b => mOpt ((g a b).map .d)
  | _, _ => fun _ => .no
section
variable {X : Cx} {N : Wn} {e a b : Expr} {pos : Pos}
theorem OpP.c {f : Value → Value → Sem Value} {g : PyData → PyData → Option PyData} (h : OpP X f g) : OpC X N f (lift2 g) := by
  intro pins s σ H μ c x y v w v' w' Q I R dx dy r1 r2 p
  cases x with
  | d x =>
    cases y with
    | d y =>
      obtain ⟨z, e, q⟩ := RunAt.opt p
      cases hg : g x y with
      | none =>
        rw [hg] at e
        cases e
      | some z' =>
        rw [hg] at e
        cases e
        exact h pins s σ H x y z' v w v' w' Q I dx dy r1 r2 hg fun zv H1 sm d => q H1 (Fz.same sm) (R.same sm) zv d
    | r _ => exact p.elim
    | o _ => exact p.elim
  | r _ => exact p.elim
  | o _ => exact p.elim
/-- the second value is there when both are asked -/
theorem run2 {α : Type} {ma mb : Mo CV} {g : CV → CV → Mo α} {pins : List (Addr × Obj)} {s : Shared} {σ : LSt} {H : Hp} {μ : List Addr} {c : CS} {P : α → List Addr → CS → Hp → Prop} (ha : CE X N a ma) (hb : CE X N b mb) (I : Inv X pins σ H s) (R : Rel (gh X N) μ c σ H)
    (p : RunAt (gh X N) N.W (mBind ma fun x => mBind mb fun y => g x y) μ c σ H P) {β : Type} {Q : β → Shared → Prop} {f : Value → Value → Sem β}
    (k : ∀ (s2 : Shared) (H2 : Hp) (μ2 : List Addr) (c2 : CS) (x y : CV) (v w : V) (v' w' : Value), Inv X pins σ H2 s2 → Rel (gh X N) μ2 c2 σ H2 → VDen (kwOf X) H2 μ2 x v → VDen (kwOf X) H2 μ2 y w → RelV v v' → RelV w w' → RunAt (gh X N) N.W (g x y) μ2 c2 σ H2 P → wpAny (model X.prog X.w) X.A (f v' w') Q X.xe s2) :
    wpAny (model X.prog X.w) X.A (eval a X.env) (fun v s₁ => wpAny (model X.prog X.w) X.A (eval b X.env) (fun u s₂ => wpAny (model X.prog X.w) X.A (f v u) Q X.xe s₂) X.xe s₁) X.xe s := by
  refine thn (use_e ha I R p.bind) fun v' s1 ⟨v, x, μ1, c1, H1, I1, r1, d1, R1, p1, f1, q1⟩ => ?_
  refine thn (use_e hb I1 R1 q1.bind) fun w' s2 ⟨w, y, μ2, c2, H2, I2, r2, d2, R2, p2, f2, q2⟩ => ?_
  exact k s2 H2 μ2 c2 x y v w v' w' I2 R2 (d1.mono f2 p2) d2 r1 r2 q2
def m2 (g : CV → CV → Mo CV) (ma mb : Mo CV) : Mo CV := mBind ma fun x => mBind mb fun y => g x y
theorem ce_bin {op : Operator} {g : CV → CV → Mo CV} {ma mb : Mo CV} (ho : OpC X N (binaryOp op) g) (ha : CE X N a ma) (hb : CE X N b mb) : CE X N (.BinOp a op b pos) (m2 g ma mb) := by
  refine ⟨fun pins s σ H Q I h => ?_⟩
  obtain ⟨μ, c, R, p⟩ := h
  exact wpAny_BinOp (run2 ha hb I R p fun s2 H2 μ2 c2 x y v w v' w' I2 R2 d1 d2 r1 r2 q => ho pins s2 σ H2 μ2 c2 x y v w v' w' Q I2 R2 d1 d2 r1 r2 q)

/-! ### comparisons -/
abbrev CC (X : Cx) (N : Wn) (op : CmpOp) (a b : Expr) (m : Mo CV) : Prop := PC X op a b (tM (gh X N) N.W m)
theorem cc_of {op : CmpOp} {g : CV → CV → Mo CV} {ma mb : Mo CV} (ho : OpC X N (compareOp op) g) (ha : CE X N a ma) (hb : CE X N b mb) : CC X N op a b (m2 g ma mb) := by
  refine ⟨fun pins s σ H Q I h => ?_⟩
  obtain ⟨μ, c, R, p⟩ := h
  exact run2 ha hb I R p fun s2 H2 μ2 c2 x y v w v' w' I2 R2 d1 d2 r1 r2 q => ho pins s2 σ H2 μ2 c2 x y v w v' w' Q I2 R2 d1 d2 r1 r2 q
/-- the second one is read on the spot -/
abbrev OpB (X : Cx) (N : Wn) (f : Value → Value → Sem Value) (g : CV → BV → Mo CV) : Prop :=
  ∀ (pins : List (Addr × Obj)) (s : Shared) (σ : LSt) (H : Hp) (μ : List Addr) (c : CS) (x : CV) (y : BV) (v w : V) (v' w' : Value) (Q : VK), Inv X pins σ H s → Rel (gh X N) μ c σ H → VDen (kwOf X) H μ x v → BDen (kwOf X) H μ y w → RelV v v' → RelV w w' →
    RunAt (gh X N) N.W (g x y) μ c σ H (fun z μ1 _ H1 => ∀ zv, VDen (kwOf X) H1 μ1 z zv → Q zv H1) → wpAny (model X.prog X.w) X.A (f v' w') (EP X pins σ Q) X.xe s
def m2b (g : CV → BV → Mo CV) (ma : Mo CV) (mb : Mo BV) : Mo CV := mBind ma fun x => mBind mb fun y => g x y
theorem cc_b {op : CmpOp} {g : CV → BV → Mo CV} {ma : Mo CV} {mb : Mo BV} (ho : OpB X N (compareOp op) g) (ha : CE X N a ma) (hb : CB X N b mb) : CC X N op a b (m2b g ma mb) := by
  refine ⟨fun pins s σ H Q I h => ?_⟩
  obtain ⟨μ, c, R, p⟩ := h
  refine thn (use_e ha I R p.bind) fun v' s1 ⟨v, x, μ1, c1, H1, I1, r1, d1, R1, p1, f1, q1⟩ => ?_
  refine thn (use_b hb I1 R1 q1.bind) fun w' s2 ⟨w, y, μ2, c2, H2, I2, r2, d2, R2, p2, f2, q2⟩ => ?_
  exact ho pins s2 σ H2 μ2 c2 x y v w v' w' Q I2 R2 (d1.mono f2 p2) d2 r1 r2 q2
theorem ce_cmp {op : CmpOp} {m : Mo CV} (h : CC X N op a b m) (h1 : behindInMarks op b = false := by first | exact nobehind _ (by decide) (by decide) | rfl) : CE X N (.Compare a [op] [b] pos) m := pe_cmp h h1
/-- a bool, as a test -/
def asB : CV → Mo Bool := fun x => match x with
  | .d (.bool b) => mRet b
  | _ => fun _ => .no
def mTru (m : Mo CV) : Mo Bool := mBind m asB
theorem tB_of {m : Mo CV} {σ : LSt} {H : Hp} {Q : Bool → Hp → Prop} (h : tT (gh X N) N.W (mTru m) σ H Q) : L2.tB (tM (gh X N) N.W m) σ H Q := by
  obtain ⟨μ, c, R, p⟩ := h
  refine ⟨μ, c, R, (RunAt.bind p).imp fun x μ1 c1 H1 a b r q v d => ?_⟩
  cases x with
  | d x =>
    cases x with
    | bool k =>
      have d : Den (kwOf X) H1 (.bool k) v := d
      simp only [Den] at d
      exact ⟨k, d, RunAt.ret (a := k) q H1 (Fz.refl _) r⟩
    | none => exact q.elim
    | int _ => exact q.elim
    | str _ => exact q.elim
    | list _ => exact q.elim
    | tuple _ => exact q.elim
    | dict _ => exact q.elim
  | r _ => exact q.elim
  | o _ => exact q.elim
theorem ct_cmp {op : CmpOp} {m : Mo CV} (h : CC X N op a b m) (h1 : behindInMarks op b = false := by first | exact nobehind _ (by decide) (by decide) | rfl) : CT X N (.Compare a [op] [b] pos) (mTru m) := PT.tm (pt_cmp h h1) fun σ H Q => tB_of
theorem ct_val {m : Mo CV} (h : CE X N e m) (he : ∀ whole, isTrue e X.env whole = (do let v ← whole; standAt e.pos; holding [v] (truthy v)) := by intro _; rfl) : CT X N e (mTru m) := PT.tm (pt_val h he) fun σ H Q => tB_of
/-! chains -/
def mChain (g g' : CV → CV → Mo CV) (ma mb mc : Mo CV) : Mo CV := mBind ma fun x => mBind mb fun y => mBind (mTru (g x y)) fun k => if k then mBind mc fun z => g' y z else mRet (.d (.bool false))
theorem asB_ret {x : CV} {μ : List Addr} {c : CS} {σ : LSt} {H : Hp} {α : Type} {f : Bool → Mo α} {P : α → List Addr → CS → Hp → Prop} (h : RunAt (gh X N) N.W (mBind (asB x) f) μ c σ H P) : ∃ b, x = .d (.bool b) ∧ RunAt (gh X N) N.W (f b) μ c σ H P := by
  cases x with
  | d x =>
    cases x with
    | bool k => exact ⟨k, rfl, h⟩
    | none => exact h.elim
    | int _ => exact h.elim
    | str _ => exact h.elim
    | list _ => exact h.elim
    | tuple _ => exact h.elim
    | dict _ => exact h.elim
  | r _ => exact h.elim
  | o _ => exact h.elim
theorem mBind_assoc {α β γ : Type} (m : Mo α) (f : α → Mo β) (g : β → Mo γ) : mBind (mBind m f) g = mBind m fun x => mBind (f x) g := by
  funext c
  unfold mBind
  cases m c <;> rfl
theorem ce_chain {op op' : CmpOp} {g g' : CV → CV → Mo CV} {d : Expr} {ma mb mc : Mo CV} (ho : OpC X N (compareOp op) g) (ho' : OpC X N (compareOp op') g') (ha : CE X N a ma) (hb : CE X N b mb) (hc : CE X N d mc) (hm : lastMarks [op, op'] [b, d] = false := by with_unfolding_all rfl) :
    CE X N (.Compare a [op, op'] [b, d] pos) (mChain g g' ma mb mc) := by
  refine ⟨fun pins s σ H Q I h => ?_⟩
  obtain ⟨μ, c, R, p⟩ := h
  refine Compare_chain (thn (use_e ha I R p.bind) fun v' s1 ⟨v, x, μ1, c1, H1, I1, r1, d1, R1, p1, f1, q1⟩ => chain_link (thn (use_e hb I1 R1 q1.bind) fun w' s2 ⟨w, y, μ2, c2, H2, I2, r2, d2, R2, p2, f2, q2⟩ => ?_)) hm
  unfold mTru at q2
  rw [mBind_assoc] at q2
  refine thn (ho pins s2 σ H2 μ2 c2 x y v w v' w' (fun zv H3 => ∃ k μ3 c3, zv = .bl k ∧ Rel (gh X N) μ3 c3 σ H3 ∧ VDen (kwOf X) H3 μ3 y w ∧ RunAt (gh X N) N.W (if k then mBind mc fun z => g' y z else mRet (.d (.bool false))) μ3 c3 σ H3 fun z μ1 _ H1 => ∀ zv, VDen (kwOf X) H1 μ1 z zv → Q zv H1) I2 R2 (d1.mono f2 p2) d2 r1 r2 (q2.bind.imp fun z μ3 c3 H3 a b r q zv dz => ?_)) fun u s3 ⟨zv, H3, I3, r3, k, μ3, c3, ez, R3, dy, q3⟩ => ?_
  · obtain ⟨k, rfl, q⟩ := asB_ret q
    have dz : Den (kwOf X) H3 (.bool k) zv := dz
    simp only [Den] at dz
    exact ⟨k, μ3, c3, dz, r, d2.mono b a, q⟩
  · subst ez
    cases r3
    refine wpAny_truthy_bool ?_
    cases k with
    | true =>
      have q3 : RunAt (gh X N) N.W (mBind mc fun z => g' y z) μ3 c3 σ H3 (fun z μ1 _ H1 => ∀ zv, VDen (kwOf X) H1 μ1 z zv → Q zv H1) := q3
      exact ite_tt (chain_last (thn (use_e hc I3 R3 q3.bind) fun y' s4 ⟨yv, z, μ4, c4, H4, I4, r4, d4, R4, p4, f4, q4⟩ => ho' pins s4 σ H4 μ4 c4 y z w yv w' y' Q I4 R4 (dy.mono f4 p4) d4 r2 r4 q4))
    | false =>
      have q3 : RunAt (gh X N) N.W (mRet (CV.d (.bool false))) μ3 c3 σ H3 (fun z μ1 _ H1 => ∀ zv, VDen (kwOf X) H1 μ1 z zv → Q zv H1) := q3
      exact ite_ff ⟨.bl false, H3, I3, rfl, q3.ret H3 (Fz.refl _) R3 _ (vden_bool false)⟩
theorem asB_den {K : KW} {H : Hp} {μ : List Addr} {k : Bool} {v : V} (d : VDen K H μ (.d (.bool k)) v) : v = .bl k := by
  have d : Den K H (.bool k) v := d
  simp only [Den] at d
  exact d
theorem ct_chain {op op' : CmpOp} {g g' : CV → CV → Mo CV} {d : Expr} {ma mb mc : Mo CV} (ho : OpC X N (compareOp op) g) (ho' : OpC X N (compareOp op') g') (ha : CE X N a ma) (hb : CE X N b mb) (hc : CE X N d mc) (hm : lastMarks [op, op'] [b, d] = false := by with_unfolding_all rfl) :
    CT X N (.Compare a [op, op'] [b, d] pos) (mTru (mChain g g' ma mb mc)) := by
  refine ⟨fun pins s σ H Q I h => ?_⟩
  obtain ⟨μ, c, R, p⟩ := h
  unfold mTru mChain at p
  rw [mBind_assoc] at p
  refine isTrue_chain (thn (use_e ha I R p.bind) fun v' s1 ⟨v, x, μ1, c1, H1, I1, r1, d1, R1, p1, f1, q1⟩ => ?_) hm
  rw [mBind_assoc] at q1
  refine test_link (thn (use_e hb I1 R1 q1.bind) fun w' s2 ⟨w, y, μ2, c2, H2, I2, r2, d2, R2, p2, f2, q2⟩ => ?_)
  rw [mBind_assoc] at q2
  unfold mTru at q2
  rw [mBind_assoc] at q2
  refine thn (ho pins s2 σ H2 μ2 c2 x y v w v' w' (fun zv H3 => ∃ k μ3 c3, zv = .bl k ∧ Rel (gh X N) μ3 c3 σ H3 ∧ VDen (kwOf X) H3 μ3 y w ∧ RunAt (gh X N) N.W (mBind (if k then mBind mc fun z => g' y z else mRet (.d (.bool false))) asB) μ3 c3 σ H3 fun b _ _ H1 => Q b H1) I2 R2 (d1.mono f2 p2) d2 r1 r2 (q2.bind.imp fun z μ3 c3 H3 a b r q zv dz => ?_)) fun u s3 ⟨zv, H3, I3, r3, k, μ3, c3, ez, R3, dy, q3⟩ => ?_
  · obtain ⟨k, rfl, q⟩ := asB_ret q
    exact ⟨k, μ3, c3, asB_den dz, r, d2.mono b a, q⟩
  · subst ez
    cases r3
    refine wpAny_truthy_bool ?_
    cases k with
    | true =>
      have q3 : RunAt (gh X N) N.W (mBind (mBind mc fun z => g' y z) asB) μ3 c3 σ H3 (fun b _ _ H1 => Q b H1) := q3
      rw [mBind_assoc] at q3
      refine ite_tt (test_last (thn (use_e hc I3 R3 q3.bind) fun y' s4 ⟨yv, z, μ4, c4, H4, I4, r4, d4, R4, p4, f4, q4⟩ => ?_))
      refine thn (ho' pins s4 σ H4 μ4 c4 y z w yv w' y' (fun zv H5 => ∃ k, zv = .bl k ∧ Q k H5) I4 R4 (dy.mono f4 p4) d4 r2 r4 (q4.bind.imp fun z μ5 c5 H5 a b r q zv dz => ?_)) fun u s5 ⟨zv, H5, I5, r5, k, ez, q5⟩ => ?_
      · have q' : RunAt (gh X N) N.W (mBind (asB z) mRet) μ5 c5 σ H5 (fun b _ _ H1 => Q b H1) := by
          have e : mBind (asB z) mRet = asB z := by
            funext c
            unfold mBind mRet
            cases asB z c <;> rfl
          rw [e]
          exact q
        obtain ⟨k, rfl, q'⟩ := asB_ret q'
        exact ⟨k, asB_den dz, q'.ret H5 (Fz.refl _) r⟩
      · subst ez
        cases r5
        exact wpAny_truthy_bool ⟨H5, I5, q5⟩
    | false =>
      have q3 : RunAt (gh X N) N.W (mRet false) μ3 c3 σ H3 (fun b _ _ H1 => Q b H1) := q3
      exact ite_ff ⟨H3, I3, q3.ret H3 (Fz.refl _) R3⟩

/-! ### the operations -/
theorem op_of {f : Value → Value → Sem Value} {r : R2} {g : PyData → PyData → Option PyData} (h : OpR X f r)
    (k : ∀ H x y z v w Q, Den (kwOf X) H x v → Den (kwOf X) H y w → g x y = some z → (∀ zv H1, Same H H1 → Den (kwOf X) H1 z zv → Q zv H1) → r v w H Q) : OpP X f g := fun pins s σ H x y z v w v' w' Q I d1 d2 r1 r2 e q => h pins s σ H v w v' w' Q I r1 r2 (k H x y z v w Q d1 d2 e q)
def pI2 (C : Int → Int → Bool) (f : Int → Int → PyData) : PyData → PyData → Option PyData := fun x y => match x, y with
  | .int i, .int j => if C i j then some (f i j) else none
  | _, _ => none
theorem pI2_some {C : Int → Int → Bool} {f : Int → Int → PyData} {x y z : PyData} (h : pI2 C f x y = some z) : ∃ i j, x = .int i ∧ y = .int j ∧ C i j = true ∧ z = f i j := by
  unfold pI2 at h
  cases x with
  | int i =>
    cases y with
    | int j =>
      dsimp only at h
      by_cases hc : C i j = true
      · rw [if_pos hc] at h
        cases h
        exact ⟨i, j, rfl, rfl, hc, rfl⟩
      · rw [if_neg hc] at h
        cases h
    | _ => cases h
  | _ => cases h
theorem opp_int {f : Value → Value → Sem Value} {C : Int → Int → Prop} {C' : Int → Int → Bool} {g : Int → Int → Int} (h : OpR X f (rI C fun i j => .int (g i j))) (hC : ∀ i j, C' i j = true → C i j) : OpP X f (pI2 C' fun i j => .int (g i j)) := by
  refine op_of h fun H x y z v w Q d1 d2 e q => ?_
  obtain ⟨i, j, rfl, rfl, hc, rfl⟩ := pI2_some e
  simp only [Den] at d1 d2
  subst d1 d2
  exact ⟨i, j, rfl, rfl, hC i j hc, q _ H (Same.refl H) (den_int _)⟩
theorem opp_int0 {f : Value → Value → Sem Value} {g : Int → Int → Int} (h : OpR X f (rI0 fun i j => .int (g i j))) : OpP X f (pI2 (fun _ _ => true) fun i j => .int (g i j)) := by
  refine op_of h fun H x y z v w Q d1 d2 e q => ?_
  obtain ⟨i, j, rfl, rfl, hc, rfl⟩ := pI2_some e
  simp only [Den] at d1 d2
  subst d1 d2
  exact ⟨i, j, rfl, rfl, q _ H (Same.refl H) (den_int _)⟩
def tkT (xs : List PyData) (n : Nat) : Option PyData := if n ≤ 16777216 then some (.tuple xs) else none
/-- a + b of texts, of tuples, of numbers -/
def pAdd (x y : PyData) : Option PyData := match x, y with
  | .int i, .int j => some (.int (i + j))
  | .str s, .str t => if s.length + t.length ≤ 16777216 then some (.str (s ++ t)) else none
  | .tuple xs, .tuple ys => tkT (xs ++ ys) (xs.length + ys.length)
  | _, _ => none
theorem opp_add : OpP X (binaryOp .Add) pAdd := by
  intro pins s σ H x y z v w v' w' Q I d1 d2 r1 r2 e q
  cases x with
  | int i =>
    cases y with
    | int j =>
      cases e
      simp only [Den] at d1 d2
      subst d1 d2
      exact op_add pins s σ H _ _ v' w' Q I r1 r2 ⟨i, j, rfl, rfl, q _ H (Same.refl H) (den_int _)⟩
    | _ => cases e
  | str i =>
    cases y with
    | str j =>
      simp only [Den] at d1 d2
      subst d1 d2
      unfold pAdd at e
      dsimp only at e
      by_cases hl : i.length + j.length ≤ 16777216
      · rw [if_pos hl] at e
        cases e
        exact op_add_str pins s σ H _ _ v' w' Q I r1 r2 ⟨i, j, rfl, rfl, by rw [sizeLine_eq]; exact hl, q _ H (Same.refl H) (den_str _)⟩
      · rw [if_neg hl] at e
        cases e
    | _ => cases e
  | tuple xs =>
    cases y with
    | tuple ys =>
      simp only [Den] at d1 d2
      obtain ⟨a, vs, rfl, qa, da⟩ := d1
      obtain ⟨b, ws, rfl, qb, db⟩ := d2
      unfold pAdd tkT at e
      dsimp only at e
      by_cases hl : xs.length + ys.length ≤ 16777216
      · rw [if_pos hl] at e
        cases e
        refine op_catA pins s σ H _ _ v' w' Q I r1 r2 ⟨a, b, vs, ws, rfl, rfl, qa, qb, by rw [da.length, db.length, sizeLine_eq]; exact hl, ?_⟩
        refine ⟨fun e => ?_, fun _ e => ?_, fun _ _ p hp => q _ _ (same_new hp) (den_tup (DenL.append (DenL.mono (Fz.same (same_new hp)) _ _ da) (DenL.mono (Fz.same (same_new hp)) _ _ db)) (SqT.of upd_same))⟩
        · have l := da.length
          rw [e] at l
          have e2 : xs = [] := List.length_eq_zero_iff.mp l.symm
          rw [e2] at q
          exact q _ H (Same.refl H) (den_tup db qb)
        · have l := db.length
          rw [e] at l
          have e2 : ys = [] := List.length_eq_zero_iff.mp l.symm
          rw [e2, List.append_nil] at q
          exact q _ H (Same.refl H) (den_tup da qa)
      · rw [if_neg hl] at e
        cases e
    | _ => cases e
  | none => cases e
  | bool _ => cases e
  | list _ => cases e
  | dict _ => cases e
abbrev pSub := pI2 (fun _ _ => true) fun i j => .int (i - j)
abbrev pMul := pI2 (fun i j => (decide (-(2 ^ 64) < i) && decide (i < 2 ^ 64)) || (decide (-(2 ^ 64) < j) && decide (j < 2 ^ 64))) fun i j => .int (i * j)
abbrev pDiv := pI2 (fun _ j => decide (0 < j) && decide (j < 1073741824)) fun i j => .int (i / j)
abbrev pMod := pI2 (fun _ j => decide (0 < j)) fun i j => .int (i % j)
abbrev pPow := pI2 (fun i j => decide (0 ≤ j) && decide (j ≤ 1000000) && decide (i.natAbs < 2 ^ 64)) fun i j => .int (i ^ j.toNat)
theorem opp_sub : OpP X (binaryOp .Sub) pSub := opp_int0 op_sub
theorem opp_mul : OpP X (binaryOp .Mult) pMul := opp_int op_mul fun i j h => by
  simp only [Bool.or_eq_true, Bool.and_eq_true, decide_eq_true_eq] at h
  exact h
theorem opp_div : OpP X (binaryOp .FloorDiv) pDiv := opp_int op_fdiv fun i j h => by
  simp only [Bool.and_eq_true, decide_eq_true_eq] at h
  exact h
theorem opp_mod : OpP X (binaryOp .Mod) pMod := opp_int (C := fun _ j => 0 < j) op_mod fun i j h => by
  simp only [decide_eq_true_eq] at h
  exact h
theorem opp_pow : OpP X (binaryOp .Pow) pPow := opp_int op_pow fun i j h => by
  simp only [Bool.and_eq_true, decide_eq_true_eq] at h
  exact ⟨h.1.1, h.1.2, h.2⟩
/-- == of data -/
def pEq (x y : PyData) : Option PyData := if x.plain = true ∧ y.plain = true ∧ min x.depth y.depth ≤ 60 then some (.bool (PyData.eqv x y)) else none
def pNe (x y : PyData) : Option PyData := if x.plain = true ∧ y.plain = true ∧ min x.depth y.depth ≤ 60 then some (.bool (!PyData.eqv x y)) else none
theorem opp_eq (hu : X.A.units + 100 < cLine) : OpP X (compareOp .Eq) pEq := by
  intro pins s σ H x y z v w v' w' Q I d1 d2 r1 r2 e q
  unfold pEq at e
  by_cases hd : x.plain = true ∧ y.plain = true ∧ min x.depth y.depth ≤ 60
  · rw [if_pos hd] at e
    cases e
    obtain ⟨as, ra⟩ := Den.reads I x v v' hd.1 d1 r1
    obtain ⟨bs, rb⟩ := Den.reads I y w w' hd.2.1 d2 r2
    exact SeqAt.eq_plain ra rb hd.1 hd.2.1 (by have := hd.2.2; omega) ⟨.bl _, H, I, rfl, q _ H (Same.refl H) (den_bool _)⟩
  · rw [if_neg hd] at e
    cases e
theorem opp_ne (hu : X.A.units + 100 < cLine) : OpP X (compareOp .NotEq) pNe := by
  intro pins s σ H x y z v w v' w' Q I d1 d2 r1 r2 e q
  unfold pNe at e
  by_cases hd : x.plain = true ∧ y.plain = true ∧ min x.depth y.depth ≤ 60
  · rw [if_pos hd] at e
    cases e
    obtain ⟨as, ra⟩ := Den.reads I x v v' hd.1 d1 r1
    obtain ⟨bs, rb⟩ := Den.reads I y w w' hd.2.1 d2 r2
    exact SeqAt.ne_plain ra rb hd.1 hd.2.1 (by have := hd.2.2; omega) ⟨.bl _, H, I, rfl, q _ H (Same.refl H) (den_bool _)⟩
  · rw [if_neg hd] at e
    cases e
end
end Cl

set_option Elab.async false
set_option maxRecDepth 100000
set_option maxHeartbeats 2000000
namespace Cl
open PySem PySem.Spec PyProof.Rows L2
open PySem.W (alike alikeAll dataLt lt_data gt_data le_data ge_data)
theorem paired_app {α β : Type} {F : α → β → Prop} : ∀ {l1 r1 : List α} {l2 r2 : List β}, Paired F l1 l2 → Paired F r1 r2 → Paired F (l1 ++ r1) (l2 ++ r2)
  | _, _, _, _, .nil, t => t
  | _, _, _, _, .cons h t, u => .cons h (paired_app t u)
section
variable {X : Cx} {N : Wn} {e a b : Expr} {pos : Pos}
/-! ### order -/
def pOrd (fi : Int → Int → Bool) (fd : PyData → PyData → Bool) (x y : PyData) : Option PyData := match x, y with
  | .int i, .int j => some (.bool (fi i j))
  | .none, _ => none
  | x, y => if x.plain = true ∧ y.plain = true ∧ alike x y = true ∧ min x.depth y.depth ≤ 60 then some (.bool (fd x y)) else none
abbrev pLt := pOrd (fun i j => decide (i < j)) dataLt
abbrev pGt := pOrd (fun i j => decide (j < i)) (fun x y => dataLt y x)
abbrev pLe := pOrd (fun i j => decide (i ≤ j)) (fun x y => !dataLt y x)
abbrev pGe := pOrd (fun i j => decide (j ≤ i)) (fun x y => !dataLt x y)
theorem pOrd_some {fi : Int → Int → Bool} {fd : PyData → PyData → Bool} {x y z : PyData} (h : pOrd fi fd x y = some z) :
    (∃ i j, x = .int i ∧ y = .int j ∧ z = .bool (fi i j)) ∨ (x ≠ .none ∧ x.plain = true ∧ y.plain = true ∧ alike x y = true ∧ min x.depth y.depth ≤ 60 ∧ z = .bool (fd x y)) := by
  have other : x ≠ .none → (if x.plain = true ∧ y.plain = true ∧ alike x y = true ∧ min x.depth y.depth ≤ 60 then some (PyData.bool (fd x y)) else none) = some z → (x ≠ .none ∧ x.plain = true ∧ y.plain = true ∧ alike x y = true ∧ min x.depth y.depth ≤ 60 ∧ z = .bool (fd x y)) := fun n e => by
    by_cases hc : x.plain = true ∧ y.plain = true ∧ alike x y = true ∧ min x.depth y.depth ≤ 60
    · rw [if_pos hc] at e
      cases e
      exact ⟨n, hc.1, hc.2.1, hc.2.2.1, hc.2.2.2, rfl⟩
    · rw [if_neg hc] at e
      cases e
  cases x with
  | int i =>
    cases y with
    | int j =>
      cases h
      exact .inl ⟨i, j, rfl, rfl, rfl⟩
    | _ => exact .inr (other (fun z => by cases z) h)
  | none => cases y <;> cases h
  | _ => exact .inr (other (fun z => by cases z) (by cases y <;> exact h))
theorem opp_ord {op : CmpOp} {fi : Int → Int → Bool} {fd : PyData → PyData → Bool} (hi : OpR X (compareOp op) (rI0 fun i j => .bl (fi i j)))
    (hd : ∀ {s : Shared} {x y : PyData} {u v : Value} {as bs : List Addr} {Q : Value → Shared → Prop}, Reads s.heap u x as → Reads s.heap v y bs → alike x y = true → x ≠ .none → X.A.units + min x.depth y.depth < cLine → Q (.bool (fd x y)) s → wpAny (model X.prog X.w) X.A (compareOp op u v) Q X.xe s)
    (hu : X.A.units + 100 < cLine) : OpP X (compareOp op) (pOrd fi fd) := by
  intro pins s σ H x y z v w v' w' Q I d1 d2 r1 r2 e q
  rcases pOrd_some e with ⟨i, j, rfl, rfl, rfl⟩ | ⟨n, pl1, pl2, al, dp, rfl⟩
  · simp only [Den] at d1 d2
    subst d1 d2
    exact hi pins s σ H _ _ v' w' Q I r1 r2 ⟨i, j, rfl, rfl, q _ H (Same.refl H) (den_bool _)⟩
  · obtain ⟨as, ra⟩ := Den.reads I x v v' pl1 d1 r1
    obtain ⟨bs, rb⟩ := Den.reads I y w w' pl2 d2 r2
    exact hd ra rb al n (by omega) ⟨.bl _, H, I, rfl, q _ H (Same.refl H) (den_bool _)⟩
theorem opp_lt (hu : X.A.units + 100 < cLine) : OpP X (compareOp .Lt) pLt := opp_ord op_lt (fun ra rb h n u q => lt_data ra rb h n u q) hu
theorem opp_gt (hu : X.A.units + 100 < cLine) : OpP X (compareOp .Gt) pGt := opp_ord op_gt (fun ra rb h n u q => gt_data ra rb h n u q) hu
theorem opp_le (hu : X.A.units + 100 < cLine) : OpP X (compareOp .LtE) pLe := opp_ord op_le (fun ra rb h n u q => le_data ra rb h n u q) hu
theorem opp_ge (hu : X.A.units + 100 < cLine) : OpP X (compareOp .GtE) pGe := opp_ord op_ge (fun ra rb h n u q => ge_data ra rb h n u q) hu

/-! ### is None -/
def isN : CV → Bool := fun x => match x with
  | .d .none => true
  | _ => false
/-- None, or data -/
def isNm (neg : Bool) (m : Mo CV) : Mo CV := mBind m fun x => match x with
  | .d y => mRet (.d (.bool (if neg then !isN (.d y) else isN (.d y))))
  | _ => fun _ => .no
theorem isN_iff {K : KW} {H : Hp} {y : PyData} {v : V} (d : Den K H y v) : decide (v = .non) = isN (.d y) := by
  cases y with
  | none =>
    simp only [Den] at d
    subst d
    rfl
  | bool _ =>
    simp only [Den] at d
    subst d
    rfl
  | int _ =>
    simp only [Den] at d
    subst d
    rfl
  | str _ =>
    simp only [Den] at d
    subst d
    rfl
  | list _ =>
    simp only [Den] at d
    obtain ⟨_, _, rfl, _⟩ := d
    rfl
  | tuple _ =>
    simp only [Den] at d
    obtain ⟨_, _, rfl, _⟩ := d
    rfl
  | dict _ =>
    simp only [Den] at d
    obtain ⟨_, _, rfl, _⟩ := d
    rfl
theorem cc_isN {ma : Mo CV} {j : Nat} {pos' : Pos} (ha : CE X N a ma) : CC X N .Is a (.Constant .none j pos') (isNm false ma) := by
  refine ⟨fun pins s σ H Q I h => (pc_isN ha).run pins s σ H Q I ?_⟩
  obtain ⟨μ, c, R, p⟩ := h
  refine ⟨μ, c, R, (RunAt.bind p).imp fun x μ1 c1 H1 a b r q v d => ?_⟩
  cases x with
  | d y =>
    have d : Den (kwOf X) H1 y v := d
    rw [isN_iff d]
    exact RunAt.ret q H1 (Fz.refl _) r _ (vden_bool _)
  | r _ => exact q.elim
  | o _ => exact q.elim
theorem cc_notN {ma : Mo CV} {j : Nat} {pos' : Pos} (ha : CE X N a ma) : CC X N .IsNot a (.Constant .none j pos') (isNm true ma) := by
  refine ⟨fun pins s σ H Q I h => (pc_notN ha).run pins s σ H Q I ?_⟩
  obtain ⟨μ, c, R, p⟩ := h
  refine ⟨μ, c, R, (RunAt.bind p).imp fun x μ1 c1 H1 a b r q v d => ?_⟩
  cases x with
  | d y =>
    have d : Den (kwOf X) H1 y v := d
    rw [isN_iff d]
    exact RunAt.ret q H1 (Fz.refl _) r _ (vden_bool _)
  | r _ => exact q.elim
  | o _ => exact q.elim

/-! ### in -/
def bItems (y : BV) : Option (List PyData) := match y with
  | .c (.d (.tuple xs)) => some xs
  | .c (.d (.list xs)) => some xs
  | .l xs => some xs
  | _ => none
def pIn (neg : Bool) (x : PyData) (y : BV) : Option PyData := match y with
  | .c (.d (.str t)) => match x with
    | .str z => match z.cps.toList with
      | [k] => some (.bool (if neg then !decide (k ∈ t.cps.toList) else decide (k ∈ t.cps.toList)))
      | _ => none
    | _ => none
  | y => match bItems y with
    | some xs => if PyData.plainAll xs = true ∧ x.plain = true ∧ min (PyData.depthAll xs) x.depth ≤ 60 then some (.bool (if neg then !(xs.any fun z => PyData.eqv z x) else xs.any fun z => PyData.eqv z x)) else none
    | none => none
def gIn (neg : Bool) : CV → BV → Mo CV := fun x y => match x with
  | .d x => mOpt ((pIn neg x y).map .d)
  | _ => fun _ => .no
/-- a list or tuple that is read on the spot -/
theorem bItems_reads {pins : List (Addr × Obj)} {s : Shared} {σ : LSt} {H : Hp} {μ : List Addr} {y : BV} {xs : List PyData} {w : V} {w' : Value} (I : Inv X pins σ H s) (d : BDen (kwOf X) H μ y w) (r : RelV w w') (e : bItems y = some xs) (pl : PyData.plainAll xs = true) :
    ∃ as, Reads s.heap w' (.list xs) as ∨ Reads s.heap w' (.tuple xs) as := by
  cases y with
  | c x =>
    cases x with
    | d x =>
      cases x with
      | tuple ys =>
        cases e
        obtain ⟨as, ra⟩ := Den.reads I (.tuple xs) w w' pl d r
        exact ⟨as, .inr ra⟩
      | list ys =>
        cases e
        obtain ⟨as, ra⟩ := Den.reads I (.list xs) w w' pl d r
        exact ⟨as, .inl ra⟩
      | none => cases e
      | bool _ => cases e
      | int _ => cases e
      | str _ => cases e
      | dict _ => cases e
    | r _ => cases e
    | o _ => cases e
  | l ys =>
    cases e
    obtain ⟨a, vs, rfl, h, dl⟩ := d
    obtain rfl : w' = Value.ref a := r
    obtain ⟨z, its, n, rv, eo⟩ := I.hok a _ h
    obtain ⟨as, ra⟩ := DenL.reads I xs vs its pl dl rv
    exact ⟨_, .inl (.list eo rfl rfl (by simpa using ra))⟩
  | k _ => cases e
theorem str_one {z : Str} {k : Nat} (h : z.cps.toList = [k]) : z = ⟨#[k]⟩ := by
  obtain ⟨c⟩ := z
  have : c = #[k] := by
    have h2 : c.toList = [k] := h
    exact Array.toList_inj.mp (by rw [h2])
  rw [this]
theorem gIn_cases {neg : Bool} {x : PyData} {y : BV} {z : PyData} (h : pIn neg x y = some z) :
    (∃ t k, y = .c (.d (.str t)) ∧ x = .str ⟨#[k]⟩ ∧ z = .bool (if neg then !decide (k ∈ t.cps.toList) else decide (k ∈ t.cps.toList))) ∨
    ∃ xs, bItems y = some xs ∧ (PyData.plainAll xs = true ∧ x.plain = true ∧ min (PyData.depthAll xs) x.depth ≤ 60) ∧ z = .bool (if neg then !(xs.any fun z => PyData.eqv z x) else xs.any fun z => PyData.eqv z x) := by
  have other : (match bItems y with
    | some xs => if PyData.plainAll xs = true ∧ x.plain = true ∧ min (PyData.depthAll xs) x.depth ≤ 60 then some (PyData.bool (if neg then !(xs.any fun z => PyData.eqv z x) else xs.any fun z => PyData.eqv z x)) else none
    | none => none) = some z → ∃ xs, bItems y = some xs ∧ (PyData.plainAll xs = true ∧ x.plain = true ∧ min (PyData.depthAll xs) x.depth ≤ 60) ∧ z = .bool (if neg then !(xs.any fun z => PyData.eqv z x) else xs.any fun z => PyData.eqv z x) := fun e => by
    cases hb : bItems y with
    | none =>
      rw [hb] at e
      cases e
    | some xs =>
      rw [hb] at e
      dsimp only at e
      by_cases hd : PyData.plainAll xs = true ∧ x.plain = true ∧ min (PyData.depthAll xs) x.depth ≤ 60
      · rw [if_pos hd] at e
        cases e
        exact ⟨xs, rfl, hd, rfl⟩
      · rw [if_neg hd] at e
        cases e
  cases y with
  | c y =>
    cases y with
    | d y =>
      cases y with
      | str t =>
        left
        cases x with
        | str w =>
          unfold pIn at h
          dsimp only at h
          cases hw : w.cps.toList with
          | nil =>
            rw [hw] at h
            cases h
          | cons k r =>
            cases r with
            | nil =>
              rw [hw] at h
              cases h
              exact ⟨t, k, rfl, by rw [str_one hw], rfl⟩
            | cons _ _ =>
              rw [hw] at h
              cases h
        | _ => cases h
      | tuple _ => exact .inr (other h)
      | list _ => exact .inr (other h)
      | none => exact .inr (other h)
      | bool _ => exact .inr (other h)
      | int _ => exact .inr (other h)
      | dict _ => exact .inr (other h)
    | r _ => exact .inr (other h)
    | o _ => exact .inr (other h)
  | l _ => exact .inr (other h)
  | k _ => exact .inr (other h)
theorem opb_in (hu : X.A.units + 100 < cLine) : OpB X N (compareOp .In) (gIn false) := by
  intro pins s σ H μ c x y v w v' w' Q I R d1 d2 r1 r2 p
  cases x with
  | r _ => exact p.elim
  | o _ => exact p.elim
  | d x =>
    obtain ⟨z, e, q⟩ := RunAt.opt p
    cases hp : pIn false x y with
    | none =>
      rw [hp] at e
      cases e
    | some z' =>
      rw [hp] at e
      cases e
      have d1 : Den (kwOf X) H x v := d1
      rcases gIn_cases hp with ⟨t, k, rfl, rfl, rfl⟩ | ⟨xs, hb, hd, rfl⟩
      · have d2 : Den (kwOf X) H (.str t) w := d2
        simp only [Den] at d1 d2
        subst d1 d2
        exact op_in_sign pins s σ H _ _ v' w' Q I r1 r2 ⟨k, t, rfl, rfl, q H (Fz.refl _) R _ (vden_bool _)⟩
      · obtain ⟨bs, rb⟩ := Den.reads I x v v' hd.2.1 d1 r1
        obtain ⟨as, ra | ra⟩ := bItems_reads I d2 r2 hb hd.1
        · exact SeqAt.in_list_data ra rb hd.1 hd.2.1 (by have := hd.2.2; omega) ⟨.bl _, H, I, rfl, q H (Fz.refl _) R _ (vden_bool _)⟩
        · exact SeqAt.in_tuple_data ra rb hd.1 hd.2.1 (by have := hd.2.2; omega) ⟨.bl _, H, I, rfl, q H (Fz.refl _) R _ (vden_bool _)⟩
theorem opb_notIn (hu : X.A.units + 100 < cLine) : OpB X N (compareOp .NotIn) (gIn true) := by
  intro pins s σ H μ c x y v w v' w' Q I R d1 d2 r1 r2 p
  cases x with
  | r _ => exact p.elim
  | o _ => exact p.elim
  | d x =>
    obtain ⟨z, e, q⟩ := RunAt.opt p
    cases hp : pIn true x y with
    | none =>
      rw [hp] at e
      cases e
    | some z' =>
      rw [hp] at e
      cases e
      have d1 : Den (kwOf X) H x v := d1
      rcases gIn_cases hp with ⟨t, k, rfl, rfl, rfl⟩ | ⟨xs, hb, hd, rfl⟩
      · have d2 : Den (kwOf X) H (.str t) w := d2
        simp only [Den] at d1 d2
        subst d1 d2
        exact op_notIn_sign pins s σ H _ _ v' w' Q I r1 r2 ⟨k, t, rfl, rfl, q H (Fz.refl _) R _ (vden_bool _)⟩
      · obtain ⟨bs, rb⟩ := Den.reads I x v v' hd.2.1 d1 r1
        obtain ⟨as, ra | ra⟩ := bItems_reads I d2 r2 hb hd.1
        · exact SeqAt.notIn_list_data ra rb hd.1 hd.2.1 (by have := hd.2.2; omega) ⟨.bl _, H, I, rfl, q H (Fz.refl _) R _ (vden_bool _)⟩
        · exact SeqAt.notIn_tuple_data ra rb hd.1 hd.2.1 (by have := hd.2.2; omega) ⟨.bl _, H, I, rfl, q H (Fz.refl _) R _ (vden_bool _)⟩

/-! ### and, or, not -/
def mAnd (ma mb : Mo Bool) : Mo Bool := mBind ma fun k => if k then mb else mRet false
def mOr (ma mb : Mo Bool) : Mo Bool := mBind ma fun k => if k then mRet true else mb
def mNot (ma : Mo Bool) : Mo Bool := mBind ma fun k => mRet (!k)
abbrev CW (X : Cx) (N : Wn) (e : Expr) (m : Mo Bool) : Prop := PW X e (tT (gh X N) N.W m)
theorem PW.tm {t t' : TT} (h : PW X e t) (f : ∀ σ H Q, t' σ H Q → t σ H Q) : PW X e t' := ⟨fun w pins s σ H Q I q => h.run w pins s σ H Q I (f _ _ _ q)⟩
theorem cw_and1 {ma : Mo Bool} (h : CT X N a ma) : CW X N (.BoolOp .And [a] pos) ma := pw_and1 h
theorem cw_or1 {ma : Mo Bool} (h : CT X N a ma) : CW X N (.BoolOp .Or [a] pos) ma := pw_or1 h
theorem cw_and {ma mb : Mo Bool} {rest : List Expr} (ha : CT X N a ma) (hb : CW X N (.BoolOp .And (b :: rest) pos) mb) : CW X N (.BoolOp .And (a :: b :: rest) pos) (mAnd ma mb) :=
  PW.tm (pw_and ha hb) fun σ H Q ⟨μ, c, R, p⟩ => ⟨μ, c, R, (RunAt.bind p).imp fun k μ1 c1 H1 a b r q => by
    cases k with
    | true => exact iteT ⟨μ1, c1, r, q⟩
    | false => exact iteF ((RunAt.ret (a := false) (by exact q)) H1 (Fz.refl _) r)⟩
theorem cw_or {ma mb : Mo Bool} {rest : List Expr} (ha : CT X N a ma) (hb : CW X N (.BoolOp .Or (b :: rest) pos) mb) : CW X N (.BoolOp .Or (a :: b :: rest) pos) (mOr ma mb) :=
  PW.tm (pw_or ha hb) fun σ H Q ⟨μ, c, R, p⟩ => ⟨μ, c, R, (RunAt.bind p).imp fun k μ1 c1 H1 a b r q => by
    cases k with
    | false => exact iteF ⟨μ1, c1, r, q⟩
    | true => exact iteT ((RunAt.ret (a := true) (by exact q)) H1 (Fz.refl _) r)⟩
theorem ct_w {ma : Mo Bool} (h : CW X N e ma) : CT X N e ma := h.pt
theorem ct_not {ma : Mo Bool} (h : CT X N a ma) : CT X N (.UnaryOp .Not a pos) (mNot ma) :=
  PT.tm (pt_not h) fun σ H Q ⟨μ, c, R, p⟩ => ⟨μ, c, R, (RunAt.bind p).imp fun k μ1 c1 H1 a b r q => q.ret H1 (Fz.refl _) r⟩
/-- as values -/
def mAndV (ma mb : Mo CV) : Mo CV := mBind (mTru ma) fun k => if k then mb else mRet (.d (.bool false))
def mOrV (ma mb : Mo CV) : Mo CV := mBind (mTru ma) fun k => if k then mRet (.d (.bool true)) else mb
def mNotV (ma : Mo CV) : Mo CV := mBind (mTru ma) fun k => mRet (.d (.bool (!k)))
theorem ce_one {op : BoolOp} {ma : Mo CV} (h : CE X N a ma) : CE X N (.BoolOp op [a] pos) ma := pe_one h
theorem tru_bind {α : Type} {ma : Mo CV} {f : Bool → Mo α} {μ : List Addr} {c : CS} {σ : LSt} {H : Hp} {P : α → List Addr → CS → Hp → Prop} (p : RunAt (gh X N) N.W (mBind (mTru ma) f) μ c σ H P) :
    RunAt (gh X N) N.W ma μ c σ H fun x μ1 c1 H1 => ∃ k, x = .d (.bool k) ∧ RunAt (gh X N) N.W (f k) μ1 c1 σ H1 P := by
  unfold mTru at p
  rw [mBind_assoc] at p
  exact (RunAt.bind p).imp fun x μ1 c1 H1 a b r q => asB_ret q
theorem ce_and {ma mb : Mo CV} {rest : List Expr} (ha : CE X N a ma) (hb : CE X N (.BoolOp .And (b :: rest) pos) mb) : CE X N (.BoolOp .And (a :: b :: rest) pos) (mAndV ma mb) :=
  PE.tm (pe_and ha hb) fun σ H Q ⟨μ, c, R, p⟩ => ⟨μ, c, R, (tru_bind p).imp fun x μ1 c1 H1 a b r ⟨k, ex, q⟩ v d => by
    subst ex
    refine ⟨k, asB_den d, ?_⟩
    cases k with
    | true => exact iteT ⟨μ1, c1, r, q⟩
    | false =>
      have q : RunAt (gh X N) N.W (mRet (CV.d (.bool false))) μ1 c1 σ H1 (fun x μ1 _ H1 => ∀ v, VDen (kwOf X) H1 μ1 x v → Q v H1) := q
      exact iteF (q.ret H1 (Fz.refl _) r _ (vden_bool false))⟩
theorem ce_or {ma mb : Mo CV} {rest : List Expr} (ha : CE X N a ma) (hb : CE X N (.BoolOp .Or (b :: rest) pos) mb) : CE X N (.BoolOp .Or (a :: b :: rest) pos) (mOrV ma mb) :=
  PE.tm (pe_or ha hb) fun σ H Q ⟨μ, c, R, p⟩ => ⟨μ, c, R, (tru_bind p).imp fun x μ1 c1 H1 a b r ⟨k, ex, q⟩ v d => by
    subst ex
    refine ⟨k, asB_den d, ?_⟩
    cases k with
    | false => exact iteF ⟨μ1, c1, r, q⟩
    | true =>
      have q : RunAt (gh X N) N.W (mRet (CV.d (.bool true))) μ1 c1 σ H1 (fun x μ1 _ H1 => ∀ v, VDen (kwOf X) H1 μ1 x v → Q v H1) := q
      exact iteT (q.ret H1 (Fz.refl _) r _ (vden_bool true))⟩
theorem ce_not {ma : Mo CV} (ha : CE X N a ma) : CE X N (.UnaryOp .Not a pos) (mNotV ma) :=
  PE.tm (pe_not ha) fun σ H Q ⟨μ, c, R, p⟩ => ⟨μ, c, R, (tru_bind p).imp fun x μ1 c1 H1 a b r ⟨k, ex, q⟩ v d => by
    subst ex
    exact ⟨k, asB_den d, q.ret H1 (Fz.refl _) r _ (vden_bool _)⟩⟩
def mIf {α : Type} (mc : Mo Bool) (ma mb : Mo α) : Mo α := mBind mc fun k => if k then ma else mb
theorem ce_if {d : Expr} {mc : Mo Bool} {ma mb : Mo CV} (hc : CT X N d mc) (ha : CE X N a ma) (hb : CE X N b mb) : CE X N (.IfExp d a b pos) (mIf mc ma mb) :=
  PE.tm (pe_ifExp hc ha hb) fun σ H Q ⟨μ, c, R, p⟩ => ⟨μ, c, R, (RunAt.bind p).imp fun k μ1 c1 H1 a b r q => by
    cases k with
    | true => exact iteT ⟨μ1, c1, r, q⟩
    | false => exact iteF ⟨μ1, c1, r, q⟩⟩
theorem cb_if {d : Expr} {mc : Mo Bool} {ma mb : Mo BV} (hc : CT X N d mc) (ha : CB X N a ma) (hb : CB X N b mb) : CB X N (.IfExp d a b pos) (mIf mc ma mb) :=
  PE.tm (pe_ifExp hc ha hb) fun σ H Q ⟨μ, c, R, p⟩ => ⟨μ, c, R, (RunAt.bind p).imp fun k μ1 c1 H1 a b r q => by
    cases k with
    | true => exact iteT ⟨μ1, c1, r, q⟩
    | false => exact iteF ⟨μ1, c1, r, q⟩⟩
theorem cf_if {d : Expr} {mc : Mo Bool} {ma mb : Mo (List PyData)} (hc : CT X N d mc) (ha : CF X N a ma) (hb : CF X N b mb) : CF X N (.IfExp d a b pos) (mIf mc ma mb) :=
  PE.tm (pe_ifExp hc ha hb) fun σ H Q ⟨μ, c, R, p⟩ => ⟨μ, c, R, (RunAt.bind p).imp fun k μ1 c1 H1 a b r q => by
    cases k with
    | true => exact iteT ⟨μ1, c1, r, q⟩
    | false => exact iteF ⟨μ1, c1, r, q⟩⟩

/-! ### argument lists, displays -/
def mNil : Mo (List CV) := mRet []
def mCons (ma : Mo CV) (mr : Mo (List CV)) : Mo (List CV) := mBind ma fun x => mBind mr fun xs => mRet (x :: xs)
theorem ca_nil : CA X N [] mNil := by
  refine ⟨fun pos pins s σ H Q I h => ?_⟩
  obtain ⟨μ, c, R, p⟩ := h
  exact Calls.spliced_nil ⟨[], H, I, .nil, p.ret H (Fz.refl _) R [] .nil⟩
theorem ca_cons {es : List Expr} {ma : Mo CV} {mr : Mo (List CV)} (ha : CE X N e ma) (hr : CA X N es mr) (hs : starEach (e :: es) X.env = (false, eval e X.env) :: starEach es X.env := by rfl) : CA X N (e :: es) (mCons ma mr) := by
  refine ⟨fun pos pins s σ H Q I h => ?_⟩
  obtain ⟨μ, c, R, p⟩ := h
  rw [hs]
  show wpAny _ _ (spliced ((false, eval e X.env) :: backTo pos (starEach es X.env))) _ _ s
  refine Calls.spliced_cons (thn (use_e ha I R p.bind) fun v' s1 ⟨v, x, μ1, c1, H1, I1, r1, d1, R1, p1, f1, q1⟩ => ?_)
  refine thn (use_a (pos := pos) hr I1 R1 q1.bind) fun us s2 ⟨vs, xs, μ2, c2, H2, I2, r2, d2, R2, p2, f2, q2⟩ => ?_
  exact ⟨v :: vs, H2, I2, .cons r1 r2, q2.ret H2 (Fz.refl _) R2 _ (.cons (d1.mono f2 p2) d2)⟩
/-- the items of what is read on the spot -/
def itemsOf (y : BV) : Mo (List CV) := match bItems y with
  | some xs => mRet (xs.map .d)
  | none => fun _ => .no
theorem denL_v {K : KW} {H : Hp} {μ : List Addr} : ∀ {xs : List PyData} {vs : List V}, DenL K H xs vs → VDenL K H μ (xs.map .d) vs
  | [], vs, h => by
    simp only [DenL] at h
    subst h
    exact .nil
  | x :: xs, vs, h => by
    simp only [DenL] at h
    obtain ⟨v, r, rfl, d, t⟩ := h
    exact .cons d (denL_v t)
theorem bItems_sq {H : Hp} {K : KW} {μ : List Addr} {y : BV} {xs : List PyData} {w : V} (d : BDen K H μ y w) (e : bItems y = some xs) : ∃ a vs, w = .ref a ∧ (SqT K.K H a vs ∨ SqL K.K H a vs) ∧ DenL K H xs vs := by
  cases y with
  | c x =>
    cases x with
    | d x =>
      cases x with
      | tuple ys =>
        cases e
        have d : Den K H (.tuple xs) w := d
        simp only [Den] at d
        obtain ⟨a, vs, e, q, dl⟩ := d
        exact ⟨a, vs, e, .inl q, dl⟩
      | list ys =>
        cases e
        have d : Den K H (.list xs) w := d
        simp only [Den] at d
        obtain ⟨a, vs, e, q, dl⟩ := d
        exact ⟨a, vs, e, .inr q.sq, dl⟩
      | none => cases e
      | bool _ => cases e
      | int _ => cases e
      | str _ => cases e
      | dict _ => cases e
    | r _ => cases e
    | o _ => cases e
  | l ys =>
    cases e
    obtain ⟨a, vs, e, h, dl⟩ := d
    exact ⟨a, vs, e, .inr (SqL.of h), dl⟩
  | k _ => cases e
def mStar (ma : Mo BV) (mr : Mo (List CV)) : Mo (List CV) := mBind ma fun y => mBind (itemsOf y) fun xs => mBind mr fun ys => mRet (xs ++ ys)
theorem ca_star {es : List Expr} {p : Pos} {ma : Mo BV} {mr : Mo (List CV)} (ha : CB X N e ma) (hr : CA X N es mr) (hs : starEach (.Starred e p :: es) X.env = (true, eval e X.env) :: starEach es X.env := by rfl) : CA X N (.Starred e p :: es) (mStar ma mr) := by
  refine ⟨fun pos pins s σ H Q I h => (StX.pa_star ha hr hs).run pos pins s σ H Q I ?_⟩
  obtain ⟨μ, c, R, p⟩ := h
  refine ⟨μ, c, R, (RunAt.bind p).imp fun y μ1 c1 H1 a b r q v d => ?_⟩
  have q := RunAt.bind q
  unfold itemsOf at q
  cases hb : bItems y with
  | none =>
    rw [hb] at q
    exact q.elim
  | some xs =>
    rw [hb] at q
    obtain ⟨p, vs, rfl, sq, dl⟩ := bItems_sq d hb
    have q := RunAt.ret q H1 (Fz.refl _) r
    refine ⟨p, vs, rfl, sq, μ1, c1, r, (RunAt.bind q).imp fun ys μ2 c2 H2 a2 b2 r2 q2 ws d2 => ?_⟩
    refine q2.ret H2 (Fz.refl _) r2 _ ?_
    have h1 : VDenL (kwOf X) H2 μ2 (xs.map .d) vs := denL_v (DenL.mono b2 _ _ dl)
    exact paired_app h1 d2
def asD : List CV → Option (List PyData)
  | [] => some []
  | .d x :: r => (asD r).map (x :: ·)
  | _ :: _ => none
theorem asD_den {K : KW} {H : Hp} {μ : List Addr} : ∀ {xs : List CV} {ys : List PyData} {vs : List V}, asD xs = some ys → VDenL K H μ xs vs → DenL K H ys vs
  | [], ys, vs, e, h => by
    cases e
    cases h
    exact .nil
  | .d x :: r, ys, vs, e, h => by
    unfold asD at e
    cases hr : asD r with
    | none =>
      rw [hr] at e
      cases e
    | some zs =>
      rw [hr] at e
      cases e
      cases h with
      | cons h1 h2 => exact .cons h1 (asD_den hr h2)
  | .r _ :: _, _, _, e, _ => by cases e
  | .o _ :: _, _, _, e, _ => by cases e
def mkT (xs : List CV) : Option CV := match asD xs with
  | some ys => if ys.length ≤ 16777216 then some (.d (.tuple ys)) else none
  | none => none
def mTup (m : Mo (List CV)) : Mo CV := mBind m fun xs => mOpt (mkT xs)
theorem ce_tup {es : List Expr} {k : Nat} {m : Mo (List CV)} (h : CA X N es m) : CE X N (.Tuple es k pos) (mTup m) :=
  PE.tm (pe_tup h) fun σ H Q ⟨μ, c, R, p⟩ => ⟨μ, c, R, (RunAt.bind p).imp fun xs μ1 c1 H1 a b r q vs d => by
    obtain ⟨z, e, q⟩ := RunAt.opt q
    unfold mkT at e
    cases hd : asD xs with
    | none =>
      rw [hd] at e
      cases e
    | some ys =>
      rw [hd] at e
      dsimp only at e
      by_cases hl : ys.length ≤ 16777216
      · rw [if_pos hl] at e
        cases e
        have dl := asD_den hd d
        refine ⟨by rw [dl.length, sizeLine_eq]; exact hl, fun p hp => ?_⟩
        exact q _ (Fz.same (same_new hp)) (r.same (same_new hp)) _ (den_tup (DenL.mono (Fz.same (same_new hp)) _ _ dl) (SqT.of upd_same))
      · rw [if_neg hl] at e
        cases e⟩
def mkL (xs : List CV) : Option (List PyData) := match asD xs with
  | some ys => if ys.length ≤ 16777216 then some ys else none
  | none => none
def mLst (m : Mo (List CV)) : Mo (List PyData) := mBind m fun xs => mOpt (mkL xs)
theorem cf_lst {es : List Expr} {m : Mo (List CV)} (h : CA X N es m) : CF X N (.List es pos) (mLst m) :=
  PE.tm (pe_lst h) fun σ H Q ⟨μ, c, R, p⟩ => ⟨μ, c, R, (RunAt.bind p).imp fun xs μ1 c1 H1 a b r q vs d => by
    obtain ⟨z, e, q⟩ := RunAt.opt q
    unfold mkL at e
    cases hd : asD xs with
    | none =>
      rw [hd] at e
      cases e
    | some ys =>
      rw [hd] at e
      dsimp only at e
      by_cases hl : ys.length ≤ 16777216
      · rw [if_pos hl] at e
        cases e
        have dl := asD_den hd d
        refine ⟨by rw [dl.length, sizeLine_eq]; exact hl, fun p hp => ?_⟩
        exact q H1 (Fz.refl _) r p vs hp dl
      · rw [if_neg hl] at e
        cases e⟩
end
end Cl

set_option Elab.async false
set_option maxRecDepth 100000
set_option maxHeartbeats 2000000
namespace Cl
open PySem PySem.Spec PyProof.Rows L2
section
variable {X : Cx} {N : Wn} {e a b : Expr} {pos : Pos}
/-! ### subscripts -/
def pIx (y : BV) (i : Int) (hp : List CO) : Option CV := match y with
  | .c (.d (.tuple xs)) => (atI xs i).map .d
  | .c (.d (.list xs)) => (atI xs i).map .d
  | .c (.d (.str t)) => if t.length ≤ 16777216 then (atI t.cps.toList i).map fun k => .d (.str ⟨#[k]⟩) else none
  | .l xs => (atI xs i).map .d
  | .c (.r n) => match hp[n]? with
    | some (.lst xs) => atI xs i
    | _ => none
  | _ => none
def gIx (y : BV) (x : CV) : Mo CV := fun c => match x with
  | .d (.int i) => match pIx y i c.hp with
    | some z => .ok z c
    | none => .no
  | _ => .no
theorem gIx_ok {y : BV} {x : CV} {μ : List Addr} {c : CS} {σ : LSt} {H : Hp} {W : WX} {G : Gh} {P : CV → List Addr → CS → Hp → Prop} (p : RunAt G W (gIx y x) μ c σ H P) : ∃ i z, x = .d (.int i) ∧ pIx y i c.hp = some z ∧ ∀ H1, Fz H H1 → Rel G μ c σ H1 → P z μ c H1 := by
  unfold RunAt gIx at p
  cases x with
  | d x =>
    cases x with
    | int i =>
      dsimp only at p
      cases h : pIx y i c.hp with
      | none =>
        rw [h] at p
        exact p.elim
      | some z =>
        rw [h] at p
        exact ⟨i, z, rfl, h, fun H1 f r => p μ H1 (List.prefix_refl _) f r⟩
    | none => exact p.elim
    | bool _ => exact p.elim
    | str _ => exact p.elim
    | list _ => exact p.elim
    | tuple _ => exact p.elim
    | dict _ => exact p.elim
  | r _ => exact p.elim
  | o _ => exact p.elim
theorem atI_rel {K : KW} {H : Hp} {xs : List PyData} {vs : List V} {i : Int} {x : PyData} (d : DenL K H xs vs) (h : atI xs i = some x) : ∃ v, atI vs i = some v ∧ Den K H x v := by
  unfold atI at h ⊢
  rw [d.length]
  cases hn : ixN xs.length i with
  | none =>
    rw [hn] at h
    cases h
  | some j =>
    rw [hn] at h
    exact DenL.get d h
theorem paired_get {α β : Type} {F : α → β → Prop} : ∀ {l1 : List α} {l2 : List β} {i : Nat} {x : α}, Paired F l1 l2 → l1[i]? = some x → ∃ y, l2[i]? = some y ∧ F x y
  | _, _, _, _, .nil, e => by simp at e
  | _, _, 0, _, .cons h _, e => by
    simp at e
    subst e
    exact ⟨_, rfl, h⟩
  | _, _, i + 1, _, .cons _ t, e => paired_get (i := i) t (by simpa using e)
theorem atI_relV {K : KW} {H : Hp} {μ : List Addr} {xs : List CV} {vs : List V} {i : Int} {x : CV} (d : VDenL K H μ xs vs) (h : atI xs i = some x) : ∃ v, atI vs i = some v ∧ VDen K H μ x v := by
  unfold atI at h ⊢
  rw [← Paired.length d]
  cases hn : ixN xs.length i with
  | none =>
    rw [hn] at h
    cases h
  | some j =>
    rw [hn] at h
    exact paired_get d h
theorem ix_run {value slice : Expr} {pins : List (Addr × Obj)} {s : Shared} {σ : LSt} {H : Hp} {μ : List Addr} {c : CS} {y : BV} {i : Int} {z : CV} {v w : V} {v' w' : Value} {Q : VK} (I : Inv X pins σ H s) (R : Rel (gh X N) μ c σ H) (dy : BDen (kwOf X) H μ y v) (dw : w = .int i) (r1 : RelV v v') (r2 : RelV w w')
    (h : pIx y i c.hp = some z) (q : ∀ zv, VDen (kwOf X) H μ z zv → Q zv H) (hs : subscripted slice false v' w' = operate [v', w'] (getItem v' w')) : wpAny (model X.prog X.w) X.A (subscriptTail value slice v' w') (EP X pins σ Q) X.xe s := by
  subst dw
  have tup : ∀ xs, Den (kwOf X) H (.tuple xs) v → (atI xs i).map CV.d = some z → wpAny (model X.prog X.w) X.A (subscriptTail value slice v' w') (EP X pins σ Q) X.xe s := fun xs d e => by
    simp only [Den] at d
    obtain ⟨a, vs, rfl, sq, dl⟩ := d
    cases hx : atI xs i with
    | none =>
      rw [hx] at e
      cases e
    | some x =>
      rw [hx] at e
      cases e
      obtain ⟨u, hu, du⟩ := atI_rel dl hx
      exact ix_tup value slice pins s σ H _ _ v' w' Q I r1 r2 ⟨a, vs, i, u, rfl, rfl, sq, hu, q u du⟩ hs
  have lst : ∀ xs a vs, v = .ref a → SqL X.K H a vs → DenL (kwOf X) H xs vs → (atI xs i).map CV.d = some z → wpAny (model X.prog X.w) X.A (subscriptTail value slice v' w') (EP X pins σ Q) X.xe s := fun xs a vs ev sq dl e => by
    subst ev
    cases hx : atI xs i with
    | none =>
      rw [hx] at e
      cases e
    | some x =>
      rw [hx] at e
      cases e
      obtain ⟨u, hu, du⟩ := atI_rel dl hx
      exact ix_list value slice pins s σ H _ _ v' w' Q I r1 r2 ⟨a, vs, i, u, rfl, rfl, sq, hu, q u du⟩ hs
  cases y with
  | c x =>
    cases x with
    | d x =>
      cases x with
      | tuple xs => exact tup xs dy h
      | list xs =>
        have dy : Den (kwOf X) H (.list xs) v := dy
        simp only [Den] at dy
        obtain ⟨a, vs, e, sq, dl⟩ := dy
        exact lst xs a vs e sq.sq dl h
      | str t =>
        have dy : Den (kwOf X) H (.str t) v := dy
        simp only [Den] at dy
        subst dy
        unfold pIx at h
        dsimp only at h
        by_cases hl : t.length ≤ 16777216
        · rw [if_pos hl] at h
          cases hx : atI t.cps.toList i with
          | none =>
            rw [hx] at h
            cases h
          | some k =>
            rw [hx] at h
            cases h
            exact ix_str value slice pins s σ H _ _ v' w' Q I r1 r2 ⟨t, i, k, rfl, rfl, by rw [sizeLine_eq]; exact hl, hx, q _ (den_str (K := kwOf X) (H := H) _)⟩ hs
        · rw [if_neg hl] at h
          cases h
      | none => cases h
      | bool _ => cases h
      | int _ => cases h
      | dict _ => cases h
    | r n =>
      unfold pIx at h
      dsimp only at h
      cases hn : c.hp[n]? with
      | none =>
        rw [hn] at h
        cases h
      | some o =>
        rw [hn] at h
        cases o with
        | lst xs =>
          obtain ⟨a, ho, e1, e2, vs, rfl, dl⟩ := R.hp n _ hn
          obtain ⟨a', e3, rfl⟩ := dy
          rw [e1] at e3
          cases e3
          obtain ⟨u, hu, du⟩ := atI_relV dl h
          exact ix_list value slice pins s σ H _ _ v' w' Q I r1 r2 ⟨a, vs, i, u, rfl, rfl, SqL.of e2, hu, q u du⟩ hs
        | dic _ => cases h
        | ins _ _ => cases h
    | o _ => cases h
  | l xs =>
    obtain ⟨a, vs, e, hh, dl⟩ := dy
    exact lst xs a vs e (SqL.of hh) dl h
  | k _ => cases h
def mIx (ma mb : Mo CV) : Mo CV := mBind ma fun x => mBind mb fun y => gIx (.c x) y
theorem ce_ix {ma mb : Mo CV} (ha : CE X N a ma) (hb : CE X N b mb) (hs : PlainIx b := by exact fun _ _ => rfl) : CE X N (.Subscript a b pos) (mIx ma mb) := by
  refine ⟨fun pins s σ H Q I h => ?_⟩
  obtain ⟨μ, c, R, p⟩ := h
  refine Subscript_ (run2 (f := subscriptTail a b) ha hb I R p fun s2 H2 μ2 c2 x y v w v' w' I2 R2 d1 d2 r1 r2 q => ?_)
  obtain ⟨i, z, rfl, e, q⟩ := gIx_ok q
  have d2 : Den (kwOf X) H2 (.int i) w := d2
  simp only [Den] at d2
  exact ix_run (y := .c x) I2 R2 d1 d2 r1 r2 e (q H2 (Fz.refl _) R2) (hs _ _)
/-- x[b], x a name: x is read behind b (it stands where it stood) -/
def mIxN (i : Nat) (mb : Mo CV) : Mo CV := mBind (mPeek i) fun _ => mBind mb fun y => mBind (mPeek i) fun x => gIx x y
/-- a name that is read on the spot is there -/
theorem peek_at {i : Nat} {μ : List Addr} {c : CS} {σ : LSt} {H : Hp} {P : BV → List Addr → CS → Hp → Prop} (R : Rel (gh X N) μ c σ H) (q : RunAt (gh X N) N.W (mPeek i) μ c σ H P) :
    ∃ v y, σ[i]? = some (some v) ∧ BDen (kwOf X) H μ y v ∧ P y μ c H := by
  unfold RunAt mPeek at q
  cases e : c.sl[i]? with
  | none =>
    rw [e] at q
    exact q.elim
  | some sl =>
    rw [e] at q
    cases sl with
    | un => exact q.elim
    | v u =>
      obtain ⟨u', eu, du⟩ := R.vl i u e
      exact ⟨u', .c u, eu, du, q μ H (List.prefix_refl _) (Fz.refl _) R⟩
    | ol xs =>
      obtain ⟨a, ho, eu, e2, ⟨vs, e3, dl⟩, _⟩ := R.ow i _ e rfl
      subst e3
      exact ⟨.ref a, .l xs, eu, ⟨a, vs, rfl, e2, dl⟩, q μ H (List.prefix_refl _) (Fz.refl _) R⟩
    | od kvs =>
      obtain ⟨a, ho, eu, e2, e3, _⟩ := R.ow i _ e rfl
      exact ⟨.ref a, .k kvs, eu, ⟨a, ho, rfl, e2, e3⟩, q μ H (List.prefix_refl _) (Fz.refl _) R⟩
theorem peek_there {α : Type} {i : Nat} {f : BV → Mo α} {μ : List Addr} {c : CS} {σ : LSt} {H : Hp} {P : α → List Addr → CS → Hp → Prop} (R : Rel (gh X N) μ c σ H) (p : RunAt (gh X N) N.W (mBind (mPeek i) f) μ c σ H P) :
    ∃ v y, σ[i]? = some (some v) ∧ BDen (kwOf X) H μ y v ∧ RunAt (gh X N) N.W (f y) μ c σ H P := peek_at R p.bind
theorem ce_ixn (i : Nat) {x : Str} {pos' : Pos} {mb : Mo CV} (hb : CE X N b mb) (hN : X.N[i]? = some x := by rfl) (hv : Vis X.env.scope x := by first | exact Or.inl rfl | exact Or.inr (Or.inl rfl) | exact Or.inr (Or.inr rfl)) (hd : (x == ("__debug__" : Str)) = false := by decide)
    (hcd : (x == ("__classdict__" : Str)) = false := by decide) (hs : PlainIx b := by exact fun _ _ => rfl) : CE X N (.Subscript (.Name x pos') b pos) (mIxN i mb) := by
  refine ⟨fun pins s σ H Q I h => ?_⟩
  obtain ⟨μ, c, R, p⟩ := h
  obtain ⟨v, y0, hv0, _, p⟩ := peek_there R p
  refine Subscript_ (thn ((pe_var (X := X) (i := i) hN hv hd hcd).run pins s σ H (fun v1 H1 => v1 = v ∧ H1 = H) I ⟨v, hv0, rfl, rfl⟩) fun v' s1 ⟨v1, H1, I1, r1, e1, e2⟩ => ?_)
  subst e1 e2
  refine thn (use_e hb I1 R p.bind) fun w' s2 ⟨w, y, μ2, c2, H2, I2, r2, d2, R2, p2, f2, q2⟩ => ?_
  obtain ⟨v2, y2, hv2, db, q⟩ := peek_there R2 q2
  rw [hv0] at hv2
  cases hv2
  obtain ⟨i, z, rfl, e, q⟩ := gIx_ok q
  have d2 : Den (kwOf X) H2 (.int i) w := d2
  simp only [Den] at d2
  exact ix_run I2 R2 db d2 r1 r2 e (q H2 (Fz.refl _) R2) (hs _ _)

/-! ### slices -/
def cutP (xs : List PyData) (lo hi : Option Int) : List PyData := (xs.drop (HT.sIx xs.length 0 lo)).take (HT.sIx xs.length xs.length hi - HT.sIx xs.length 0 lo)
def mPart (m : Mo CV) : Mo (Option Int) := mBind m fun x => match x with
  | .d (.int i) => mRet (some i)
  | _ => fun _ => .no
def tPc (G : Gh) (W : WX) (m : Mo (Option Int)) : TO := fun σ H Q => ∃ μ c, Rel G μ c σ H ∧ RunAt G W m μ c σ H fun o _ _ H1 => Q o H1
abbrev CP (X : Cx) (N : Wn) (e : Option Expr) (m : Mo (Option Int)) : Prop := PO X e (tPc (gh X N) N.W m)
theorem cp_none : CP X N none (mRet none) := by
  refine ⟨fun pins s σ H Q I h => po_none.run pins s σ H Q I ?_⟩
  obtain ⟨μ, c, R, p⟩ := h
  exact p.ret H (Fz.refl _) R
theorem cp_some {m : Mo CV} (h : CE X N e m) : CP X N (some e) (mPart m) := by
  refine ⟨fun pins s σ H Q I hq => (po_some h).run pins s σ H Q I ?_⟩
  obtain ⟨μ, c, R, p⟩ := hq
  refine ⟨μ, c, R, (RunAt.bind p).imp fun x μ1 c1 H1 a b r q v d => ?_⟩
  cases x with
  | d x =>
    cases x with
    | int i =>
      have d : Den (kwOf X) H1 (.int i) v := d
      simp only [Den] at d
      exact ⟨i, d, RunAt.ret (a := some i) q H1 (Fz.refl _) r⟩
    | none => exact q.elim
    | bool _ => exact q.elim
    | str _ => exact q.elim
    | list _ => exact q.elim
    | tuple _ => exact q.elim
    | dict _ => exact q.elim
  | r _ => exact q.elim
  | o _ => exact q.elim
def pSl (x : CV) (lo hi : Option Int) : Option PyData := match x with
  | .d (.tuple xs) => some (.tuple (cutP xs lo hi))
  | .d (.str t) => if t.length ≤ 16777216 then some (.str (cutS t lo hi)) else none
  | _ => none
/-- x[lo:hi] of a tuple, of a text -/
def mSl (ma : Mo CV) (ml mh : Mo (Option Int)) : Mo CV := mBind ma fun x => mBind ml fun lo => mBind mh fun hi => mOpt ((pSl x lo hi).map .d)
theorem cut_den {K : KW} {H : Hp} {xs : List PyData} {vs : List V} (d : DenL K H xs vs) (lo hi : Option Int) : DenL K H (cutP xs lo hi) (cutV vs lo hi) := by
  unfold cutP cutV
  rw [d.length]
  exact DenL.take _ (DenL.drop _ d)
theorem cutP_whole {xs : List PyData} {lo hi : Option Int} (h1 : HT.sIx xs.length 0 lo = 0) (h2 : HT.sIx xs.length xs.length hi = xs.length) : cutP xs lo hi = xs := by
  unfold cutP
  rw [h1, h2, List.drop_zero, Nat.sub_zero, List.take_length]
theorem slr_c {lo hi : Option Int} {x : CV} {z : PyData} {μ : List Addr} {H : Hp} {v : V} {Q : VK} (d : VDen (kwOf X) H μ x v) (e : pSl x lo hi = some z) (q : ∀ H1 zv, Same H H1 → Den (kwOf X) H1 z zv → Q zv H1) : rSlA X.K v lo hi H Q ∨ rSlS v lo hi H Q := by
  cases x with
  | d x =>
    cases x with
    | tuple xs =>
      left
      cases e
      have d : Den (kwOf X) H (.tuple xs) v := d
      simp only [Den] at d
      obtain ⟨a, vs, rfl, sq, dl⟩ := d
      refine ⟨a, vs, rfl, sq, fun w => ?_, fun _ p hp => ?_⟩
      · rw [dl.length] at w
        rw [cutP_whole w.1 w.2] at q
        exact q H _ (Same.refl H) (den_tup dl sq)
      · exact q _ _ (same_new hp) (den_tup (DenL.mono (Fz.same (same_new hp)) _ _ (cut_den dl lo hi)) (SqT.of upd_same))
    | str t =>
      right
      unfold pSl at e
      dsimp only at e
      by_cases hl : t.length ≤ 16777216
      · rw [if_pos hl] at e
        cases e
        have d : Den (kwOf X) H (.str t) v := d
        simp only [Den] at d
        exact ⟨t, d, by rw [sizeLine_eq]; exact hl, q H _ (Same.refl H) (den_str _)⟩
      · rw [if_neg hl] at e
        cases e
    | none => cases e
    | bool _ => cases e
    | int _ => cases e
    | list _ => cases e
    | dict _ => cases e
  | r _ => cases e
  | o _ => cases e
theorem ce_sl {lo hi : Option Expr} {p2 : Pos} {ma : Mo CV} {ml mh : Mo (Option Int)} (ha : CE X N a ma) (hl : CP X N lo ml) (hh : CP X N hi mh) : CE X N (.Subscript a (.Slice lo hi none p2) pos) (mSl ma ml mh) := by
  refine PE.tm (pe_slice (sl_tupA.or sl_str) ha hl hh) fun σ H Q ⟨μ, c, R, p⟩ => ⟨μ, c, R, (RunAt.bind p).imp fun x μ1 c1 H1 a1 b1 r1 q1 v d => ⟨μ1, c1, r1, (RunAt.bind q1).imp fun l μ2 c2 H2 a2 b2 r2 q2 => ⟨μ2, c2, r2, (RunAt.bind q2).imp fun h μ3 c3 H3 a3 b3 r3 q3 => ?_⟩⟩⟩
  obtain ⟨z, e, q⟩ := RunAt.opt q3
  cases hz : pSl x l h with
  | none =>
    rw [hz] at e
    cases e
  | some z' =>
    rw [hz] at e
    cases e
    exact slr_c ((d.mono b2 a2).mono b3 a3) hz fun H4 zv sm dz => q H4 (Fz.same sm) (r3.same sm) zv dz
/-- x[lo:hi] of a list: a new list -/
def mSlL (ma : Mo CV) (ml mh : Mo (Option Int)) : Mo (List PyData) := mBind ma fun x => mBind ml fun lo => mBind mh fun hi => match x with
  | .d (.list xs) => mRet (cutP xs lo hi)
  | _ => fun _ => .no
theorem cf_sl {lo hi : Option Expr} {p2 : Pos} {ma : Mo CV} {ml mh : Mo (Option Int)} (ha : CE X N a ma) (hl : CP X N lo ml) (hh : CP X N hi mh) : CF X N (.Subscript a (.Slice lo hi none p2) pos) (mSlL ma ml mh) := by
  refine PE.tm (pe_slice sl_list ha hl hh) fun σ H Q ⟨μ, c, R, p⟩ => ⟨μ, c, R, (RunAt.bind p).imp fun x μ1 c1 H1 a1 b1 r1 q1 v d => ⟨μ1, c1, r1, (RunAt.bind q1).imp fun l μ2 c2 H2 a2 b2 r2 q2 => ⟨μ2, c2, r2, (RunAt.bind q2).imp fun h μ3 c3 H3 a3 b3 r3 q3 => ?_⟩⟩⟩
  cases x with
  | d x =>
    cases x with
    | list xs =>
      have d : Den (kwOf X) H1 (.list xs) v := d
      have d := Den.mono b3 _ _ (Den.mono b2 _ _ d)
      simp only [Den] at d
      obtain ⟨a, vs, rfl, sq, dl⟩ := d
      exact ⟨a, vs, rfl, sq.sq, fun p hp => RunAt.ret (a := cutP xs l h) q3 H3 (Fz.refl _) r3 p _ hp (cut_den dl l h)⟩
    | none => exact q3.elim
    | bool _ => exact q3.elim
    | int _ => exact q3.elim
    | str _ => exact q3.elim
    | tuple _ => exact q3.elim
    | dict _ => exact q3.elim
  | r _ => exact q3.elim
  | o _ => exact q3.elim
end
end Cl

set_option Elab.async false
set_option maxRecDepth 100000
set_option maxHeartbeats 2000000
namespace Cl
open PySem PySem.Spec PyProof.Rows L2
/-! ### statements -/
def sBind {α : Type} (m : Mo α) (f : α → MS) : MS := fun c => match m c with
  | .ok a c1 => f a c1
  | .ex e c1 => .ex e c1
  | .no => .no
def sNx : MS := fun c => .nx c
def sSeq (a b : MS) : MS := fun c => match a c with
  | .nx c1 => b c1
  | .rt x c1 => .rt x c1
  | .bk c1 => .bk c1
  | .ct c1 => .ct c1
  | .ex e c1 => .ex e c1
  | .no => .no
section
variable {G : Gh} {W : WX} {α : Type} {μ μ1 : List Addr} {c : CS} {σ : LSt} {H H1 : Hp} {D : Ends}
theorem RunS.up {r : RS} (h : RunS G W r μ H D) (p : μ <+: μ1) (f : Fz H H1) : RunS G W r μ1 H1 D := by
  cases r with
  | nx c1 => exact fun μ2 σ1 H2 a b R => h μ2 σ1 H2 (p.trans a) (f.trans b) R
  | rt x c1 => exact fun μ2 σ1 H2 v a b R => h μ2 σ1 H2 v (p.trans a) (f.trans b) R
  | bk c1 => exact fun μ2 σ1 H2 a b R => h μ2 σ1 H2 (p.trans a) (f.trans b) R
  | ct c1 => exact fun μ2 σ1 H2 a b R => h μ2 σ1 H2 (p.trans a) (f.trans b) R
  | ex e c1 => exact fun μ2 σ1 cls d H2 a b R => h μ2 σ1 cls d H2 (p.trans a) (f.trans b) R
  | no => exact h
theorem RunAt.up {m : Mo α} {P : α → List Addr → CS → Hp → Prop} (h : RunAt G W m μ c σ H P) (p : μ <+: μ1) (f : Fz H H1) : RunAt G W m μ1 c σ H1 P := by
  unfold RunAt at h ⊢
  cases e : m c with
  | ok a c1 =>
    rw [e] at h
    exact fun μ2 H2 a b R => h μ2 H2 (p.trans a) (f.trans b) R
  | ex x c1 =>
    rw [e] at h
    exact fun μ2 cls d H2 a b R => h μ2 cls d H2 (p.trans a) (f.trans b) R
  | no =>
    rw [e] at h
    exact h
theorem RunS.bind {m : Mo α} {f : α → MS} (h : RunS G W (sBind m f c) μ H D) : RunAt G W m μ c σ H fun a μ1 c1 H1 => RunS G W (f a c1) μ1 H1 D := by
  unfold sBind at h
  unfold RunAt
  cases e : m c with
  | ok a c1 =>
    rw [e] at h
    exact fun μ1 H1 p q r => RunS.up h p q
  | ex x c1 =>
    rw [e] at h
    exact fun μ1 cls d H1 p q r => h μ1 σ cls d H1 p q r
  | no =>
    rw [e] at h
    exact h
theorem RunS.seq {a b : MS} (h : RunS G W (sSeq a b c) μ H D) : RunS G W (a c) μ H { D with nx := tSt G W b D } := by
  unfold sSeq at h
  cases e : a c with
  | nx c1 =>
    rw [e] at h
    exact fun μ1 σ1 H1 p q r => ⟨μ1, c1, r, RunS.up h p q⟩
  | rt x c1 =>
    rw [e] at h
    exact h
  | bk c1 =>
    rw [e] at h
    exact h
  | ct c1 =>
    rw [e] at h
    exact h
  | ex x c1 =>
    rw [e] at h
    exact h
  | no =>
    rw [e] at h
    exact h
theorem RunS.nx' {c : CS} (h : RunS G W (.nx c) μ H D) (R : Rel G μ c σ H) : D.nx σ H := h μ σ H (List.prefix_refl _) (Fz.refl _) R
end
section
variable {X : Cx} {N : Wn} {e a b : Expr} {pos : Pos} {st : Stmt} {rest : List Stmt}
theorem css_nil : CSs X N [] sNx := PSs.tm pss_nil fun D σ H ⟨μ, c, R, p⟩ => p.nx' R
theorem css_cons {m r : MS} (h1 : CS1 X N st m) (h2 : CSs X N rest r) : CSs X N (st :: rest) (sSeq m r) := PSs.tm (pss_cons h1 h2) fun D σ H ⟨μ, c, R, p⟩ => ⟨μ, c, R, p.seq⟩
theorem css_one {m : MS} (h1 : CS1 X N st m) : CSs X N [st] m := pss_one h1
def sBk : MS := fun c => .bk c
def sCt : MS := fun c => .ct c
theorem cs_pass : CS1 X N (.Pass pos) sNx := PS.tm ps_pass fun D σ H ⟨μ, c, R, p⟩ => p.nx' R
theorem cs_break : CS1 X N (.Break pos) sBk := PS.tm ps_break fun D σ H ⟨μ, c, R, p⟩ => p μ σ H (List.prefix_refl _) (Fz.refl _) R
theorem cs_continue : CS1 X N (.Continue pos) sCt := PS.tm ps_continue fun D σ H ⟨μ, c, R, p⟩ => p μ σ H (List.prefix_refl _) (Fz.refl _) R
def sDrop (m : Mo CV) : MS := sBind m fun _ => sNx
theorem cs_expr {m : Mo CV} (h : CE X N e m) (hs : swapsWith e none pos.line X.env = pure false := by rfl) : CS1 X N (.Expr e pos) (sDrop m) :=
  PS.tm (ps_expr h hs) fun D σ H ⟨μ, c, R, p⟩ => ⟨μ, c, R, (RunS.bind p).imp fun x μ1 c1 H1 a b r q v d => q.nx' r⟩
def sRet (m : Mo CV) : MS := sBind m fun x c => .rt x c
theorem cs_ret {m : Mo CV} (h : CE X N e m) : CS1 X N (.Return (some e) pos) (sRet m) :=
  PS.tm (ps_ret h) fun D σ H ⟨μ, c, R, p⟩ => ⟨μ, c, R, (RunS.bind p).imp fun x μ1 c1 H1 a b r q v d => q μ1 σ H1 v (List.prefix_refl _) (Fz.refl _) r d⟩
def sRetN : MS := fun c => .rt (.d .none) c
theorem cs_retN : CS1 X N (.Return none pos) sRetN := PS.tm ps_retN fun D σ H ⟨μ, c, R, p⟩ => p μ σ H .non (List.prefix_refl _) (Fz.refl _) R (den_none (K := kwOf X) (H := H))
def sIf (mc : Mo Bool) (a b : MS) : MS := sBind mc fun k => if k then a else b
theorem cs_if {c : Expr} {A B : List Stmt} {mc : Mo Bool} {m1 m2 : MS} (hc : CT X N c mc) (h1 : CSs X N A m1) (h2 : CSs X N B m2) : CS1 X N (.If c A B pos) (sIf mc m1 m2) :=
  PS.tm (ps_if hc h1 h2) fun D σ H ⟨μ, c, R, p⟩ => ⟨μ, c, R, (RunS.bind p).imp fun k μ1 c1 H1 a b r q => by
    cases k with
    | true => exact iteT ⟨μ1, c1, r, q⟩
    | false => exact iteF ⟨μ1, c1, r, q⟩⟩
/-! ### name = value -/
def cSet (i : Nat) (s : Sl) (c : CS) : CS := { c with sl := c.sl.set i s }
def sSet (i : Nat) (m : Mo CV) : MS := sBind m fun x c => .nx (cSet i (.v x) c)
def sOwn (i : Nat) (m : Mo (List PyData)) : MS := sBind m fun xs c => .nx (cSet i (.ol xs) c)
theorem set_tm {i : Nat} {m : Mo CV} (D : Ends) (σ : LSt) (H : Hp) (h : tSt (gh X N) N.W (sSet i m) D σ H) : tAsg (tM (gh X N) N.W m) (gName i) D σ H := by
  obtain ⟨μ, c, R, p⟩ := h
  exact ⟨μ, c, R, (RunS.bind p).imp fun x μ1 c1 H1 a b r q v d => q μ1 _ H1 (List.prefix_refl _) (Fz.refl _) (r.set d)⟩
theorem own_tm {i : Nat} {m : Mo (List PyData)} (D : Ends) (σ : LSt) (H : Hp) (h : tSt (gh X N) N.W (sOwn i m) D σ H) : tAsg (tF (gh X N) N.W m) (gName i) D σ H := by
  obtain ⟨μ, c, R, p⟩ := h
  refine ⟨μ, c, R, (RunS.bind p).imp fun xs μ1 c1 H1 a b r q p vs hp dl => ?_⟩
  exact q μ1 _ _ (List.prefix_refl _) (Fz.same (same_new hp)) (r.setOwn (s := .ol xs) (ho := .lst vs) rfl hp ⟨vs, rfl, dl⟩)
theorem cs_set (i : Nat) {x : Str} {m : Mo CV} {pos' : Pos} (he : CE X N e m) (hN : X.N.Nodup) (hi : X.N[i]? = some x := by rfl) (hx : Loc X.env.scope x := by first | exact Or.inl rfl | exact Or.inr rfl)
    (hs : swapsWith e (some (.Name x pos')) pos.line X.env = pure false := by rfl) (hf : X.fn x = true ∨ X.env.scope.names.lookup x = some .local := by first | exact .inl rfl | exact .inr rfl) : CS1 X N (.Assign [.Name x pos'] e pos) (sSet i m) :=
  PS.tm (ps_set (i := i) hN hi hx he hs hf) set_tm
theorem cs_own (i : Nat) {x : Str} {m : Mo (List PyData)} {pos' : Pos} (he : CF X N e m) (hN : X.N.Nodup) (hi : X.N[i]? = some x := by rfl) (hx : Loc X.env.scope x := by first | exact Or.inl rfl | exact Or.inr rfl)
    (hs : swapsWith e (some (.Name x pos')) pos.line X.env = pure false := by rfl) (hf : X.fn x = true ∨ X.env.scope.names.lookup x = some .local := by first | exact .inl rfl | exact .inr rfl) : CS1 X N (.Assign [.Name x pos'] e pos) (sOwn i m) :=
  PS.tm (ps_set (i := i) hN hi hx he hs hf) own_tm
/-! ### new objects of the clean heap -/
def cNew (o : CO) (c : CS) : CS := { c with hp := c.hp ++ [o] }
/-- a new list, to be changed: an object -/
def mNewL (m : Mo (List PyData)) : Mo CV := mBind m fun xs c => .ok (.r c.hp.length) (cNew (.lst (xs.map .d)) c)
theorem ce_newl {m : Mo (List PyData)} (h : CF X N e m) : CE X N e (mNewL m) := by
  refine PE.tm h fun σ H Q ⟨μ, c, R, p⟩ => ⟨μ, c, R, (RunAt.bind p).imp fun xs μ1 c1 H1 a b r q p vs hp dl => ?_⟩
  obtain ⟨R2, f2, p2⟩ := r.newHp (o := .lst (xs.map .d)) (ho := .lst vs) hp ⟨vs, rfl, denL_v (DenL.mono (Fz.same (same_new hp)) _ _ dl)⟩
  exact q _ _ p2 f2 R2 _ ⟨p, by rw [← r.hl, List.getElem?_append_right (Nat.le_refl _), Nat.sub_self]; rfl, rfl⟩
/-- a list display with objects in it -/
def mNewD (m : Mo (List CV)) : Mo CV := mBind m fun xs c => if xs.length ≤ 1000 then .ok (.r c.hp.length) (cNew (.lst xs) c) else .no
theorem ce_newd {es : List Expr} {m : Mo (List CV)} (h : CA X N es m) : CE X N (.List es pos) (mNewD m) :=
  PE.tm (pe_lst h) fun σ H Q ⟨μ, c, R, p⟩ => ⟨μ, c, R, (RunAt.bind p).imp fun xs μ1 c1 H1 a b r q vs d => by
    unfold RunAt at q
    dsimp only at q
    by_cases hl : xs.length ≤ 1000
    · rw [if_pos hl] at q
      have l := Paired.length d
      refine ⟨Nat.le_of_lt (small1000 (by omega)), fun p hp => ?_⟩
      have sm := same_new (o := .lst vs) hp
      obtain ⟨R2, f2, p2⟩ := r.newHp (o := .lst xs) (ho := .lst vs) hp ⟨vs, rfl, VDenL.mono (Fz.same sm) (List.prefix_append _ _) d⟩
      exact q _ _ p2 f2 R2 _ ⟨p, by rw [← r.hl, List.getElem?_append_right (Nat.le_refl _), Nat.sub_self]; rfl, rfl⟩
    · rw [if_neg hl] at q
      exact q.elim⟩
/-! ### lists changed -/
/-- the list that a name holds is changed: its items as values behind, and what is given back -/
def onList (i : Nat) (f : List PyData → Option (List PyData × PyData)) (g : List CV → Option (List CV × CV)) : Mo CV := fun c => match c.sl[i]? with
  | some (.ol xs) => match f xs with
    | some (ys, z) => .ok (.d z) (cSet i (.ol ys) c)
    | none => .no
  | some (.v (.r n)) => match c.hp[n]? with
    | some (.lst xs) => match g xs with
      | some (ys, z) => .ok z { c with hp := c.hp.set n (.lst ys) }
      | none => .no
    | _ => .no
  | _ => .no
/-- the object's list is changed -/
def onObj (o : CV) (g : List CV → Option (List CV × CV)) : Mo CV := fun c => match o with
  | .r n => match c.hp[n]? with
    | some (.lst xs) => match g xs with
      | some (ys, z) => .ok z { c with hp := c.hp.set n (.lst ys) }
      | none => .no
    | _ => .no
  | _ => .no
theorem onList_ok {i : Nat} {f : List PyData → Option (List PyData × PyData)} {g : List CV → Option (List CV × CV)} {μ : List Addr} {c : CS} {σ : LSt} {H : Hp} {v : V} {P : CV → List Addr → CS → Hp → Prop} (R : Rel (gh X N) μ c σ H) (hv : σ[i]? = some (some v)) (p : RunAt (gh X N) N.W (onList i f g) μ c σ H P) :
    ∃ a vs, v = .ref a ∧ H a = some (.lst vs) ∧ ((∃ xs ys z, f xs = some (ys, z) ∧ DenL (kwOf X) H xs vs ∧ ∀ ws H1, H1 = upd H a (.lst ws) → DenL (kwOf X) H1 ys ws → Rel (gh X N) μ (cSet i (.ol ys) c) σ H1 ∧ P (.d z) μ (cSet i (.ol ys) c) H1) ∨
      ∃ n xs ys z, g xs = some (ys, z) ∧ VDenL (kwOf X) H μ xs vs ∧ ∀ ws H1, H1 = upd H a (.lst ws) → VDenL (kwOf X) H1 μ ys ws → Rel (gh X N) μ { c with hp := c.hp.set n (.lst ys) } σ H1 ∧ P z μ { c with hp := c.hp.set n (.lst ys) } H1) := by
  unfold RunAt onList at p
  cases e : c.sl[i]? with
  | none =>
    rw [e] at p
    exact p.elim
  | some sl =>
    rw [e] at p
    cases sl with
    | un => exact p.elim
    | od _ => exact p.elim
    | ol xs =>
      obtain ⟨a, ho, e1, e2, ⟨vs, e3, dl⟩, e4, e5⟩ := R.ow i _ e rfl
      subst e3
      rw [hv] at e1
      cases e1
      dsimp only at p
      cases hf : f xs with
      | none =>
        rw [hf] at p
        exact p.elim
      | some r =>
        obtain ⟨ys, z⟩ := r
        rw [hf] at p
        refine ⟨a, vs, rfl, e2, .inl ⟨xs, ys, z, hf, dl, fun ws H1 eH d => ?_⟩⟩
        subst eH
        obtain ⟨R1, f1⟩ := R.chOwn (t := .ol ys) (ho := .lst ws) e rfl hv rfl ⟨ws, rfl, d⟩
        exact ⟨R1, p μ _ (List.prefix_refl _) f1 R1⟩
    | v x =>
      cases x with
      | d _ => exact p.elim
      | o _ => exact p.elim
      | r n =>
        dsimp only at p
        cases hn : c.hp[n]? with
        | none =>
          rw [hn] at p
          exact p.elim
        | some o =>
          rw [hn] at p
          cases o with
          | dic _ => exact p.elim
          | ins _ _ => exact p.elim
          | lst xs =>
            dsimp only at p
            obtain ⟨w, ew, a, ea, rfl⟩ := R.vl i _ e
            rw [hv] at ew
            cases ew
            obtain ⟨a', ho, e1, e2, vs, rfl, dl⟩ := R.hp n _ hn
            rw [ea] at e1
            cases e1
            cases hg : g xs with
            | none =>
              rw [hg] at p
              exact p.elim
            | some r =>
              obtain ⟨ys, z⟩ := r
              rw [hg] at p
              refine ⟨a, vs, rfl, e2, .inr ⟨n, xs, ys, z, hg, dl, fun ws H1 eH d => ?_⟩⟩
              subst eH
              obtain ⟨R1, f1⟩ := R.chHp (o' := .lst ys) (ho := .lst ws) ea ⟨ws, rfl, d⟩
              exact ⟨R1, p μ _ (List.prefix_refl _) f1 R1⟩
theorem onObj_ok {o : CV} {g : List CV → Option (List CV × CV)} {μ : List Addr} {c : CS} {σ : LSt} {H : Hp} {v : V} {P : CV → List Addr → CS → Hp → Prop} (R : Rel (gh X N) μ c σ H) (hv : VDen (kwOf X) H μ o v) (p : RunAt (gh X N) N.W (onObj o g) μ c σ H P) :
    ∃ a vs n xs ys z, v = .ref a ∧ H a = some (.lst vs) ∧ g xs = some (ys, z) ∧ VDenL (kwOf X) H μ xs vs ∧ ∀ ws H1, H1 = upd H a (.lst ws) → VDenL (kwOf X) H1 μ ys ws → Rel (gh X N) μ { c with hp := c.hp.set n (.lst ys) } σ H1 ∧ P z μ { c with hp := c.hp.set n (.lst ys) } H1 := by
  unfold RunAt onObj at p
  cases o with
  | d _ => exact p.elim
  | o _ => exact p.elim
  | r n =>
    dsimp only at p
    cases hn : c.hp[n]? with
    | none =>
      rw [hn] at p
      exact p.elim
    | some ob =>
      rw [hn] at p
      cases ob with
      | dic _ => exact p.elim
      | ins _ _ => exact p.elim
      | lst xs =>
        dsimp only at p
        obtain ⟨a, ea, rfl⟩ := hv
        obtain ⟨a', ho, e1, e2, vs, rfl, dl⟩ := R.hp n _ hn
        rw [ea] at e1
        cases e1
        cases hg : g xs with
        | none =>
          rw [hg] at p
          exact p.elim
        | some r =>
          obtain ⟨ys, z⟩ := r
          rw [hg] at p
          refine ⟨a, vs, n, xs, ys, z, rfl, e2, hg, dl, fun ws H1 eH d => ?_⟩
          subst eH
          obtain ⟨R1, f1⟩ := R.chHp (o' := .lst ys) (ho := .lst ws) ea ⟨ws, rfl, d⟩
          exact ⟨R1, p μ _ (List.prefix_refl _) f1 R1⟩
end
end Cl

set_option Elab.async false
set_option maxRecDepth 100000
set_option maxHeartbeats 2000000
namespace Cl
open PySem PySem.Spec PyProof.Rows L2
section
variable {X : Cx} {N : Wn} {e a b o : Expr} {pos : Pos}
/-- the name holds a list that may be changed -/
def chkL (i : Nat) : Mo Unit := fun c => match c.sl[i]? with
  | some (.ol _) => .ok () c
  | some (.v (.r n)) => match c.hp[n]? with
    | some (.lst _) => .ok () c
    | _ => .no
  | _ => .no
theorem chkL_ok {α : Type} {i : Nat} {f : Unit → Mo α} {μ : List Addr} {c : CS} {σ : LSt} {H : Hp} {P : α → List Addr → CS → Hp → Prop} (R : Rel (gh X N) μ c σ H) (p : RunAt (gh X N) N.W (mBind (chkL i) f) μ c σ H P) :
    ∃ l vs, σ[i]? = some (some (.ref l)) ∧ H l = some (.lst vs) ∧ RunAt (gh X N) N.W (f ()) μ c σ H P := by
  have q := p.bind
  unfold RunAt chkL at q
  cases e : c.sl[i]? with
  | none =>
    rw [e] at q
    exact q.elim
  | some sl =>
    rw [e] at q
    cases sl with
    | un => exact q.elim
    | od _ => exact q.elim
    | ol xs =>
      obtain ⟨a, ho, eu, e2, ⟨vs, e3, dl⟩, _⟩ := R.ow i _ e rfl
      subst e3
      exact ⟨a, vs, eu, e2, q μ H (List.prefix_refl _) (Fz.refl _) R⟩
    | v u =>
      cases u with
      | d _ => exact q.elim
      | o _ => exact q.elim
      | r n =>
        dsimp only at q
        cases hn : c.hp[n]? with
        | none =>
          rw [hn] at q
          exact q.elim
        | some ob =>
          rw [hn] at q
          cases ob with
          | dic _ => exact q.elim
          | ins _ _ => exact q.elim
          | lst xs =>
            obtain ⟨w, ew, a, ea, rfl⟩ := R.vl i _ e
            obtain ⟨a', ho, e1, e2, vs, rfl, dl⟩ := R.hp n _ hn
            rw [ea] at e1
            cases e1
            exact ⟨a, vs, ew, e2, q μ H (List.prefix_refl _) (Fz.refl _) R⟩
/-- .. what an object is -/
def chkO (x : CV) : Mo Unit := fun c => match x with
  | .r n => match c.hp[n]? with
    | some (.lst _) => .ok () c
    | _ => .no
  | _ => .no
theorem chkO_ok {α : Type} {x : CV} {f : Unit → Mo α} {μ : List Addr} {c : CS} {σ : LSt} {H : Hp} {v : V} {P : α → List Addr → CS → Hp → Prop} (R : Rel (gh X N) μ c σ H) (d : VDen (kwOf X) H μ x v) (p : RunAt (gh X N) N.W (mBind (chkO x) f) μ c σ H P) :
    ∃ l vs, v = .ref l ∧ H l = some (.lst vs) ∧ RunAt (gh X N) N.W (f ()) μ c σ H P := by
  have q := p.bind
  unfold RunAt chkO at q
  cases x with
  | d _ => exact q.elim
  | o _ => exact q.elim
  | r n =>
    dsimp only at q
    cases hn : c.hp[n]? with
    | none =>
      rw [hn] at q
      exact q.elim
    | some ob =>
      rw [hn] at q
      cases ob with
      | dic _ => exact q.elim
      | ins _ _ => exact q.elim
      | lst xs =>
        obtain ⟨a, ea, rfl⟩ := d
        obtain ⟨a', ho, e1, e2, vs, rfl, dl⟩ := R.hp n _ hn
        rw [ea] at e1
        cases e1
        exact ⟨a, vs, rfl, e2, q μ H (List.prefix_refl _) (Fz.refl _) R⟩
theorem tyL {K : PySem.W.Frag} {H : Hp} {l : Addr} {vs : List V} (h : H l = some (.lst vs)) : tyV K "list" (.ref l) H := .inl ⟨rfl, _, SqL.of h⟩
/-! append -/
def apD (y : CV) (xs : List PyData) : Option (List PyData × PyData) := match y with
  | .d z => if xs.length < 16777216 then some (xs ++ [z], .none) else none
  | _ => none
def apC (y : CV) (xs : List CV) : Option (List CV × CV) := if xs.length < 16777216 then some (xs ++ [y], .d .none) else none
def mApp (i : Nat) (ma : Mo CV) : Mo CV := mBind (chkL i) fun _ => mBind ma fun y => onList i (apD y) (apC y)
def mAppO (mo ma : Mo CV) : Mo CV := mBind mo fun x => mBind (chkO x) fun _ => mBind ma fun y => onObj x (apC y)
theorem apC_ok {y : CV} {xs ys : List CV} {z : CV} (h : apC y xs = some (ys, z)) : xs.length < 16777216 ∧ ys = xs ++ [y] ∧ z = .d .none := by
  unfold apC at h
  by_cases hl : xs.length < 16777216
  · rw [if_pos hl] at h
    cases h
    exact ⟨hl, rfl, rfl⟩
  · rw [if_neg hl] at h
    cases h
theorem apD_ok {y : CV} {xs ys : List PyData} {z : PyData} (h : apD y xs = some (ys, z)) : ∃ w, y = .d w ∧ xs.length < 16777216 ∧ ys = xs ++ [w] ∧ z = .none := by
  unfold apD at h
  cases y with
  | r _ => cases h
  | o _ => cases h
  | d w =>
    dsimp only at h
    by_cases hl : xs.length < 16777216
    · rw [if_pos hl] at h
      cases h
      exact ⟨w, rfl, hl, rfl, rfl⟩
    · rw [if_neg hl] at h
      cases h
theorem fz_lst {H : Hp} {a : Addr} {vs ws : List V} (h : H a = some (.lst vs)) : Fz H (upd H a (.lst ws)) := Wr.fz (ho := .lst vs) trivial h
theorem ce_append (i : Nat) {x : Str} {p1 apos : Pos} {ma : Mo CV} (ha : CE X N a ma) (hN : X.N[i]? = some x := by rfl) (hv : Vis X.env.scope x := by first | exact Or.inl rfl | exact Or.inr (Or.inl rfl) | exact Or.inr (Or.inr rfl)) (hd : (x == ("__debug__" : Str)) = false := by decide)
    (hcd : (x == ("__classdict__" : Str)) = false := by decide)
    (hbase : attributeBase (.Name x p1) "append" X.env (eval (.Name x p1) X.env) = eval (.Name x p1) X.env := by rfl)
    (hfew : ((backTo pos (starEach (a :: []) X.env)).all (fun x => !x.1) && (backToKw pos (keywordEach [] X.env)).all (fun x => x.1.isSome)
      && decide ((a :: []).length + ([] : List Keyword).length + (if ([] : List Keyword).isEmpty then 0 else 1) < 30)) = true := by rfl)
    (hline : (apos.endLine == pos.line) = true := by rfl) (hs : starEach (a :: []) X.env = (false, eval a X.env) :: starEach [] X.env := by rfl) :
    CE X N (.Call (.Attribute (.Name x p1) "append" apos) [a] [] pos) (mApp i ma) := by
  refine PE.tm (pe_bm PySem.F.plainAttrs_list PySem.F.slot_list_append PySem.F.type_list_append mt_append (pe_var (X := X) (i := i) hN hv hd hcd) (pa_cons ha pa_nil hs) hbase hfew hline hs) fun σ H Q ⟨μ, c, R, p⟩ => ?_
  obtain ⟨l, vs, hv, hl, p⟩ := chkL_ok R p
  refine ⟨.ref l, hv, tyL hl, μ, c, R, (RunAt.bind p).imp fun y μ1 c1 H1 a b r q v d => ?_⟩
  obtain ⟨l', ws, el, hl', h⟩ := onList_ok r hv q
  cases el
  rcases h with ⟨xs, ys, z, hf, dl, q⟩ | ⟨n, xs, ys, z, hg, dl, q⟩
  · obtain ⟨w, rfl, hz, rfl, rfl⟩ := apD_ok hf
    refine ⟨l, ws, v, rfl, rfl, hl', by rw [dl.length, sizeLine_eq]; exact hz, ?_⟩
    have f := fz_lst (ws := ws ++ [v]) hl'
    exact (q _ _ rfl (DenL.append (DenL.mono f _ _ dl) (.cons (Den.mono f _ _ d) .nil))).2 _ vden_none
  · obtain ⟨hz, rfl, rfl⟩ := apC_ok hg
    refine ⟨l, ws, v, rfl, rfl, hl', by rw [← Paired.length dl, sizeLine_eq]; exact hz, ?_⟩
    have f := fz_lst (ws := ws ++ [v]) hl'
    exact (q _ _ rfl (paired_app (VDenL.mono f (List.prefix_refl _) dl) (.cons (VDen.mono f (List.prefix_refl _) d) .nil))).2 _ vden_none
theorem ce_appendO {apos : Pos} {mo ma : Mo CV} (ho : CE X N o mo) (ha : CE X N a ma)
    (hbase : attributeBase o "append" X.env (eval o X.env) = eval o X.env := by rfl)
    (hfew : ((backTo pos (starEach (a :: []) X.env)).all (fun x => !x.1) && (backToKw pos (keywordEach [] X.env)).all (fun x => x.1.isSome)
      && decide ((a :: []).length + ([] : List Keyword).length + (if ([] : List Keyword).isEmpty then 0 else 1) < 30)) = true := by rfl)
    (hline : (apos.endLine == pos.line) = true := by rfl) (hs : starEach (a :: []) X.env = (false, eval a X.env) :: starEach [] X.env := by rfl) :
    CE X N (.Call (.Attribute o "append" apos) [a] [] pos) (mAppO mo ma) := by
  refine PE.tm (pe_bm PySem.F.plainAttrs_list PySem.F.slot_list_append PySem.F.type_list_append mt_append ho (pa_cons ha pa_nil hs) hbase hfew hline hs) fun σ H Q ⟨μ, c, R, p⟩ => ?_
  refine ⟨μ, c, R, (RunAt.bind p).imp fun x μ1 c1 H1 a1 b1 r1 q1 v d1 => ?_⟩
  obtain ⟨l, vs, rfl, hl, q1⟩ := chkO_ok r1 d1 q1
  refine ⟨tyL hl, μ1, c1, r1, (RunAt.bind q1).imp fun y μ2 c2 H2 a2 b2 r2 q2 w d2 => ?_⟩
  obtain ⟨l', ws, n, xs, ys, z, el, hl', hg, dl, q⟩ := onObj_ok r2 (d1.mono b2 a2) q2
  cases el
  obtain ⟨hz, rfl, rfl⟩ := apC_ok hg
  refine ⟨l, ws, w, rfl, rfl, hl', by rw [← Paired.length dl, sizeLine_eq]; exact hz, ?_⟩
  have f := fz_lst (ws := ws ++ [w]) hl'
  exact (q _ _ rfl (paired_app (VDenL.mono f (List.prefix_refl _) dl) (.cons (VDen.mono f (List.prefix_refl _) d2) .nil))).2 _ vden_none
/-! extend by a list that is read on the spot -/
def exD (y : BV) (xs : List PyData) : Option (List PyData × PyData) := match y with
  | .l ys => if xs.length + ys.length ≤ 16777216 then some (xs ++ ys, .none) else none
  | _ => none
def exC (y : BV) (xs : List CV) : Option (List CV × CV) := match y with
  | .l ys => if xs.length + ys.length ≤ 16777216 then some (xs ++ ys.map .d, .d .none) else none
  | _ => none
def mExt (i : Nat) (ma : Mo BV) : Mo CV := mBind (chkL i) fun _ => mBind ma fun y => onList i (exD y) (exC y)
theorem exD_ok {y : BV} {xs ys : List PyData} {z : PyData} (h : exD y xs = some (ys, z)) : ∃ w, y = .l w ∧ xs.length + w.length ≤ 16777216 ∧ ys = xs ++ w ∧ z = .none := by
  unfold exD at h
  cases y with
  | c _ => cases h
  | k _ => cases h
  | l w =>
    dsimp only at h
    by_cases hl : xs.length + w.length ≤ 16777216
    · rw [if_pos hl] at h
      cases h
      exact ⟨w, rfl, hl, rfl, rfl⟩
    · rw [if_neg hl] at h
      cases h
theorem exC_ok {y : BV} {xs ys : List CV} {z : CV} (h : exC y xs = some (ys, z)) : ∃ w, y = .l w ∧ xs.length + w.length ≤ 16777216 ∧ ys = xs ++ w.map .d ∧ z = .d .none := by
  unfold exC at h
  cases y with
  | c _ => cases h
  | k _ => cases h
  | l w =>
    dsimp only at h
    by_cases hl : xs.length + w.length ≤ 16777216
    · rw [if_pos hl] at h
      cases h
      exact ⟨w, rfl, hl, rfl, rfl⟩
    · rw [if_neg hl] at h
      cases h
theorem ce_extend (i : Nat) {x : Str} {p1 apos : Pos} {ma : Mo BV} (ha : CB X N a ma) (hN : X.N[i]? = some x := by rfl) (hv : Vis X.env.scope x := by first | exact Or.inl rfl | exact Or.inr (Or.inl rfl) | exact Or.inr (Or.inr rfl)) (hd : (x == ("__debug__" : Str)) = false := by decide)
    (hcd : (x == ("__classdict__" : Str)) = false := by decide)
    (hbase : attributeBase (.Name x p1) "extend" X.env (eval (.Name x p1) X.env) = eval (.Name x p1) X.env := by rfl)
    (hfew : ((backTo pos (starEach (a :: []) X.env)).all (fun x => !x.1) && (backToKw pos (keywordEach [] X.env)).all (fun x => x.1.isSome)
      && decide ((a :: []).length + ([] : List Keyword).length + (if ([] : List Keyword).isEmpty then 0 else 1) < 30)) = true := by rfl)
    (hline : (apos.endLine == pos.line) = true := by rfl) (hs : starEach (a :: []) X.env = (false, eval a X.env) :: starEach [] X.env := by rfl) :
    CE X N (.Call (.Attribute (.Name x p1) "extend" apos) [a] [] pos) (mExt i ma) := by
  refine PE.tm (pe_bm PySem.F.plainAttrs_list PySem.F.slot_list_extend PySem.F.type_list_extend mt_extend (pe_var (X := X) (i := i) hN hv hd hcd) (pa_cons ha pa_nil hs) hbase hfew hline hs) fun σ H Q ⟨μ, c, R, p⟩ => ?_
  obtain ⟨l, vs, hv, hl, p⟩ := chkL_ok R p
  refine ⟨.ref l, hv, tyL hl, μ, c, R, (RunAt.bind p).imp fun y μ1 c1 H1 a b r q v d => ?_⟩
  obtain ⟨l', ws, el, hl', h⟩ := onList_ok r hv q
  cases el
  rcases h with ⟨xs, ys, z, hf, dl, q⟩ | ⟨n, xs, ys, z, hg, dl, q⟩
  · obtain ⟨w, rfl, hz, rfl, rfl⟩ := exD_ok hf
    obtain ⟨b', us, rfl, hb, db⟩ := d
    refine ⟨l, b', ws, us, rfl, rfl, hl', hb, by rw [dl.length, DenL.length db, sizeLine_eq]; exact hz, ?_⟩
    have f := fz_lst (ws := ws ++ us) hl'
    exact (q _ _ rfl (DenL.append (DenL.mono f _ _ dl) (DenL.mono f _ _ db))).2 _ vden_none
  · obtain ⟨w, rfl, hz, rfl, rfl⟩ := exC_ok hg
    obtain ⟨b', us, rfl, hb, db⟩ := d
    refine ⟨l, b', ws, us, rfl, rfl, hl', hb, by rw [← Paired.length dl, DenL.length db, sizeLine_eq]; exact hz, ?_⟩
    have f := fz_lst (ws := ws ++ us) hl'
    exact (q _ _ rfl (paired_app (VDenL.mono f (List.prefix_refl _) dl) (denL_v (DenL.mono f _ _ db)))).2 _ vden_none
/-! pop(0), pop() -/
def ppD (k : Int) (xs : List PyData) : Option (List PyData × PyData) := if decide (-(2 ^ 63) ≤ k) && decide (k < 2 ^ 63) then match seqIndex? k xs.length with
    | some j => match xs[j]? with
      | some y => some (xs.eraseIdx j, y)
      | none => none
    | none => none
  else none
def ppC (k : Int) (xs : List CV) : Option (List CV × CV) := if decide (-(2 ^ 63) ≤ k) && decide (k < 2 ^ 63) then match seqIndex? k xs.length with
    | some j => match xs[j]? with
      | some y => some (xs.eraseIdx j, y)
      | none => none
    | none => none
  else none
theorem ppD_ok {k : Int} {xs ys : List PyData} {z : PyData} (h : ppD k xs = some (ys, z)) : -(2 ^ 63) ≤ k ∧ k < 2 ^ 63 ∧ ∃ j, seqIndex? k xs.length = some j ∧ xs[j]? = some z ∧ ys = xs.eraseIdx j := by
  unfold ppD at h
  by_cases hk : (decide (-(2 ^ 63) ≤ k) && decide (k < 2 ^ 63)) = true
  · rw [if_pos hk] at h
    rw [Bool.and_eq_true, decide_eq_true_eq, decide_eq_true_eq] at hk
    cases hj : seqIndex? k xs.length with
    | none =>
      rw [hj] at h
      cases h
    | some j =>
      rw [hj] at h
      dsimp only at h
      cases hx : xs[j]? with
      | none =>
        rw [hx] at h
        cases h
      | some y =>
        rw [hx] at h
        cases h
        exact ⟨hk.1, hk.2, j, rfl, hx, rfl⟩
  · rw [if_neg hk] at h
    cases h
theorem ppC_ok {k : Int} {xs ys : List CV} {z : CV} (h : ppC k xs = some (ys, z)) : -(2 ^ 63) ≤ k ∧ k < 2 ^ 63 ∧ ∃ j, seqIndex? k xs.length = some j ∧ xs[j]? = some z ∧ ys = xs.eraseIdx j := by
  unfold ppC at h
  by_cases hk : (decide (-(2 ^ 63) ≤ k) && decide (k < 2 ^ 63)) = true
  · rw [if_pos hk] at h
    rw [Bool.and_eq_true, decide_eq_true_eq, decide_eq_true_eq] at hk
    cases hj : seqIndex? k xs.length with
    | none =>
      rw [hj] at h
      cases h
    | some j =>
      rw [hj] at h
      dsimp only at h
      cases hx : xs[j]? with
      | none =>
        rw [hx] at h
        cases h
      | some y =>
        rw [hx] at h
        cases h
        exact ⟨hk.1, hk.2, j, rfl, hx, rfl⟩
  · rw [if_neg hk] at h
    cases h
theorem denL_erase {K : KW} {H : Hp} : ∀ (j : Nat) {xs : List PyData} {vs : List V}, DenL K H xs vs → DenL K H (xs.eraseIdx j) (vs.eraseIdx j)
  | _, [], vs, h => by
    simp only [DenL] at h
    subst h
    exact .nil
  | 0, x :: xs, vs, h => by
    simp only [DenL] at h
    obtain ⟨w, r, rfl, d, q⟩ := h
    exact q
  | j + 1, x :: xs, vs, h => by
    simp only [DenL] at h
    obtain ⟨w, r, rfl, d, q⟩ := h
    exact .cons d (denL_erase j q)
theorem paired_erase {α β : Type} {F : α → β → Prop} : ∀ (j : Nat) {xs : List α} {vs : List β}, Paired F xs vs → Paired F (xs.eraseIdx j) (vs.eraseIdx j)
  | _, _, _, .nil => .nil
  | 0, _, _, .cons _ t => t
  | j + 1, _, _, .cons h t => .cons h (paired_erase j t)
def asI : CV → Mo Int := fun x => match x with
  | .d (.int i) => mRet i
  | _ => fun _ => .no
theorem asI_ret {α : Type} {x : CV} {f : Int → Mo α} {μ : List Addr} {c : CS} {σ : LSt} {H : Hp} {P : α → List Addr → CS → Hp → Prop} (p : RunAt (gh X N) N.W (mBind (asI x) f) μ c σ H P) : ∃ i, x = .d (.int i) ∧ RunAt (gh X N) N.W (f i) μ c σ H P := by
  cases x with
  | d x =>
    cases x with
    | int i => exact ⟨i, rfl, p⟩
    | none => exact p.elim
    | bool _ => exact p.elim
    | str _ => exact p.elim
    | list _ => exact p.elim
    | tuple _ => exact p.elim
    | dict _ => exact p.elim
  | r _ => exact p.elim
  | o _ => exact p.elim
theorem vden_i {K : KW} {H : Hp} {μ : List Addr} {i : Int} {v : V} (d : VDen K H μ (.d (.int i)) v) : v = .int i := by
  have d : Den K H (.int i) v := d
  simp only [Den] at d
  exact d
def mPopN (i : Nat) (ma : Mo CV) : Mo CV := mBind (chkL i) fun _ => mBind ma fun y => mBind (asI y) fun k => onList i (ppD k) (ppC k)
def mPopO (mo ma : Mo CV) : Mo CV := mBind mo fun x => mBind (chkO x) fun _ => mBind ma fun y => mBind (asI y) fun k => onObj x (ppC k)
theorem ce_popAt (i : Nat) {x : Str} {p1 apos : Pos} {ma : Mo CV} (ha : CE X N a ma) (hN : X.N[i]? = some x := by rfl) (hv : Vis X.env.scope x := by first | exact Or.inl rfl | exact Or.inr (Or.inl rfl) | exact Or.inr (Or.inr rfl)) (hd : (x == ("__debug__" : Str)) = false := by decide)
    (hcd : (x == ("__classdict__" : Str)) = false := by decide)
    (hbase : attributeBase (.Name x p1) "pop" X.env (eval (.Name x p1) X.env) = eval (.Name x p1) X.env := by rfl)
    (hfew : ((backTo pos (starEach (a :: []) X.env)).all (fun x => !x.1) && (backToKw pos (keywordEach [] X.env)).all (fun x => x.1.isSome)
      && decide ((a :: []).length + ([] : List Keyword).length + (if ([] : List Keyword).isEmpty then 0 else 1) < 30)) = true := by rfl)
    (hline : (apos.endLine == pos.line) = true := by rfl) (hs : starEach (a :: []) X.env = (false, eval a X.env) :: starEach [] X.env := by rfl) :
    CE X N (.Call (.Attribute (.Name x p1) "pop" apos) [a] [] pos) (mPopN i ma) := by
  refine PE.tm (pe_bm PySem.F.plainAttrs_list PySem.F.slot_list_pop PySem.F.type_list_pop mt_popAt (pe_var (X := X) (i := i) hN hv hd hcd) (pa_cons ha pa_nil hs) hbase hfew hline hs) fun σ H Q ⟨μ, c, R, p⟩ => ?_
  obtain ⟨l, vs, hv, hl, p⟩ := chkL_ok R p
  refine ⟨.ref l, hv, tyL hl, μ, c, R, (RunAt.bind p).imp fun y μ1 c1 H1 a b r q v d => ?_⟩
  obtain ⟨k, rfl, q⟩ := asI_ret q
  obtain rfl := vden_i d
  obtain ⟨l', ws, el, hl', h⟩ := onList_ok r hv q
  cases el
  rcases h with ⟨xs, ys, z, hf, dl, q⟩ | ⟨n, xs, ys, z, hg, dl, q⟩
  · obtain ⟨k1, k2, j, hj, hx, rfl⟩ := ppD_ok hf
    obtain ⟨u, hu, du⟩ := DenL.get dl hx
    have f := fz_lst (ws := ws.eraseIdx j) hl'
    exact ⟨l, ws, k, j, u, rfl, rfl, hl', k1, k2, by rw [dl.length]; exact hj, hu, (q _ _ rfl (denL_erase j (DenL.mono f _ _ dl))).2 _ (Den.mono f _ _ du)⟩
  · obtain ⟨k1, k2, j, hj, hx, rfl⟩ := ppC_ok hg
    obtain ⟨u, hu, du⟩ := Cl.paired_get dl hx
    have f := fz_lst (ws := ws.eraseIdx j) hl'
    exact ⟨l, ws, k, j, u, rfl, rfl, hl', k1, k2, by rw [← Paired.length dl]; exact hj, hu, (q _ _ rfl (paired_erase j (VDenL.mono f (List.prefix_refl _) dl))).2 _ (VDen.mono f (List.prefix_refl _) du)⟩
theorem ce_popAtO {apos : Pos} {mo ma : Mo CV} (ho : CE X N o mo) (ha : CE X N a ma)
    (hbase : attributeBase o "pop" X.env (eval o X.env) = eval o X.env := by rfl)
    (hfew : ((backTo pos (starEach (a :: []) X.env)).all (fun x => !x.1) && (backToKw pos (keywordEach [] X.env)).all (fun x => x.1.isSome)
      && decide ((a :: []).length + ([] : List Keyword).length + (if ([] : List Keyword).isEmpty then 0 else 1) < 30)) = true := by rfl)
    (hline : (apos.endLine == pos.line) = true := by rfl) (hs : starEach (a :: []) X.env = (false, eval a X.env) :: starEach [] X.env := by rfl) :
    CE X N (.Call (.Attribute o "pop" apos) [a] [] pos) (mPopO mo ma) := by
  refine PE.tm (pe_bm PySem.F.plainAttrs_list PySem.F.slot_list_pop PySem.F.type_list_pop mt_popAt ho (pa_cons ha pa_nil hs) hbase hfew hline hs) fun σ H Q ⟨μ, c, R, p⟩ => ?_
  refine ⟨μ, c, R, (RunAt.bind p).imp fun x μ1 c1 H1 a1 b1 r1 q1 v d1 => ?_⟩
  obtain ⟨l, vs, rfl, hl, q1⟩ := chkO_ok r1 d1 q1
  refine ⟨tyL hl, μ1, c1, r1, (RunAt.bind q1).imp fun y μ2 c2 H2 a2 b2 r2 q2 w d2 => ?_⟩
  obtain ⟨k, rfl, q2⟩ := asI_ret q2
  obtain rfl := vden_i d2
  obtain ⟨l', ws, n, xs, ys, z, el, hl', hg, dl, q⟩ := onObj_ok r2 (d1.mono b2 a2) q2
  cases el
  obtain ⟨k1, k2, j, hj, hx, rfl⟩ := ppC_ok hg
  obtain ⟨u, hu, du⟩ := Cl.paired_get dl hx
  have f := fz_lst (ws := ws.eraseIdx j) hl'
  exact ⟨l, ws, k, j, u, rfl, rfl, hl', k1, k2, by rw [← Paired.length dl]; exact hj, hu, (q _ _ rfl (paired_erase j (VDenL.mono f (List.prefix_refl _) dl))).2 _ (VDen.mono f (List.prefix_refl _) du)⟩
/-! ### x[k] = v -/
def stD (k : Int) (y : CV) (xs : List PyData) : Option (List PyData × PyData) := match y with
  | .d z => match ixN xs.length k with
    | some j => some (xs.set j z, .none)
    | none => none
  | _ => none
def stC (k : Int) (y : CV) (xs : List CV) : Option (List CV × CV) := match ixN xs.length k with
  | some j => some (xs.set j y, .d .none)
  | none => none
/-- the value, the index, then the list of the name i -/
def sPut (i : Nat) (mk me : Mo CV) : MS := sBind me fun y => sBind (mPeek i) fun _ => sBind (mBind mk asI) fun k => sBind (onList i (stD k y) (stC k y)) fun _ => sNx
theorem vset {K : KW} {H : Hp} {μ : List Addr} {y : CV} {w : V} (d : VDen K H μ y w) : ∀ (j : Nat) {xs : List CV} {vs : List V}, VDenL K H μ xs vs → VDenL K H μ (xs.set j y) (vs.set j w)
  | _, _, _, .nil => .nil
  | 0, _, _, .cons _ t => .cons d t
  | j + 1, _, _, .cons h t => .cons h (vset d j t)
theorem mBind_ret {α : Type} (m : Mo α) : mBind m mRet = m := by
  funext c
  unfold mBind mRet
  cases m c <;> rfl
theorem cs_put (i : Nat) {x : Str} {p1 p2 : Pos} {mk me : Mo CV} (he : CE X N e me) (hk : CE X N a mk) (hN : X.N[i]? = some x := by rfl) (hv : Vis X.env.scope x := by first | exact Or.inl rfl | exact Or.inr (Or.inl rfl) | exact Or.inr (Or.inr rfl)) (hd : (x == ("__debug__" : Str)) = false := by decide)
    (hcd : (x == ("__classdict__" : Str)) = false := by decide)
    (hs : swapsWithSole [.Subscript (.Name x p1) a p2] e pos.line X.env = pure false := by rfl) (hw : swappedStores [.Subscript (.Name x p1) a p2] e X.env = pure none := by rfl)
    (h1 : (assignEach [.Subscript (.Name x p1) a p2] X.env).map (·.2) = [assign (.Subscript (.Name x p1) a p2) X.env] := by rfl)
    (h2 : ∀ v, assign (.Subscript (.Name x p1) a p2) X.env v = (do
      let ov ← holding [v] (eval (.Name x p1) X.env)
      let iv ← holding [v, ov] (eval a X.env)
      standAt p2
      holding [v, ov, iv] (setItem ov iv v)
      release [v, ov, iv] []) := by intro _; rfl) :
    CS1 X N (.Assign [.Subscript (.Name x p1) a p2] e pos) (sPut i mk me) := by
  refine PS.tm (ps_asg he (pg_sub (pe_var (X := X) (i := i) hN hv hd hcd) hk set_list h2) hs hw h1) fun D σ H ⟨μ, c, R, p⟩ => ?_
  refine ⟨μ, c, R, (RunS.bind p).imp fun y μ1 c1 H1 a1 b1 r1 q1 v d1 => ?_⟩
  obtain ⟨v0, y0, hv0, _, q1⟩ := peek_at r1 (RunS.bind q1)
  refine ⟨v0, hv0, μ1, c1, r1, (RunAt.bind (RunS.bind q1)).imp fun z μ2 c2 H2 a2 b2 r2 q2 w d2 => ?_⟩
  have q3 : RunAt (gh X N) N.W (mBind (asI z) mRet) μ2 c2 σ H2 (fun k μ3 c3 H3 => RunS (gh X N) N.W (sBind (onList i (stD k y) (stC k y)) (fun _ => sNx) c3) μ3 H3 D) := by
    rw [mBind_ret]
    exact q2
  obtain ⟨k, rfl, q3⟩ := asI_ret q3
  obtain rfl := vden_i d2
  have q4 := RunS.bind (σ := σ) (q3.ret H2 (Fz.refl _) r2)
  obtain ⟨l, ws, el, hl, h⟩ := onList_ok r2 hv0 q4
  subst el
  have d1 := d1.mono b2 a2
  rcases h with ⟨xs, ys, z, hf, dl, q⟩ | ⟨n, xs, ys, z, hg, dl, q⟩
  · unfold stD at hf
    cases y with
    | r _ => cases hf
    | o _ => cases hf
    | d y =>
      dsimp only at hf
      cases hj : ixN xs.length k with
      | none =>
        rw [hj] at hf
        cases hf
      | some j =>
        rw [hj] at hf
        cases hf
        have f := fz_lst (ws := ws.set j v) hl
        refine ⟨l, ws, k, j, rfl, rfl, hl, by rw [dl.length]; exact hj, ?_⟩
        obtain ⟨R3, q⟩ := q _ _ rfl (DenL.set (Den.mono f _ _ d1) j (DenL.mono f _ _ dl))
        exact RunS.nx' q R3
  · unfold stC at hg
    cases hj : ixN xs.length k with
    | none =>
      rw [hj] at hg
      cases hg
    | some j =>
      rw [hj] at hg
      cases hg
      have f := fz_lst (ws := ws.set j v) hl
      refine ⟨l, ws, k, j, rfl, rfl, hl, by rw [← Paired.length dl]; exact hj, ?_⟩
      obtain ⟨R3, q⟩ := q _ _ rfl (vset (VDen.mono f (List.prefix_refl _) d1) j (VDenL.mono f (List.prefix_refl _) dl))
      exact RunS.nx' q R3
end
end Cl

set_option Elab.async false
set_option maxRecDepth 100000
set_option maxHeartbeats 2000000
/-! Defs whose promise holds where nothing is being shown by repr: the guards are known to be none. -/
namespace Cl
open PySem PySem.Spec PyProof.Rows L2
structure RoomG (k : Nat) (A : Around) : Prop where
  room : Room k A
  gd : A.guards = some []
theorem RoomG.mono {j k : Nat} {A : Around} (r : RoomG k A) (h : j ≤ k) : RoomG j A := ⟨r.room.mono h, r.gd⟩
theorem RoomG.deeper {k : Nat} {A : Around} (r : RoomG (k + 1) A) (env : Env) : RoomG k (A.deeper env) := ⟨r.room.deeper env, r.gd⟩
theorem roomG_caller {k : Nat} (h : Room k callerA) : RoomG k callerA := ⟨h, rfl⟩
/-- what a run of the def at f must do, the callers being A, outer -/
def RunsAt (P : Program) (w : World) (K : PySem.W.Frag) (mg : Str → Option Value) (base : Heap) (CX : CXT) (f : Addr) (fd : FuncData) (ps : List Str) (sp : Sp) (A : Around) : Prop :=
  ∀ (oo : List Env) (s : Shared) (H : Hp) (gv : Args) (us : List Value) (xs : List V) (Q : VK) (E : XK), Env0 P w K mg base A oo s H → BindsTo s fd gv (ps.zip us) → Vals xs us → sp xs H Q E →
    codeAny (model P w) A (.call (.ref f) gv) (CR CX oo P w H s Q E) s
structure FnG (P : Program) (w : World) (K : PySem.W.Frag) (mg : Str → Option Value) (base : Heap) (CX : CXT) (k : Nat) (f : Addr) (fd : FuncData) (ps : List Str) (sp : Sp) : Prop where
  len : ∀ xs H Q E, sp xs H Q E → xs.length = ps.length
  go : ∀ A : Around, RoomG k A → RunsAt P w K mg base CX f fd ps sp A
section
variable {P : Program} {w : World} {K : PySem.W.Frag} {mg : Str → Option Value} {base : Heap} {CX : CXT} {j k : Nat} {f : Addr} {fd : FuncData} {ps : List Str} {sp sp' : Sp}
theorem FnG.mono (F : FnG P w K mg base CX j f fd ps sp) (h : j ≤ k) : FnG P w K mg base CX k f fd ps sp := ⟨F.len, fun A r => F.go A (r.mono h)⟩
theorem FnG.imp (F : FnG P w K mg base CX k f fd ps sp) (h : ∀ xs H Q E, sp' xs H Q E → sp xs H Q E) : FnG P w K mg base CX k f fd ps sp' :=
  ⟨fun xs H Q E q => F.len xs H Q E (h _ _ _ _ q), fun A r oo s H gv us xs Q E e b v q => F.go A r oo s H gv us xs Q E e b v (h _ _ _ _ q)⟩
def flV : Flow → Value
  | .ret v => v
  | _ => .none
/-- how a body's end looks to the caller -/
theorem ends_to {N : List Str} {qual : Str} {scope : Scope} {cdv : Value} {A : Around} {oo : List Env} {s z : Shared} {H : Hp} {Q : VK} {E : XK} {fl : Flow}
    (h : SP (cxOf CX P w K mg base N qual scope f cdv A oo s H E) [] { nx := fun _ H' => Q .non H', rt := Q } fl z) : CR CX oo P w H s Q E (.ok (.ret (flV fl))) z := by
  cases fl with
  | brk => exact (h.elim fun _ ⟨_, _, q⟩ => q : False).elim
  | cont => exact (h.elim fun _ ⟨_, _, q⟩ => q : False).elim
  | ret u =>
    obtain ⟨x, τ, G, J, rx, q⟩ := h
    exact ⟨x, G, J.os, J.bare, J.base, J.hok, rx, q⟩
  | next =>
    obtain ⟨τ, G, J, q⟩ := h
    exact ⟨.non, G, J.os, J.bare, J.base, J.hok, rfl, q⟩
/-- the def rule -/
theorem fn_ofG {nm qual : Str} {pa : Arguments} {body : List Stmt} {scope : Scope} {dV kV doc pm cdv ct oc : Value} {an od : Option Addr} {osl : Array (Option Value)} {N : List Str}
    (lk : K.lookup f = some ⟨oc, od, .func (PySem.W.fnOf nm qual pa body scope dV kV doc pm an cdv ct), osl⟩) (hcd : PySem.W.codeIn K cdv qual = true) (S : FnScope N ps scope) (len : ∀ xs H Q E, sp xs H Q E → xs.length = ps.length)
    (hbody : ∀ (A : Around) (oo : List Env) (s : Shared) (H : Hp) (xs : List V) (Q : VK) (E : XK), RoomG k (A.deeper (envOfC qual scope s.heap.objs.size f cdv)) → sp xs H Q E →
      ∃ t, PSs (cxOf CX P w K mg base N qual scope f cdv A oo s H E) body t ∧ t { nx := fun _ H' => Q .non H', rt := Q } (L2.start N xs) H) :
    FnG P w K mg base CX (k + 1) f (PySem.W.fnOf nm qual pa body scope dV kV doc pm an cdv ct) ps sp where
  len := len
  go A rg oo s H gv us xs Q E e0 hb rv q0 := by
    have at0 : ∀ b o, base.get? b = some o → s.heap.get? b = some o := fun b o e => (e0.bs b o e).1
    have kin := e0.mod.kin.keeps at0
    refine codeAny_call_function rg.room.depth (kin _ _ lk) rfl S.co S.gen rfl (PySem.W.codeRec_of kin hcd) (hb _ _ _ _ (wpAny_newFunctionEnv_cells S.kind (fun y hy => ?_) fun env he s1 x => ?_))
    · exact (S.par y.1 (List.of_mem_zip (a := y.1) (b := y.2) hy).1).imp id fun c => ⟨c, PySem.W.cellsFrom_some _ _ _ (.inl c)⟩
    · subst he
      obtain ⟨t, ht, hq⟩ := hbody A oo s H xs Q E (rg.deeper _) q0
      refine ⟨(e0.mod.nolimit.keeps at0).keeps x.toInCall.keep, codeAny_func (wpAny_mono (ht.run [] s1 _ H _ (inv_start S rg.room.hd e0 (len _ _ _ _ q0) rv x) hq) (fun fl z hz => ?_) fun _ _ hz => hz)⟩
      have := ends_to hz
      cases fl <;> exact this
end
section
variable {X : Cx} {CX : CXT} {k : Nat} {f : Addr} {fd : FuncData} {ps : List Str} {sp : Sp} {E : L2.St → XK} {x : Str} {p pos : Pos} {e : Expr} {es : List Expr} {t : TA}
theorem run_fnG {pins : List (Addr × Obj)} {σ : L2.St} {H : Hp} {s : Shared} {Q : VK} {us : List Value} {xs : List V} (F : FnG X.prog X.w X.K X.mg X.base CX k f fd ps sp) (hr : RoomG k X.A) (hb : Binds X.K fd ps [])
    (hx : PassesAt CX X σ (E σ)) (I : Inv X pins σ H s) (r : Vals xs us) (h : sp xs H Q (E σ)) : wpAny (model X.prog X.w) X.A (call (.ref f) us) (EP X pins σ Q) X.xe s := by
  have b : BindsTo s fd ⟨us, []⟩ (ps.zip us) := by
    have := hb s us I.kIn (by rw [List.append_nil, ← r.length]; exact F.len _ _ _ _ h)
    rwa [List.append_nil] at this
  refine wpAny_call (codeAny_mono (F.go X.A hr X.stack s H ⟨us, []⟩ us xs Q (E σ) I.env0 b r h) fun y z hz => ?_)
  match y, hz with
  | .error u, hz => exact hx pins H s u z I hz
  | .ok (.ret u), hz => exact I.after hz
theorem pe_callG (F : FnG X.prog X.w X.K X.mg X.base CX k f fd ps sp) (hr : RoomG k X.A) (hg : Gl X x) (hm : X.mg x = some (.ref f)) (hk : PySem.W.keepIn X.K (.ref f) = true) (hb : Binds X.K fd ps []) (hx : ∀ σ, PassesAt CX X σ (E σ))
    (ha : PA X (e :: es) t) (hdb : (x == ("__debug__" : Str)) = false := by decide) (he : starEach (e :: es) X.env = (false, eval e X.env) :: starEach es X.env := by rfl) (hpl : (backTo pos (starEach es X.env)).any (·.1) = false := by rfl) :
    PE X (.Call (.Name x p) (e :: es) [] pos) (tCallS sp E t) :=
  ⟨fun pins s σ H Q I h => wpAny_Call_Name_kw (ld_glob I hg hm (PySem.W.callWith_K (h₀ := X.base) I.ok.mod.kin hk
    (thn (ha.run pos pins s σ H _ I h) fun us s1 ⟨xs, H1, I1, r, q⟩ => ⟨I1.kIn, run_fnG F hr hb (hx σ) I1 r q⟩) he hpl) hdb)⟩
end
/-! ### the law's own call -/
section
variable {P : Program} {w : World} {K : PySem.W.Frag} {mg mb : Str → Option Value} {CX : CXT} {k : Nat} {fa a : Addr} {fd : FuncData} {x : Str} {sp : Sp} {z : Shared} {vs : List Value} {ns : List Int}
/-- from an abstract heap that knows at most the script -/
theorem law_coreG (KX : K.In z.heap) (hns : z.heap.Ns mainGlobals mg) (hb : z.heap.Ns builtinsNs mb) (hbb : ∀ x : Str, x ≠ "__name__" → mb x = bootBuiltins x) (hlim : z.heap.NoLimit) (hg : z.gens = #[]) (hr : RoomG k callerA)
    (ha : z.heap.get? a = some { cls := .type "list", data := .seq vs.toArray }) (F : ∀ base : Heap, K.In base → base.Ns mainGlobals mg → FnG P w K mg base CX k fa fd [x] sp) (hbind : BindsTo z fd ⟨[.ref a], []⟩ [(x, .ref a)])
    (hCX : ∀ H e s', CX [] H z (fun _ _ _ => False) e s' → False) (H : Hp) (only : Only H) (ok : HOk P w H z.heap) (hA : ∀ b, H b ≠ none → b = a ∧ K.lookup a = none) (hsp : sp [.ref a] H (fun v _ => v = .bl true) fun _ _ _ => False) :
    codeAny (model P w) callerA (.call (.ref fa) ⟨[.ref a], []⟩) (fun r s' => r = .ok (.ret (.bool true)) ∧ OldK z.heap s'.heap ∧ s'.os = z.os ∧ AllBare s'.gens) z := by
  -- what isn't the script lies in the heap without it
  have other : ∀ {b : Addr} {o : Obj}, z.heap.get? b = some o → (b = a → False) → (hidT z.heap H).get? b = some o := fun {b o} e ne => hidT_get e (Classical.byContradiction fun h => ne (hA b h).1)
  have noDict : ∀ {b : Addr} {o : Obj} {es : Array DictEntry} {ep : Nat}, z.heap.get? b = some o → o.data = .dict es ep → b = a → False := by
    rintro b o es ep e d rfl
    cases ha.symm.trans e
    cases d
  have ns' : ∀ {b : Addr} {m : Str → Option Value}, z.heap.Ns b m → (hidT z.heap H).Ns b m := fun ⟨o, es, ep, e, d, r⟩ => ⟨o, es, ep, other e (noDict e d), d, r⟩
  have kin : K.In (hidT z.heap H) := fun b o e => by
    by_cases hz : H b = none
    · exact hidT_get (KX b o e) hz
    · obtain ⟨h1, h2⟩ := hA b hz
      rw [h1, h2] at e
      cases e
  obtain ⟨mc, l1, l2⟩ := hlim
  have e0 : Env0 P w K mg (hidT z.heap H) callerA [] z H := by
    refine ⟨rfl, ⟨kin, ns' hns, ⟨mb, ns' hb, hbb⟩, mc, ns' l1, l2⟩, fun b o => of_hidT, Nat.le_of_eq (hidT_size _ _), trivial, fun b hb => ?_, ok, .of_eq hg⟩
    cases hb
  refine codeAny_mono ((F _ kin (ns' hns)).go callerA hr [] z H _ [.ref a] [.ref a] _ _ e0 hbind (.cons rfl .nil) hsp) fun r s' h => ?_
  match r, h with
  | .error e, h => exact (hCX H e s' h).elim
  | .ok (.ret u), h =>
    obtain ⟨v, G, os, bare, un, ok', rv, hv⟩ := h
    cases (show v = .bl true from hv)
    cases (show u = Value.bool true from rv)
    refine ⟨rfl, .of_keep fun b o e => ?_, os, bare⟩
    rcases only b with n | ⟨ob, xs, n⟩
    · exact un.keep b o e n (fun h => by cases h) (fun h => by cases h)
    · have k1 := (ok b _ n).1
      have k2 := (ok' b _ (un.frzs b ob _ n)).1
      cases k1.symm.trans e
      exact k2
theorem law_callG (KX : K.In z.heap) (hns : z.heap.Ns mainGlobals mg) (hb : z.heap.Ns builtinsNs mb) (hbb : ∀ x : Str, x ≠ "__name__" → mb x = bootBuiltins x) (hlim : z.heap.NoLimit) (hg : z.gens = #[]) (hr : RoomG k callerA)
    (ha : z.heap.get? a = some { cls := .type "list", data := .seq vs.toArray }) (hi : IntsAre vs ns) (hl : ns.length ≤ sizeLine)
    (F : ∀ base : Heap, K.In base → base.Ns mainGlobals mg → FnG P w K mg base CX k fa fd [x] sp) (hbind : BindsTo z fd ⟨[.ref a], []⟩ [(x, .ref a)])
    (hsp : ∀ H : Hp, Only H → FzL K H a (ns.map V.int) → sp [.ref a] H (fun v _ => v = .bl true) fun _ _ _ => False) (hCX : ∀ H e s', CX [] H z (fun _ _ _ => False) e s' → False) :
    codeAny (model P w) callerA (.call (.ref fa) ⟨[.ref a], []⟩) (fun r s' => r = .ok (.ret (.bool true)) ∧ OldK z.heap s'.heap ∧ s'.os = z.os ∧ AllBare s'.gens) z := by
  have rv := vals_ints hi
  have go := law_coreG KX hns hb hbb hlim hg hr ha F hbind hCX
  by_cases hk : K.lookup a = none
  · -- the script is tracked as a list that never changes
    let o : Obj := { cls := .type "list", data := .seq vs.toArray }
    have one : ∀ b u, upd (fun _ => none) a (HO.frz o (.lst (ns.map V.int))) b = some u → b = a ∧ u = .frz o (.lst (ns.map V.int)) := fun b u e => by
      by_cases h : b = a
      · subst h
        rw [upd_same] at e
        cases e
        exact ⟨rfl, rfl⟩
      · rw [upd_ne h] at e
        cases e
    have only : Only (upd (fun _ => none) a (.frz o (.lst (ns.map V.int)))) := fun b => by
      cases e : upd (fun _ => none) a (HO.frz o (.lst (ns.map V.int))) b with
      | none => exact .inl rfl
      | some u => exact .inr ⟨o, _, by rw [(one b u e).2]⟩
    refine go _ only (fun b u e => ?_) (fun b e => ?_) (hsp _ only (.inl ⟨o, upd_same⟩))
    · obtain ⟨rfl, rfl⟩ := one b u e
      exact ⟨ha, by rw [List.length_map]; exact hl, vs, _, rv, ha⟩
    · cases h : upd (fun _ => none) a (HO.frz o (.lst (ns.map V.int))) b with
      | none => exact absurd h e
      | some u => exact ⟨(one b u h).1, hk⟩
  · obtain ⟨o, hk⟩ := Option.ne_none_iff_exists'.mp hk
    cases ha.symm.trans (KX a o hk)
    have lv : vs.toArray.size ≤ sizeLine := by rw [List.size_toArray, hi.length]; exact hl
    refine go (fun _ => none) (fun _ => .inl rfl) (fun b u e => by cases e) (fun b e => absurd rfl e) (hsp _ (fun _ => .inl rfl) (.inr fun H' => .inr ⟨_, vs.toArray, _, hk, rfl, rfl, rfl, lv, by simpa using rv⟩))
/-- for the goal that k_head leaves -/
theorem walk_ofG {l : PySem.W.OpenLaw} {n k : Nat} {q : Program} {loose : List Str} {XP : (Str → Option Value) → Heap → Prop} {YP : World → Heap → Prop} {d : DefRec} {K : Params → PySem.W.Frag} {CX : World → CXT} {sp : World → (Str → Option Value) → Sp} {x : Str}
    (hn : l.most = some n) (hn2 : n ≤ sizeLine) (hdf : d.params.defaults = []) (hr : RoomG k callerA) (hY : ∀ (w : World) (h : Heap), YP w h → (K w.params).In h)
    (F : ∀ (w : World) (mg : Str → Option Value) (fa : Addr) (h : Heap), (K w.params).In h → h.Ns mainGlobals mg → mg d.name = some (.ref fa) → ∃ fd : FuncData, (∀ (s : Shared) (u : Value), BindsTo s fd ⟨[u], []⟩ [(x, u)]) ∧
      ∀ base : Heap, (K w.params).In base → base.Ns mainGlobals mg → FnG l.prog w (K w.params) mg base (CX w) k fa fd [x] (sp w mg))
    (hsp : ∀ (w : World) (mg : Str → Option Value) (H : Hp) (a : Addr) (ns : List Int), ns.length ≤ n → Only H → FzL (K w.params) H a (ns.map V.int) → sp w mg [.ref a] H (fun v _ => v = .bl true) fun _ _ _ => False)
    (hCX : ∀ (w : World) (H : Hp) (s : Shared) (e : Value) (s' : Shared), CX w [] H s (fun _ _ _ => False) e s' → False) : PySem.W.WalkO q loose XP YP l.row.toRowW d [] (fun f vs => PySem.call f vs) :=
  Att.attach_call hn hdf fun w s₀ z mg mb fa o pm cd doc a vs ns G Y ho hd hcd hmg hobj hi hlen hg => by
    obtain ⟨fd, hb, hF⟩ := F w mg fa _ (hY w _ Y) G.T.g hmg
    exact law_callG (hY w _ Y) G.T.g G.T.b G.T.builtins G.T.nolimit hg hr hobj hi (Nat.le_trans hlen hn2) hF (hb z _) (fun H hO hS => hsp w mg H a ns hlen hO hS) (fun H e s' => hCX w H z e s')
end
end Cl

set_option Elab.async false
set_option maxRecDepth 100000
set_option maxHeartbeats 2000000
namespace Cl
open PySem PySem.Spec PyProof.Rows L2
/-! ### defs -/
inductive FR where
  | ok (x : CV) (hp : List CO)
  | ex (e : XC) (hp : List CO)
  | no
abbrev Fn := List CV → List CO → FR
abbrev gk (K : KW) (mg : Str → Option Value) : Gh := ⟨K, mg, fun _ => none, []⟩
theorem ODen.g {G G' : Gh} {H : Hp} {μ : List Addr} {a : Addr} {o : CO} {ho : HO} (h : ODen G H μ a o ho) (e1 : G.K = G'.K) (e2 : G.mg = G'.mg) : ODen G' H μ a o ho := by
  obtain ⟨K, mg, B, m0⟩ := G
  obtain ⟨K', mg', B', m0'⟩ := G'
  have e1 : K = K' := e1
  have e2 : mg = mg' := e2
  subst e1 e2
  cases o <;> exact h
/-- the objects of the clean heap -/
structure HRel (K : KW) (mg : Str → Option Value) (μ : List Addr) (hp : List CO) (H : Hp) : Prop where
  hl : μ.length = hp.length
  hp : ∀ (n : Nat) (o : CO), hp[n]? = some o → ∃ a ho, μ[n]? = some a ∧ H a = some ho ∧ ODen (gk K mg) H μ a o ho
  nd : μ.Nodup
/-- what a call leaves -/
structure Post (K : KW) (mg : Str → Option Value) (μ μ1 : List Addr) (H H1 : Hp) (hp1 : List CO) : Prop where
  pre : μ <+: μ1
  keep : ∀ a o, H a = some o → a ∉ μ → H1 a = some o
  rel : HRel K mg μ1 hp1 H1
  new : ∀ a, a ∈ μ1 → a ∉ μ → H a = none
def spC (K : KW) (mg : Str → Option Value) (F : Fn) (n : Nat) : Sp := fun vs H Q E => vs.length = n ∧ ∃ μ xs hp, HRel K mg μ hp H ∧ VDenL K H μ xs vs ∧ match F xs hp with
  | .ok x hp1 => ∀ μ1 v H1, Post K mg μ μ1 H H1 hp1 → VDen K H1 μ1 x v → Q v H1
  | .ex e hp1 => ∀ μ1 cls d H1, Post K mg μ μ1 H H1 hp1 → XDen (gk K mg) H1 e cls d → E cls d H1
  | .no => False
def fnOf (m : MS) (n : Nat) : Fn := fun xs hp => match m ⟨xs.map .v ++ List.replicate (n - xs.length) .un, hp⟩ with
  | .nx c => .ok (.d .none) c.hp
  | .rt x c => .ok x c.hp
  | .ex e c => .ex e c.hp
  | _ => .no
theorem HRel.of {K : KW} {mg : Str → Option Value} {G : Gh} {μ : List Addr} {c : CS} {σ : LSt} {H : Hp} (R : Rel G μ c σ H) (e1 : G.K = K) (e2 : G.mg = mg) : HRel K mg μ c.hp H :=
  ⟨R.hl, fun n o h => let ⟨a, ho, a1, a2, a3⟩ := R.hp n o h; ⟨a, ho, a1, a2, a3.g e1 e2⟩, R.nd⟩
/-- the entry -/
theorem Rel.start {G : Gh} {K : KW} {mg : Str → Option Value} {μ : List Addr} {hp : List CO} {H : Hp} {xs : List CV} {vs : List V} {N : List Str} (R : HRel K mg μ hp H) (d : VDenL K H μ xs vs) (e : G = ⟨K, mg, H, μ⟩) :
    Rel G μ ⟨xs.map .v ++ List.replicate (N.length - xs.length) .un, hp⟩ (L2.start N vs) H := by
  subst e
  have hl := Paired.length d
  have none_own : ∀ (i : Nat) (s : Sl), (xs.map Sl.v ++ List.replicate (N.length - xs.length) Sl.un)[i]? = some s → s.own = true → False := fun i s e k => by
    have m := List.mem_of_getElem? e
    rcases List.mem_append.mp m with m | m
    · obtain ⟨x, _, rfl⟩ := List.mem_map.mp m
      cases k
    · obtain rfl := (List.mem_replicate.mp m).2
      cases k
  refine ⟨?_, fun i x e => ?_, fun i s e k => (none_own i s e k).elim, fun i j s t a _ e k _ _ => (none_own i s e k).elim, R.hl, fun n o h => ?_, R.nd, List.prefix_refl _, fun a h1 h2 => absurd h1 h2, fun a o h _ => h⟩
  · unfold L2.start
    show (xs.map Sl.v ++ List.replicate (N.length - xs.length) Sl.un).length = _
    rw [List.length_append, List.length_append, List.length_map, List.length_map, List.length_replicate, List.length_replicate, hl]
  · have e : (xs.map Sl.v ++ List.replicate (N.length - xs.length) Sl.un)[i]? = some (.v x) := e
    by_cases hi : i < xs.length
    · rw [List.getElem?_append_left (by simpa using hi), List.getElem?_map] at e
      cases hx : xs[i]? with
      | none =>
        rw [hx] at e
        cases e
      | some y =>
        rw [hx] at e
        cases e
        obtain ⟨v, hv, dv⟩ := Cl.paired_get d hx
        refine ⟨v, ?_, dv⟩
        unfold L2.start
        rw [List.getElem?_append_left (by rw [List.length_map, ← hl]; exact hi), List.getElem?_map, hv]
        rfl
    · rw [List.getElem?_append_right (by simpa using hi)] at e
      have m := List.mem_of_getElem? e
      cases (List.mem_replicate.mp m).2
  · obtain ⟨a, ho, a1, a2, a3⟩ := R.hp n o h
    exact ⟨a, ho, a1, a2, a3.g rfl rfl⟩
theorem Post.of {K : KW} {mg : Str → Option Value} {μ μ1 : List Addr} {c : CS} {σ : LSt} {H H1 : Hp} (R : Rel ⟨K, mg, H, μ⟩ μ1 c σ H1) : Post K mg μ μ1 H H1 c.hp :=
  ⟨R.pre, R.fr, HRel.of R rfl rfl, R.new⟩
section
variable {P : Program} {w : World} {K : PySem.W.Frag} {mg : Str → Option Value} {base : Heap}
/-- THE RULE for a def -/
theorem fn_clean {x qual : Str} {st : Stmt} {f : Addr} {fd : FuncData} {Nn ps : List Str} {k : Nat} {m : MS} (F : Fun K x qual st f fd) (S : FnScope Nn ps (defScope st))
    (h : ∀ (cdv : Value) (A : Around) (outer : List Env) (s : Shared) (H : Hp) (E : XK) (μ : List Addr), RoomG k (A.deeper (envOfC qual (defScope st) s.heap.objs.size f cdv)) →
      CSs (cxOf (L2N.CX P w) P w K mg base Nn qual (defScope st) f cdv A outer s H E) ⟨H, μ, fun cls d _ H' => E cls d H'⟩ (defBody st) m) :
    FnG P w K mg base (L2N.CX P w) (k + 1) f fd ps (spC ⟨K, w⟩ mg (fnOf m Nn.length) ps.length) := by
  obtain ⟨oc, od, kV, doc, pm, an, cdv, ct, osl, rfl, lk, hcd⟩ := F.ex
  refine fn_ofG lk hcd S (fun vs H Q E q => q.1) fun A outer s H vs Q E hr hsp => ?_
  obtain ⟨hlen, μ, xs, hp, R, d, q⟩ := hsp
  refine ⟨_, h cdv A outer s H E μ hr, μ, _, Rel.start R d rfl, ?_⟩
  unfold fnOf at q
  cases e : m ⟨xs.map .v ++ List.replicate (Nn.length - xs.length) .un, hp⟩ with
  | nx c =>
    rw [e] at q
    exact fun μ1 σ1 H1 a b R1 => q μ1 .non H1 (Post.of R1) vden_none
  | rt y c =>
    rw [e] at q
    exact fun μ1 σ1 H1 v a b R1 dv => q μ1 v H1 (Post.of R1) dv
  | bk c =>
    rw [e] at q
    exact q.elim
  | ct c =>
    rw [e] at q
    exact q.elim
  | ex y c =>
    rw [e] at q
    exact fun μ1 σ1 cls d H1 a b R1 dx => q μ1 cls d H1 (Post.of R1) dx
  | no =>
    rw [e] at q
    exact q.elim
end
/-! ### calls -/
section
variable {X : Cx} {N : Wn} {e : Expr} {es : List Expr} {pos p : Pos} {k : Nat} {f : Addr} {fd : FuncData} {ps : List Str} {F : Fn} {n : Nat} {x : Str} {ma : Mo (List CV)}
def runF (n : Nat) (F : Fn) (xs : List CV) : Mo CV := fun c => if xs.length = n then match F xs c.hp with
    | .ok x hp => .ok x { c with hp := hp }
    | .ex e hp => .ex e { c with hp := hp }
    | .no => .no
  else .no
def mCall (n : Nat) (F : Fn) (ma : Mo (List CV)) : Mo CV := mBind ma (runF n F)
/-- behind a call -/
theorem Post.fin {μ μ1 : List Addr} {c : CS} {σ : LSt} {H H1 : Hp} {hp1 : List CO} (R : Rel (gh X N) μ c σ H) (q : Post (kwOf X) X.mg μ μ1 H H1 hp1) : Rel (gh X N) μ1 { c with hp := hp1 } σ H1 ∧ Fz H H1 := by
  have nw : ∀ {a : Addr}, a ∈ μ → ∃ ho, H a = some ho ∧ Wr ho := fun m => R.tracked m
  have fz : Fz H H1 := by
    refine ⟨fun a xs e => q.keep a _ e fun z => ?_, fun a o u e => q.keep a _ e fun z => ?_⟩
    · obtain ⟨ho, e2, w⟩ := nw z
      rw [e] at e2
      cases e2
      exact w
    · obtain ⟨ho, e2, w⟩ := nw z
      rw [e] at e2
      cases e2
      exact w
  refine ⟨⟨R.len, fun i y h => ?_, fun i s h k => ?_, R.ap, q.rel.hl, fun m o h => ?_, q.rel.nd, R.pre.trans q.pre, fun a h1 h2 => ?_, fun a o h1 h2 => ?_⟩, fz⟩
  · obtain ⟨v, a, b⟩ := R.vl i y h
    exact ⟨v, a, b.mono fz q.pre⟩
  · obtain ⟨a, ho, a1, a2, a3, a4, a5⟩ := R.ow i s h k
    refine ⟨a, ho, a1, q.keep _ _ a2 a5, a3.mono fz, a4, fun z => ?_⟩
    have := q.new a z a5
    rw [a2] at this
    cases this
  · obtain ⟨a, ho, a1, a2, a3⟩ := q.rel.hp m o h
    exact ⟨a, ho, a1, a2, a3.g rfl rfl⟩
  · by_cases ha : a ∈ μ
    · exact R.new a ha h2
    · have hn := q.new a h1 ha
      exact (R.fresh hn).2
  · by_cases ha : a ∈ μ
    · exact absurd (R.new a ha h2) (by rw [h1]; simp)
    · exact q.keep a o (R.fr a o h1 h2) ha
theorem call_tm {σ : LSt} {H : Hp} {Q : VK} (h : tM (gh X N) N.W (mCall n F ma) σ H Q) : tCallS (spC (kwOf X) X.mg F n) (WE N.W) (tAr (gh X N) N.W ma) σ H Q := by
  obtain ⟨μ, c, R, p⟩ := h
  refine ⟨μ, c, R, (RunAt.bind p).imp fun xs μ1 c1 H1 a b r q vs d => ?_⟩
  unfold RunAt runF at q
  by_cases hl : xs.length = n
  · rw [if_pos hl] at q
    refine ⟨by rw [← Paired.length d]; exact hl, μ1, xs, c1.hp, HRel.of r rfl rfl, d, ?_⟩
    cases hF : F xs c1.hp with
    | ok y hp1 =>
      rw [hF] at q
      intro μ2 v H2 po dv
      obtain ⟨R2, f2⟩ := po.fin r
      exact q μ2 H2 po.pre f2 R2 v dv
    | ex y hp1 =>
      rw [hF] at q
      intro μ2 cls dd H2 po dx
      obtain ⟨R2, f2⟩ := po.fin r
      exact q μ2 cls dd H2 po.pre f2 R2 dx
    | no =>
      rw [hF] at q
      exact q
  · rw [if_neg hl] at q
    exact q.elim
theorem ce_call (G : FnG X.prog X.w X.K X.mg X.base (L2N.CX X.prog X.w) k f fd ps (spC (kwOf X) X.mg F n)) (hr : RoomG k X.A) (hm : X.mg x = some (.ref f)) (hk : PySem.W.keepIn X.K (.ref f) = true) (hb : Binds X.K fd ps [])
    (tk : L2N.Takes X N.W) (ha : CA X N (e :: es) ma) (hg : Gl X x := by rfl) (hdb : (x == ("__debug__" : Str)) = false := by decide) (he : starEach (e :: es) X.env = (false, eval e X.env) :: starEach es X.env := by rfl)
    (hpl : (backTo pos (starEach es X.env)).any (·.1) = false := by rfl) : CE X N (.Call (.Name x p) (e :: es) [] pos) (mCall n F ma) :=
  PE.tm (pe_callG G hr hg hm hk hb (fun σ => L2N.passAt tk σ) ha hdb he hpl) fun σ H Q => call_tm
/-- a call that sees nothing of the clean heap, and gives data back -/
def noR : List CV → Bool
  | [] => true
  | .r _ :: _ => false
  | _ :: t => noR t
def runL (n : Nat) (F : Fn) (xs : List CV) : Mo CV := fun c => if xs.length = n ∧ noR xs = true then match F xs [] with
    | .ok (.d x) _ => .ok (.d x) c
    | .ex e _ => .ex e c
    | _ => .no
  else .no
def mCallL (n : Nat) (F : Fn) (ma : Mo (List CV)) : Mo CV := mBind ma (runL n F)
theorem noR_den {K : KW} {H : Hp} {μ μ' : List Addr} : ∀ {xs : List CV} {vs : List V}, noR xs = true → VDenL K H μ xs vs → VDenL K H μ' xs vs
  | [], _, _, .nil => .nil
  | .r _ :: _, _, e, _ => by cases e
  | .d x :: t, _, e, .cons h r => .cons h (noR_den (xs := t) e r)
  | .o x :: t, _, e, .cons h r => .cons h (noR_den (xs := t) e r)
theorem callL_tm {σ : LSt} {H : Hp} {Q : VK} (h : tM (gh X N) N.W (mCallL n F ma) σ H Q) : tCallS (spC (kwOf X) X.mg F n) (WE N.W) (tAr (gh X N) N.W ma) σ H Q := by
  obtain ⟨μ, c, R, p⟩ := h
  refine ⟨μ, c, R, (RunAt.bind p).imp fun xs μ1 c1 H1 a b r q vs d => ?_⟩
  unfold RunAt runL at q
  by_cases hl : xs.length = n ∧ noR xs = true
  · rw [if_pos hl] at q
    refine ⟨by rw [← Paired.length d]; exact hl.1, [], xs, [], ⟨rfl, fun m o h => by simp at h, List.nodup_nil⟩, noR_den hl.2 d, ?_⟩
    have sm : ∀ {H2 : Hp}, (∀ a o, H1 a = some o → a ∉ ([] : List Addr) → H2 a = some o) → Same H1 H2 := fun h a o e => h a o e (by simp)
    cases hF : F xs [] with
    | ok y hp1 =>
      rw [hF] at q
      intro μ2 v H2 po dv
      have s2 := sm po.keep
      cases y with
      | d y => exact q μ1 H2 (List.prefix_refl _) (Fz.same s2) (r.same s2) v dv
      | r _ => exact q.elim
      | o _ => exact q.elim
    | ex y hp1 =>
      rw [hF] at q
      intro μ2 cls dd H2 po dx
      have s2 := sm po.keep
      exact q μ1 cls dd H2 (List.prefix_refl _) (Fz.same s2) (r.same s2) dx
    | no =>
      rw [hF] at q
      exact q
  · rw [if_neg hl] at q
    exact q.elim
theorem ce_callL (G : FnG X.prog X.w X.K X.mg X.base (L2N.CX X.prog X.w) k f fd ps (spC (kwOf X) X.mg F n)) (hr : RoomG k X.A) (hm : X.mg x = some (.ref f)) (hk : PySem.W.keepIn X.K (.ref f) = true) (hb : Binds X.K fd ps [])
    (tk : L2N.Takes X N.W) (ha : CA X N (e :: es) ma) (hg : Gl X x := by rfl) (hdb : (x == ("__debug__" : Str)) = false := by decide) (he : starEach (e :: es) X.env = (false, eval e X.env) :: starEach es X.env := by rfl)
    (hpl : (backTo pos (starEach es X.env)).any (·.1) = false := by rfl) : CE X N (.Call (.Name x p) (e :: es) [] pos) (mCallL n F ma) :=
  PE.tm (pe_callG G hr hg hm hk hb (fun σ => L2N.passAt tk σ) ha hdb he hpl) fun σ H Q => callL_tm
/-- nothing is let out -/
theorem takes_q {X : Cx} : L2N.Takes X (fun _ _ _ _ => False) := fun _ _ x => by
  obtain ⟨_, _, _, _, _, _, _, _, _, _, _, _, _, _, _, _, z⟩ := x
  exact z.elim
end
end Cl

set_option Elab.async false
set_option maxRecDepth 100000
set_option maxHeartbeats 2000000
/-! Dicts whose keys are tuples: walking one that is locked. -/
namespace Cl
open PySem PySem.Spec PyProof.Rows L2
theorem pair_at {α β : Type} {F : α → β → Prop} : ∀ {l : List α} {m : List β} {i : Nat} {x : α}, Paired F l m → l[i]? = some x → ∃ y, m[i]? = some y ∧ F x y
  | _, _, _, _, .nil, e => by simp at e
  | _, _, 0, _, .cons h _, e => by
    simp at e
    subst e
    exact ⟨_, rfl, h⟩
  | _, _, i + 1, _, .cons _ t, e => pair_at (i := i) t (by simpa using e)
section
variable {X : Cx} {pins : List (Addr × Obj)} {σ : LSt} {H : Hp} {s : Shared} {d : Addr} {o : Obj} {kws : List (NestedKey × Addr × V)}
/-- a locked one: its rows -/
theorem frzY (I : Inv X pins σ H s) (h : H d = some (.frz o (DKy X.w d kws))) : (d == sysModules) = false ∧ s.heap.get? d = some o ∧ o.ExactDict ∧ ∃ (es : Array DictEntry) (ep : Nat), o.data = .dict es ep ∧ es.size = kws.length ∧
    ∀ (i : Nat) (q : NestedKey × Addr × V), kws[i]? = some q → ∃ en : DictEntry, es[i]? = some en ∧ en.key = .ref q.2.1 ∧ RelV q.2.2 en.val := by
  obtain ⟨hd, ⟨_, hs, _, xs, o', es, ep, pr, ho, hx, hdt, he⟩, _⟩ := I.hok d _ h
  cases hd.symm.trans ho
  have l1 := Paired.length pr
  have l2 : es.size = xs.length := by rw [← Array.length_toList, he, List.length_map]
  refine ⟨hs, hd, hx, es, ep, hdt, by omega, fun i q e => ?_⟩
  obtain ⟨x, ex, e1, e2, e3⟩ := pair_at pr e
  refine ⟨⟨x.1.hash X.w, .ref x.2.1, x.2.2⟩, ?_, by rw [e2], e3⟩
  rw [← Array.getElem?_toList, he, List.getElem?_map, ex]
  rfl
/-- its keys, in order -/
def Ity (w : World) (d : Addr) (o : Obj) (kws : List (NestedKey × Addr × V)) : It :=
  ⟨fun i H => H d = some (.frz o (DKy w d kws)) ∧ i < kws.length, fun i H x H' => H' = H ∧ ∃ q, kws[i]? = some q ∧ x = .ref q.2.1, fun i H => H d = some (.frz o (DKy w d kws)) ∧ kws.length ≤ i⟩
end
theorem turn_keysY {P : Program} {w : World} {K : PySem.W.Frag} {tg : Expr} {d : Addr} {o : Obj} {es : Array DictEntry} {ep : Nat} {kws : List (NestedKey × Addr × V)} (it : Addr) (hod : o.data = .dict es ep) :
    Turn P w K tg (Ity w d o kws) [it] it (fun i h => h.IsKeyIter it d i kws.length ep) where
  mem := .head _
  obj := fun i h ⟨oi, e, _, dd⟩ b hb => ⟨oi, by rw [List.mem_singleton.mp hb]; exact e, fun v z => by rw [dd] at z; cases z⟩
  keep := fun i h h' st k => st.at fun oi e => k it (.head _) oi e
  item := by
    intro X hP hw hK hc i pins s σ H E I hf st ⟨hd, hi⟩
    subst hP hw hK
    obtain ⟨f0, f1, f2, f3, f4, f5⟩ := hf it (.head _)
    obtain ⟨hs, hg, hx, es', ep', hdt, hsz, rows⟩ := frzY I hd
    obtain ⟨rfl, rfl⟩ := dict_ep hod hdt
    have e0 := List.getElem?_eq_getElem hi
    obtain ⟨en, hen, hk, _⟩ := rows i _ e0
    refine next_key_item st hg hdt hsz hen fun h' st' sb => ?_
    have I1 := I.turned (t' := s.toks) (h' := h') (fun b ob hb e => (sb.2 b hb).trans e) f0 f1 f3 f4 f5
    obtain ⟨oi, e, c, dd⟩ := id st'
    exact ⟨_, rfl, go_of (s := { s with heap := h' }) e c dd (by decide) ⟨.ref kws[i].2.1, H, I1, hk, ⟨rfl, _, e0, rfl⟩, st', fun b hb => (hf b hb).1⟩⟩
  done := by
    intro X hP hw hK hc i pins s σ H E I hf st ⟨hd, hi⟩
    subst hP hw hK
    obtain ⟨f0, f1, f2, f3, f4, f5⟩ := hf it (.head _)
    obtain ⟨hs, hg, hx, es', ep', hdt, hsz, rows⟩ := frzY I hd
    obtain ⟨rfl, rfl⟩ := dict_ep hod hdt
    exact next_key_end (I.ok.hd hc) st hg hdt hsz hi fun h' eb => ⟨rfl, I.turned (t' := s.toks) (fun b ob hb e => eb b ob hb e) f0 f1 f3 f4 f5⟩
  self := fun A i s Q E st h => wpAny_pyIter_keyiter st h
/-- for k in d -/
def iKeyC (w : World) (td : TE) : TI := fun σ H R => td σ H fun x H1 => ∃ d o, x = .ref d ∧ ((∃ kvs, H1 d = some (.frz o (.dK kvs)) ∧ R (Itk d o kvs) H1) ∨ ∃ kws, H1 d = some (.frz o (DKy w d kws)) ∧ R (Ity w d o kws) H1)
theorem pi_keyC {X : Cx} {tg e : Expr} {td : TE} (he : PE X e td) : PI X tg e (iKeyC X.w td) := by
  refine ⟨fun pins s σ H R I h => thn (he.run pins s σ H _ I h) fun u s1 ⟨x, H1, I1, rx, d, o, ex, q⟩ => ?_⟩
  subst ex
  obtain rfl : u = Value.ref d := rx
  rcases q with ⟨kvs, hd, q⟩ | ⟨kws, hd, q⟩
  · obtain ⟨hs, hg, hx, es, ep, vs, hdt, hsz, kv, hm⟩ := I1.frzK hd
    refine iter_keys hs hg hx hdt (pi_one (tk := s1.toks) I1 _ (turn_keys _ hdt) ⟨_, Heap.get?_push_size _ rfl, rfl, ?_⟩ q)
    rw [hsz] <;> rfl
  · obtain ⟨hs, hg, hx, es, ep, hdt, hsz, rows⟩ := frzY I1 hd
    refine iter_keys hs hg hx hdt (pi_one (tk := s1.toks) I1 _ (turn_keysY _ hdt) ⟨_, Heap.get?_push_size _ rfl, rfl, ?_⟩ q)
    rw [hsz] <;> rfl
end Cl

set_option Elab.async false
set_option maxRecDepth 100000
set_option maxHeartbeats 2000000
namespace Cl
open PySem PySem.Spec PyProof.Rows L2
/-! ### targets -/
structure Tg where
  f : CV → CS → Option CS
  ix : List Nat
def Out (ix : List Nat) (σ σ1 : LSt) : Prop := σ1.length = σ.length ∧ ∀ j, j ∉ ix → σ1[j]? = σ[j]?
def tG (K : KW) (mg : Str → Option Value) (g : Tg) : TG := fun v σ H Q => ∃ B m0 μ c x c1, Rel ⟨K, mg, B, m0⟩ μ c σ H ∧ VDen K H μ x v ∧ g.f x c = some c1 ∧ ∀ σ1, Out g.ix σ σ1 → Rel ⟨K, mg, B, m0⟩ μ c1 σ1 H → Q σ1 H
def tGs (K : KW) (mg : Str → Option Value) (f : List CV → CS → Option CS) (ix : List Nat) : TGs := fun vs σ H Q => ∃ B m0 μ c xs c1, Rel ⟨K, mg, B, m0⟩ μ c σ H ∧ VDenL K H μ xs vs ∧ f xs c = some c1 ∧ ∀ σ1, Out ix σ σ1 → Rel ⟨K, mg, B, m0⟩ μ c1 σ1 H → Q σ1 H
abbrev CG (X : Cx) (tg : Expr) (g : Tg) : Prop := PG X tg (tG (kwOf X) X.mg g)
abbrev CGs (X : Cx) (ts : List Expr) (f : List CV → CS → Option CS) (ix : List Nat) : Prop := PGs X ts (tGs (kwOf X) X.mg f ix)
def gN (i : Nat) : Tg := ⟨fun x c => some (cSet i (.v x) c), [i]⟩
theorem Out.refl {ix : List Nat} {σ : LSt} : Out ix σ σ := ⟨rfl, fun _ _ => rfl⟩
theorem Out.trans {a b : List Nat} {σ σ1 σ2 : LSt} (h : Out a σ σ1) (k : Out b σ1 σ2) : Out (a ++ b) σ σ2 := ⟨k.1.trans h.1, fun j hj => by
  rw [List.mem_append, not_or] at hj
  exact (k.2 j hj.2).trans (h.2 j hj.1)⟩
def unNil : List CV → CS → Option CS := fun xs c => match xs with
  | [] => some c
  | _ => none
def unCons (g : Tg) (f : List CV → CS → Option CS) : List CV → CS → Option CS := fun xs c => match xs with
  | x :: r => (g.f x c).bind (f r)
  | [] => none
section
variable {X : Cx} {N : Wn} {tg e a b iter : Expr} {ts : List Expr} {pos p : Pos}
theorem cg_name (i : Nat) {x : Str} (hN : X.N.Nodup) (hi : X.N[i]? = some x := by rfl) (hx : Loc X.env.scope x := by first | exact Or.inl rfl | exact Or.inr rfl) (hf : X.fn x = true ∨ X.env.scope.names.lookup x = some .local := by first | exact .inl rfl | exact .inr rfl) : CG X (.Name x pos) (gN i) := by
  refine ⟨fun pins s σ H v u Q I r h => (pg_name (i := i) hN hi hx hf).run pins s σ H v u Q I r ?_⟩
  obtain ⟨B, m0, μ, c, y, c1, R, d, e, q⟩ := h
  have e : some (cSet i (.v y) c) = some c1 := e
  cases e
  refine q _ ⟨by rw [List.length_set], fun j hj => ?_⟩ (R.set d)
  rw [List.getElem?_set_ne]
  intro z
  exact hj (by rw [z]; exact List.mem_singleton.mpr rfl)
theorem cgs_nil : CGs X [] unNil [] := by
  refine ⟨fun pins s σ H vs us Q I r h => pgs_nil.run pins s σ H vs us Q I r ?_⟩
  obtain ⟨B, m0, μ, c, y, c1, R, d, e, q⟩ := h
  unfold unNil at e
  cases y with
  | cons _ _ => cases e
  | nil =>
    cases e
    cases d
    exact ⟨rfl, q σ Out.refl R⟩
theorem cgs_cons {g : Tg} {f : List CV → CS → Option CS} {ix : List Nat} (h1 : CG X e g) (h2 : CGs X ts f ix) (hst : (assignEach (e :: ts) X.env).map (·.2) = assign e X.env :: (assignEach ts X.env).map (·.2) := by rfl) : CGs X (e :: ts) (unCons g f) (g.ix ++ ix) := by
  refine ⟨fun pins s σ H vs us Q I r h => (pgs_cons h1 h2 hst).run pins s σ H vs us Q I r ?_⟩
  obtain ⟨B, m0, μ, c, ys, c2, R, d, e, q⟩ := h
  cases ys with
  | nil => cases e
  | cons y ys =>
    cases d with
    | cons d1 d2 =>
      have e : (g.f y c).bind (f ys) = some c2 := e
      cases h1 : g.f y c with
      | none =>
        rw [h1] at e
        cases e
      | some c1 =>
        rw [h1] at e
        exact ⟨_, _, rfl, B, m0, μ, c, y, c1, R, d1, h1, fun σ1 o1 R1 => ⟨B, m0, μ, c1, ys, c2, R1, d2, e, fun σ2 o2 R2 => q σ2 (o1.trans o2) R2⟩⟩
/-- a, b, .. = a tuple -/
def gT (f : List CV → CS → Option CS) (ix : List Nat) : Tg := ⟨fun x c => match x with
  | .d (.tuple xs) => f (xs.map .d) c
  | _ => none, ix⟩
theorem cg_tup {f : List CV → CS → Option CS} {ix : List Nat} {k n : Nat} (hc : X.calm = true) (h : CGs X ts f ix) (hlen : ∀ xs c c1, f xs c = some c1 → xs.length = n) (hn : (assignEach ts X.env).length = n := by rfl) (hst : (assignEach ts X.env).findIdx? (·.1) = none := by rfl) : CG X (.Tuple ts k pos) (gT f ix) := by
  refine ⟨fun pins s σ H v u Q I r hh => (pg_tup hc h hn hst).run pins s σ H v u Q I r ?_⟩
  obtain ⟨B, m0, μ, c, y, c1, R, d, e, q⟩ := hh
  cases y with
  | r _ => cases e
  | o _ => cases e
  | d y =>
    cases y with
    | tuple xs =>
      have d : Den (kwOf X) H (.tuple xs) v := d
      simp only [Den] at d
      obtain ⟨a, vs, rfl, sq, dl⟩ := d
      have e : f (xs.map .d) c = some c1 := e
      have l := hlen _ _ _ e
      rw [List.length_map] at l
      exact ⟨a, vs, rfl, sq, by rw [dl.length]; exact l, B, m0, μ, c, xs.map .d, c1, R, denL_v dl, e, fun σ1 o1 R1 => q σ1 o1 R1⟩
    | none => cases e
    | bool _ => cases e
    | int _ => cases e
    | str _ => cases e
    | list _ => cases e
    | dict _ => cases e
theorem unNil_len : ∀ (xs : List CV) (c c1 : CS), unNil xs c = some c1 → xs.length = 0 := fun xs c c1 h => by
  cases xs with
  | nil => rfl
  | cons _ _ => cases h
theorem unCons_len {g : Tg} {f : List CV → CS → Option CS} {n : Nat} (hf : ∀ xs c c1, f xs c = some c1 → xs.length = n) : ∀ (xs : List CV) (c c1 : CS), unCons g f xs c = some c1 → xs.length = n + 1 := fun xs c c1 h => by
  cases xs with
  | nil => cases h
  | cons x r =>
    have h : (g.f x c).bind (f r) = some c1 := h
    cases h1 : g.f x c with
    | none =>
      rw [h1] at h
      cases h
    | some c2 =>
      rw [h1] at h
      rw [List.length_cons, hf r c2 c1 h]
/-! ### what is walked -/
structure ItOk (K : KW) (H1 : Hp) (xs : List PyData) (J : It) : Prop where
  go : ∀ i H', i < xs.length → Fz H1 H' → J.go i H'
  yld : ∀ i H' x H2, i < xs.length → Fz H1 H' → J.yld i H' x H2 → Same H' H2 ∧ ∃ y, xs[i]? = some y ∧ Den K H2 y x
  stop : ∀ i H', xs.length ≤ i → Fz H1 H' → J.stop i H'
def tI (G : Gh) (W : WX) (m : Mo (List PyData)) : TI := fun σ H R => ∃ μ c, Rel G μ c σ H ∧ RunAt G W m μ c σ H fun xs _ _ H1 => ∀ J, ItOk G.K H1 xs J → R J H1
abbrev CI (X : Cx) (N : Wn) (tg iter : Expr) (m : Mo (List PyData)) : Prop := PI X tg iter (tI (gh X N) N.W m)
theorem paired_got {α β : Type} {F : α → β → Prop} : ∀ {l1 : List α} {l2 : List β} {i : Nat} {y : β}, Paired F l1 l2 → l2[i]? = some y → ∃ x, l1[i]? = some x ∧ F x y
  | _, _, _, _, .nil, e => by simp at e
  | _, _, 0, _, .cons h _, e => by
    simp at e
    subst e
    exact ⟨_, rfl, h⟩
  | _, _, i + 1, _, .cons _ t, e => paired_got (i := i) t (by simpa using e)
theorem den_key {K : KW} {H : Hp} (k : Key) : Den K H (keyD k) (kV k) := by
  cases k with
  | inl i => exact den_int i
  | inr x => exact den_str x
theorem den_keys {K : KW} {H : Hp} : ∀ ks : List Key, DenL K H (ks.map keyD) (ks.map kV)
  | [] => .nil
  | k :: r => .cons (den_key k) (den_keys r)
/-- a list, a tuple, a text's signs, a dict's keys -/
def vItems (x : CV) : Option (List PyData) := match x with
  | .d (.list xs) => some xs
  | .d (.tuple xs) => some xs
  | .d (.str t) => some (t.cps.toList.map fun k => .str ⟨#[k]⟩)
  | .d (.dict kvs) => some (kvs.map (·.1))
  | _ => none
def mItems (m : Mo CV) : Mo (List PyData) := mBind m fun x => mOpt (vItems x)
theorem ci_of {m : Mo CV} (h : CE X N e m) : CI X N tg e (mItems m) := by
  refine ⟨fun pins s σ H R I q => ?_⟩
  obtain ⟨μ, c, Rl, p⟩ := q
  have p := RunAt.bind p
  -- which kind of thing comes
  cases hm : m c with
  | no =>
    unfold RunAt at p
    rw [hm] at p
    exact p.elim
  | ex x c1 =>
    refine (pi_list h).run pins s σ H R I ⟨μ, c, Rl, ?_⟩
    unfold RunAt at p ⊢
    rw [hm] at p ⊢
    exact p
  | ok x c1 =>
    have p' : ∀ μ1 H1, μ <+: μ1 → Fz H H1 → Rel (gh X N) μ1 c1 σ H1 → ∃ xs, vItems x = some xs ∧ ∀ J, ItOk (kwOf X) H1 xs J → R J H1 := by
      unfold RunAt at p
      rw [hm] at p
      intro μ1 H1 a b r
      obtain ⟨xs, e, q⟩ := RunAt.opt (p μ1 H1 a b r)
      exact ⟨xs, e, q H1 (Fz.refl _) r⟩
    have mk : ∀ {Q : VK}, (∀ μ1 H1 v, Fz H H1 → VDen (kwOf X) H1 μ1 x v → (∃ xs, vItems x = some xs ∧ ∀ J, ItOk (kwOf X) H1 xs J → R J H1) → Q v H1) → tM (gh X N) N.W m σ H Q := fun {Q} f => by
      refine ⟨μ, c, Rl, ?_⟩
      unfold RunAt
      rw [hm]
      exact fun μ1 H1 a b r v d => f μ1 H1 v b d (p' μ1 H1 a b r)
    cases x with
    | r _ => exact (pi_list h).run pins s σ H R I (mk fun μ1 H1 v f d ⟨xs', e, q⟩ => by cases e)
    | o _ => exact (pi_list h).run pins s σ H R I (mk fun μ1 H1 v f d ⟨xs', e, q⟩ => by cases e)
    | d y =>
      cases y with
      | list xs =>
        refine (pi_list h).run pins s σ H R I (mk fun μ1 H1 v f d ⟨xs', e, q⟩ => ?_)
        cases e
        have d : Den (kwOf X) H1 (.list xs) v := d
        simp only [Den] at d
        obtain ⟨a, vs, rfl, sq, dl⟩ := d
        refine ⟨a, rfl, ⟨vs, sq.sq⟩, q _ ⟨fun i H' hi f => ?_, fun i H' x H2 hi f y => ?_, fun i H' hi f => ?_⟩⟩
        · obtain ⟨v, hv, _⟩ := DenL.get dl (List.getElem?_eq_getElem hi)
          exact ⟨vs, v, (f.fzL sq).sq, hv⟩
        · obtain ⟨rfl, g⟩ := y
          obtain ⟨y, hy, dy⟩ := DenL.get' dl (g vs (f.fzL sq).sq)
          exact ⟨Same.refl _, y, hy, Den.mono f _ _ dy⟩
        · exact ⟨vs, (f.fzL sq).sq, by rw [dl.length]; exact hi⟩
      | tuple xs =>
        refine (pi_tup h).run pins s σ H R I (mk fun μ1 H1 v f d ⟨xs', e, q⟩ => ?_)
        cases e
        have d : Den (kwOf X) H1 (.tuple xs) v := d
        simp only [Den] at d
        obtain ⟨a, vs, rfl, sq, dl⟩ := d
        refine ⟨a, rfl, ⟨vs, sq⟩, q _ ⟨fun i H' hi f => ?_, fun i H' x H2 hi f y => ?_, fun i H' hi f => ?_⟩⟩
        · obtain ⟨v, hv, _⟩ := DenL.get dl (List.getElem?_eq_getElem hi)
          exact ⟨vs, v, f.sqT sq, hv⟩
        · obtain ⟨rfl, g⟩ := y
          obtain ⟨y, hy, dy⟩ := DenL.get' dl (g vs (f.sqT sq))
          exact ⟨Same.refl _, y, hy, Den.mono f _ _ dy⟩
        · exact ⟨vs, f.sqT sq, by rw [dl.length]; exact hi⟩
      | str t =>
        refine (pi_str h).run pins s σ H R I (mk fun μ1 H1 v f d ⟨xs', e, q⟩ => ?_)
        cases e
        have d : Den (kwOf X) H1 (.str t) v := d
        simp only [Den] at d
        subst d
        have sz : (t.cps.toList.map fun k => PyData.str ⟨#[k]⟩).length = t.cps.size := by rw [List.length_map, Array.length_toList]
        refine ⟨t, rfl, q _ ⟨fun i H' hi f => by rw [sz] at hi; exact hi, fun i H' x H2 hi f y => ?_, fun i H' hi f => by rw [sz] at hi; exact hi⟩⟩
        obtain ⟨rfl, k, hk, rfl⟩ := y
        refine ⟨Same.refl _, .str ⟨#[k]⟩, ?_, den_str _⟩
        rw [List.getElem?_map, Array.getElem?_toList, hk]
        rfl
      | dict kvs =>
        refine (pi_keyC h).run pins s σ H R I (mk fun μ1 H1 v f d ⟨xs', e, q⟩ => ?_)
        cases e
        obtain ⟨a, o, ho, rfl, hf, dp⟩ := dict_den d
        refine ⟨a, o, rfl, ?_⟩
        rcases dp with ⟨kws, rfl, pr⟩ | ⟨kws, rfl, pr⟩
        · refine .inl ⟨kws, hf, q _ ?_⟩
          have l := Paired.length pr
          refine ⟨fun i H' hi f => ⟨f.f _ _ _ hf, by rw [List.length_map] at hi; omega⟩, fun i H' x H2 hi f y => ?_, fun i H' hi f => ⟨f.f _ _ _ hf, by rw [List.length_map] at hi; omega⟩⟩
          obtain ⟨rfl, k, v, hk, rfl⟩ := y
          obtain ⟨p, hp, e1, _⟩ := paired_got pr hk
          refine ⟨Same.refl _, keyD k, ?_, den_key k⟩
          rw [List.getElem?_map, hp]
          exact congrArg some e1
        · refine .inr ⟨kws, hf, q _ ?_⟩
          have l := Paired.length pr
          refine ⟨fun i H' hi f => ⟨f.f _ _ _ hf, by rw [List.length_map] at hi; omega⟩, fun i H' x H2 hi f y => ?_, fun i H' hi f => ⟨f.f _ _ _ hf, by rw [List.length_map] at hi; omega⟩⟩
          obtain ⟨rfl, row, hk, rfl⟩ := y
          obtain ⟨p, hp, e1, _⟩ := paired_got pr hk
          refine ⟨Same.refl _, p.1, ?_, Den.mono f _ _ e1.2.2⟩
          rw [List.getElem?_map, hp]
          rfl
      | none => exact (pi_list h).run pins s σ H R I (mk fun μ1 H1 v f d ⟨xs', e, q⟩ => by cases e)
      | bool _ => exact (pi_list h).run pins s σ H R I (mk fun μ1 H1 v f d ⟨xs', e, q⟩ => by cases e)
      | int _ => exact (pi_list h).run pins s σ H R I (mk fun μ1 H1 v f d ⟨xs', e, q⟩ => by cases e)
/-- range(n), range(a, b) -/
def rgL (lo : Int) (n : Nat) : List PyData := (List.range n).map fun k => .int (lo + (k : Nat))
def okRg (i : Int) : Bool := decide (-(2 ^ 62) ≤ i) && decide (i < 2 ^ 62)
def mRg1 (m : Mo CV) : Mo (List PyData) := mBind m fun x => mBind (asI x) fun j => if okRg j then mRet (rgL 0 j.toNat) else fun _ => .no
def mRg2 (ma mb : Mo CV) : Mo (List PyData) := mBind ma fun x => mBind mb fun y => mBind (asI x) fun i => mBind (asI y) fun j => if okRg i && okRg j then mRet (rgL i (j - i).toNat) else fun _ => .no
theorem okRg_ok {i : Int} (h : okRg i = true) : -(2 ^ 62) ≤ i ∧ i < 2 ^ 62 := by
  unfold okRg at h
  rw [Bool.and_eq_true, decide_eq_true_eq, decide_eq_true_eq] at h
  exact h
theorem itr_ok {K : KW} {H1 : Hp} {lo : Int} {n : Nat} : ItOk K H1 (rgL lo n) (Itr lo n) := by
  have l : (rgL lo n).length = n := by
    unfold rgL
    rw [List.length_map, List.length_range]
  refine ⟨fun i H' hi _ => by rw [l] at hi; exact hi, fun i H' x H2 hi _ y => ?_, fun i H' hi _ => by rw [l] at hi; exact hi⟩
  obtain ⟨rfl, rfl⟩ := y
  rw [l] at hi
  refine ⟨Same.refl _, .int (lo + (i : Nat)), ?_, den_int _⟩
  unfold rgL
  rw [List.getElem?_map, List.getElem?_range hi]
  rfl
theorem ci_rg1 {m : Mo CV} (hm : X.mg "range" = none) (ha : CE X N a m) (hg : Gl X "range" := by rfl) (hs : starEach [a] X.env = [(false, eval a X.env)] := by rfl) : CI X N tg (.Call (.Name "range" p) [a] [] pos) (mRg1 m) := by
  refine ⟨fun pins s σ H R I h => (pi_range1 hg hm (pa_cons ha pa_nil hs) hs).run pins s σ H R I ?_⟩
  obtain ⟨μ, c, Rl, p⟩ := h
  refine ⟨μ, c, Rl, (RunAt.bind p).imp fun x μ1 c1 H1 a b r q v d => ?_⟩
  obtain ⟨j, ej, q'⟩ := asI_ret q
  subst ej
  obtain rfl := vden_i d
  by_cases hj : okRg j = true
  · rw [if_pos hj] at q'
    exact ⟨j, rfl, (okRg_ok hj).1, (okRg_ok hj).2, q'.ret H1 (Fz.refl _) r _ itr_ok⟩
  · rw [if_neg hj] at q'
    exact q'.elim
theorem ci_rg2 {ma mb : Mo CV} (hm : X.mg "range" = none) (ha : CE X N a ma) (hb : CE X N b mb) (hg : Gl X "range" := by rfl) (hs : starEach [a, b] X.env = [(false, eval a X.env), (false, eval b X.env)] := by rfl) (hs2 : starEach [b] X.env = [(false, eval b X.env)] := by rfl) : CI X N tg (.Call (.Name "range" p) [a, b] [] pos) (mRg2 ma mb) := by
  refine ⟨fun pins s σ H R I h => (pi_range2 hg hm (pa_cons ha (pa_cons hb pa_nil hs2) (by rw [hs, hs2])) hs hs2).run pins s σ H R I ?_⟩
  obtain ⟨μ, c, Rl, p⟩ := h
  refine ⟨μ, c, Rl, (RunAt.bind p).imp fun x μ1 c1 H1 a1 b1 r1 q1 v d => ⟨μ1, c1, r1, (RunAt.bind q1).imp fun y μ2 c2 H2 a2 b2 r2 q2 w d2 => ?_⟩⟩
  obtain ⟨i, ei, q3⟩ := asI_ret q2
  obtain ⟨j, ej, q4⟩ := asI_ret q3
  subst ei ej
  obtain rfl := vden_i d
  obtain rfl := vden_i d2
  by_cases hj : (okRg i && okRg j) = true
  · rw [if_pos hj] at q4
    rw [Bool.and_eq_true] at hj
    exact ⟨i, j, rfl, ⟨(okRg_ok hj.1).1, (okRg_ok hj.1).2, (okRg_ok hj.2).1, (okRg_ok hj.2).2⟩, q4.ret H2 (Fz.refl _) r2 _ itr_ok⟩
  · rw [if_neg hj] at q4
    exact q4.elim
/-! ### for -/
def forL (g : CV → CS → Option CS) (body : MS) : List PyData → MS
  | [], c => .nx c
  | x :: xs, c => match g (.d x) c with
    | none => .no
    | some c1 => match body c1 with
      | .nx c2 => forL g body xs c2
      | .ct c2 => forL g body xs c2
      | .bk c2 => .nx c2
      | .rt y c2 => .rt y c2
      | .ex e c2 => .ex e c2
      | .no => .no
def sFor (mi : Mo (List PyData)) (g : Tg) (body : MS) : MS := sBind mi fun xs => forL g.f body xs
theorem cs_for {body : List Stmt} {mi : Mo (List PyData)} {g : Tg} {mb : MS} (hp : PassesOwn (model X.prog X.w) X.A X.env X.xe) (hc : X.calm = true) (hi : CI X N tg iter mi) (hg : CG X tg g) (hb : CSs X N body mb) (hs : ∀ x, foldedSetIterable iter X.env x = pure x := by intro _; rfl) :
    CS1 X N (.For tg iter body [] pos) (sFor mi g mb) := by
  refine PS.tm (ps_for hp hc hi hg hb hs) fun D σ H ⟨μ, c, R, p⟩ => ⟨μ, c, R, (RunS.bind p).imp fun xs μ1 c1 H1 a b r q J ok => ?_⟩
  refine ⟨fun i m σ' H' => ∃ μ' c', i + m = xs.length ∧ Rel (gh X N) μ' c' σ' H' ∧ μ1 <+: μ' ∧ Fz H1 H' ∧ RunS (gh X N) N.W (forL g.f mb (xs.drop i) c') μ' H' D, ⟨xs.length, μ1, c1, by omega, r, List.prefix_refl _, Fz.refl _, q⟩, ?_⟩
  rintro i m σ' H' ⟨μ', c', em, R', p', f', q'⟩
  by_cases hi : i < xs.length
  · have hd : xs.drop i = xs[i] :: xs.drop (i + 1) := List.drop_eq_getElem_cons hi
    rw [hd] at q'
    refine .inr ⟨ok.go i H' hi f', fun σ2 H2 => ∃ μ2 c2, Rel (gh X N) μ2 c2 σ2 H2 ∧ μ1 <+: μ2 ∧ Fz H1 H2 ∧ RunS (gh X N) N.W (forL g.f mb (xs.drop (i + 1)) c2) μ2 H2 D, ?_, ?_⟩
    · rintro σ2 H2 ⟨μ2, c2, R2, p2, f2, q2⟩
      exact ⟨m - 1, by omega, μ2, c2, by omega, R2, p2, f2, q2⟩
    · intro x H2 y
      obtain ⟨sm, z, hz, dz⟩ := ok.yld i H' x H2 hi f' y
      rw [List.getElem?_eq_getElem hi] at hz
      cases hz
      have R2 := R'.same sm
      have f2 := f'.trans (Fz.same sm)
      unfold forL at q'
      cases hg1 : g.f (.d xs[i]) c' with
      | none =>
        rw [hg1] at q'
        exact q'.elim
      | some c1' =>
        rw [hg1] at q'
        dsimp only at q'
        refine ⟨N.B, N.m0, μ', c', .d xs[i], c1', R2, dz, hg1, fun σ3 o3 R3 => ⟨μ', c1', R3, ?_⟩⟩
        cases hb1 : mb c1' with
        | nx c2 =>
          rw [hb1] at q'
          exact fun μ4 σ4 H4 a4 b4 R4 => ⟨μ4, c2, R4, p'.trans a4, f2.trans b4, RunS.up q' a4 ((Fz.same sm).trans b4)⟩
        | ct c2 =>
          rw [hb1] at q'
          exact fun μ4 σ4 H4 a4 b4 R4 => ⟨μ4, c2, R4, p'.trans a4, f2.trans b4, RunS.up q' a4 ((Fz.same sm).trans b4)⟩
        | bk c2 =>
          rw [hb1] at q'
          exact fun μ4 σ4 H4 a4 b4 R4 => q' μ4 σ4 H4 a4 ((Fz.same sm).trans b4) R4
        | rt y c2 =>
          rw [hb1] at q'
          exact fun μ4 σ4 H4 v a4 b4 R4 => q' μ4 σ4 H4 v a4 ((Fz.same sm).trans b4) R4
        | ex y c2 =>
          rw [hb1] at q'
          exact fun μ4 σ4 cls d H4 a4 b4 R4 => q' μ4 σ4 cls d H4 a4 ((Fz.same sm).trans b4) R4
        | no =>
          rw [hb1] at q'
          exact q'.elim
  · have hd : xs.drop i = [] := List.drop_eq_nil_of_le (by omega)
    rw [hd] at q'
    exact .inl ⟨ok.stop i H' (by omega) f', RunS.nx' q' R'⟩
/-! ### while -/
def whL (ct : Mo Bool) (body : MS) : Nat → MS
  | 0, _ => .no
  | n + 1, c => match ct c with
    | .ok true c1 => match body c1 with
      | .nx c2 => whL ct body n c2
      | .ct c2 => whL ct body n c2
      | .bk c2 => .nx c2
      | .rt y c2 => .rt y c2
      | .ex e c2 => .ex e c2
      | .no => .no
    | .ok false c1 => .nx c1
    | .ex e c1 => .ex e c1
    | .no => .no
theorem cs_while (n : Nat) {c : Expr} {body : List Stmt} {mc : Mo Bool} {mb : MS} (hp : PassesOwn (model X.prog X.w) X.A X.env X.xe) (hc : CT X N c mc) (hb : CSs X N body mb) : CS1 X N (.While c body [] pos) (whL mc mb n) := by
  refine PS.tm (ps_while hp hc hb) fun D σ H ⟨μ, c, R, p⟩ => ?_
  refine ⟨fun m σ' H' => ∃ μ' c', Rel (gh X N) μ' c' σ' H' ∧ RunS (gh X N) N.W (whL mc mb m c') μ' H' D, ⟨n, μ, c, R, p⟩, ?_⟩
  rintro m σ' H' ⟨μ', c', R', q'⟩
  cases m with
  | zero => exact q'.elim
  | succ m =>
    refine ⟨μ', c', R', ?_⟩
    unfold whL at q'
    unfold RunAt
    cases ht : mc c' with
    | ok k c1 =>
      rw [ht] at q'
      intro μ1 H1 p1 f1 R1
      cases k with
      | false => exact iteF (q' μ1 _ H1 p1 f1 R1)
      | true =>
        dsimp only at q'
        refine iteT ⟨fun σ2 H2 => ∃ μ2 c2, Rel (gh X N) μ2 c2 σ2 H2 ∧ RunS (gh X N) N.W (whL mc mb m c2) μ2 H2 D, fun σ2 H2 ⟨μ2, c2, R2, q2⟩ => ⟨m, Nat.lt_succ_self _, μ2, c2, R2, q2⟩, μ1, c1, R1, ?_⟩
        cases hb1 : mb c1 with
        | nx c2 =>
          rw [hb1] at q'
          exact fun μ4 σ4 H4 a4 b4 R4 => ⟨μ4, c2, R4, RunS.up q' (p1.trans a4) (f1.trans b4)⟩
        | ct c2 =>
          rw [hb1] at q'
          exact fun μ4 σ4 H4 a4 b4 R4 => ⟨μ4, c2, R4, RunS.up q' (p1.trans a4) (f1.trans b4)⟩
        | bk c2 =>
          rw [hb1] at q'
          exact fun μ4 σ4 H4 a4 b4 R4 => q' μ4 σ4 H4 (p1.trans a4) (f1.trans b4) R4
        | rt y c2 =>
          rw [hb1] at q'
          exact fun μ4 σ4 H4 v a4 b4 R4 => q' μ4 σ4 H4 v (p1.trans a4) (f1.trans b4) R4
        | ex y c2 =>
          rw [hb1] at q'
          exact fun μ4 σ4 cls d H4 a4 b4 R4 => q' μ4 σ4 cls d H4 (p1.trans a4) (f1.trans b4) R4
        | no =>
          rw [hb1] at q'
          exact q'.elim
    | ex x c1 =>
      rw [ht] at q'
      exact fun μ1 cls d H1 p1 f1 R1 => q' μ1 σ' cls d H1 p1 f1 R1
    | no =>
      rw [ht] at q'
      exact q'.elim
end
end Cl

set_option Elab.async false
set_option maxRecDepth 100000
set_option maxHeartbeats 2000000
namespace Cl
open PySem PySem.Spec PyProof.Rows L2
/-! ### list comprehensions -/
def wipeS (sl : List Sl) : List Nat → List Sl
  | [] => sl
  | v :: vs => (wipeS sl vs).set v .un
def wipeC (vs : List Nat) (c : CS) : CS := { c with sl := wipeS c.sl vs }
/-- behind the block: the names of the block as they were, if they held values -/
def restS (sl0 sl : List Sl) : List Nat → List Sl
  | [] => sl
  | v :: vs => (restS sl0 sl vs).set v (match sl0[v]? with
    | some (.v x) => .v x
    | _ => .un)
def restC (vs : List Nat) (c0 c : CS) : CS := { c with sl := restS c0.sl c.sl vs }
def compL (g : CV → CS → Option CS) (tt : Mo Bool) (te : Mo CV) (vs : List Nat) : List PyData → List PyData → Mo (List PyData)
  | [], acc, c => .ok acc c
  | x :: xs, acc, c => match g (.d x) (wipeC vs c) with
    | none => .no
    | some c1 => match tt c1 with
      | .ok true c2 => match te c2 with
        | .ok (.d y) c3 => if acc.length < 16777216 then compL g tt te vs xs (acc ++ [y]) c3 else .no
        | _ => .no
      | .ok false c2 => compL g tt te vs xs acc c2
      | _ => .no
def mLc (mi : Mo (List PyData)) (g : Tg) (tt : Mo Bool) (te : Mo CV) (vs : List Nat) : Mo (List PyData) := mBind mi fun xs c0 => match compL g.f tt te vs xs [] c0 with
  | .ok acc c => .ok acc (restC vs c0 (wipeC vs c))
  | _ => .no
/-- the readings within a block: whatever the new list holds so far -/
def tMx (K : KW) (mg : Str → Option Value) (m : Mo CV) : TE := fun σ H Q => ∃ B m0, tM ⟨K, mg, B, m0⟩ (fun _ _ _ _ => False) m σ H Q
def tTx (K : KW) (mg : Str → Option Value) (m : Mo Bool) : TT := fun σ H Q => ∃ B m0, tT ⟨K, mg, B, m0⟩ (fun _ _ _ _ => False) m σ H Q
abbrev CEx (X : Cx) (e : Expr) (m : Mo CV) : Prop := ∀ B m0, CE X ⟨B, m0, fun _ _ _ _ => False⟩ e m
abbrev CTx (X : Cx) (e : Expr) (m : Mo Bool) : Prop := ∀ B m0, CT X ⟨B, m0, fun _ _ _ _ => False⟩ e m
theorem cex_pe {X : Cx} {e : Expr} {m : Mo CV} (h : CEx X e m) : PE X e (tMx (kwOf X) X.mg m) := ⟨fun pins s σ H Q I ⟨B, m0, q⟩ => (h B m0).run pins s σ H Q I q⟩
theorem ctx_pt {X : Cx} {e : Expr} {m : Mo Bool} (h : CTx X e m) : PT X e (tTx (kwOf X) X.mg m) := ⟨fun pins s σ H Q I ⟨B, m0, q⟩ => (h B m0).run pins s σ H Q I q⟩
/-- the tests of a clause -/
def mYes : Mo Bool := mRet true
theorem pts_yes {X : Cx} : PTs X [] (tTx (kwOf X) X.mg mYes) := ⟨fun pins s σ H Q I ⟨B, m0, μ, c, R, p⟩ => pts_nil.run pins s σ H Q I (p.ret H (Fz.refl _) R)⟩
theorem pts_c {X : Cx} {e : Expr} {m : Mo Bool} (h : CTx X e m) : PTs X [e] (tTx (kwOf X) X.mg m) := pts_one (ctx_pt h)
theorem wipeS_len (sl : List Sl) : ∀ vs, (wipeS sl vs).length = sl.length
  | [] => rfl
  | v :: vs => by
    unfold wipeS
    rw [List.length_set, wipeS_len sl vs]
section
variable {G : Gh} {μ : List Addr} {c : CS} {σ : LSt} {H : Hp}
theorem Rel.wiped (R : Rel G μ c σ H) : ∀ vs, Rel G μ (wipeC vs c) (wipe σ vs) H
  | [] => R
  | v :: vs => (Rel.wiped R vs).forget (i := v) (t := none)
/-- wiping twice -/
theorem Rel.rewipe {vs : List Nat} {σ2 : LSt} (R : Rel G μ c σ2 H) (e : wipe σ2 vs = wipe σ vs) : Rel G μ (wipeC vs c) (wipe σ vs) H := by
  rw [← e]
  exact R.wiped vs
theorem wipe_out' {σ σ1 : LSt} {ix vs : List Nat} (o : Out ix (wipe σ vs) σ1) (h : ∀ i, i ∈ ix → i ∈ vs) : wipe σ1 vs = wipe σ vs := by
  apply List.ext_getElem?
  intro j
  by_cases hj : j ∈ vs
  · have gone : ∀ (τ : LSt) (us : List Nat), j ∈ us → τ.length = σ.length → (wipe τ us)[j]? = if j < σ.length then some none else none := by
      intro τ us
      induction us with
      | nil => intro h; cases h
      | cons u us ih =>
        intro hu hl
        unfold wipe
        by_cases e : u = j
        · subst e
          by_cases hlt : u < σ.length
          · rw [if_pos hlt, List.getElem?_set_self (by rw [wipe_length, hl]; exact hlt)]
          · rw [if_neg hlt, List.getElem?_eq_none (by rw [List.length_set, wipe_length, hl]; omega)]
        · rw [List.getElem?_set_ne e]
          rcases List.mem_cons.mp hu with z | z
          · exact absurd z.symm e
          · exact ih z hl
    rw [gone σ1 vs hj (by rw [o.1, wipe_length]), gone σ vs hj rfl]
  · rw [wipe_out hj, wipe_out hj]
    have := o.2 j fun z => hj (h j z)
    rw [this, wipe_out hj]
/-- the ground: what is fixed around, with the new list -/
theorem Rel.onD {K : KW} {mg : Str → Option Value} {B : Hp} {m0 : List Addr} {D : Addr} {vs : List V} (R : Rel ⟨K, mg, B, m0⟩ μ c σ H) (hD : H D = none) :
    Rel ⟨K, mg, upd B D (.lst vs), m0⟩ μ c σ (upd H D (.lst vs)) ∧ D ∉ m0 := by
  have f := R.fresh hD
  have R1 := R.same (same_new (o := .lst vs) hD)
  refine ⟨⟨R1.len, R1.vl, fun i s e k => ?_, R1.ap, R1.hl, fun n o e => ?_, R1.nd, R1.pre, fun a h1 h2 => ?_, fun a o h1 h2 => ?_⟩, fun z => f.1 (R.pre.subset z)⟩
  · obtain ⟨a, ho, a1, a2, a3, a4, a5⟩ := R1.ow i s e k
    refine ⟨a, ho, a1, a2, a3, ?_, a5⟩
    obtain ⟨a', ho', b1, b2, _⟩ := R.ow i s e k
    rw [a1] at b1
    cases b1
    show upd B D _ a = none
    rw [upd_ne]
    · exact a4
    · rintro rfl
      rw [hD] at b2
      cases b2
  · obtain ⟨a, ho, a1, a2, a3⟩ := R1.hp n o e
    exact ⟨a, ho, a1, a2, a3.g rfl rfl⟩
  · show upd B D _ a = none
    rw [upd_ne]
    · exact R1.new a h1 h2
    · rintro rfl
      exact f.1 h1
  · have h1 : upd B D _ a = some o := h1
    by_cases ha : a = D
    · subst ha
      rw [upd_same] at h1
      rw [upd_same]
      exact h1
    · rw [upd_ne ha] at h1
      exact R1.fr a o h1 h2
theorem Rel.chD {K : KW} {mg : Str → Option Value} {B : Hp} {m0 : List Addr} {D : Addr} {vs ws : List V} (R : Rel ⟨K, mg, upd B D (.lst vs), m0⟩ μ c σ H) (hm : D ∉ m0) :
    H D = some (.lst vs) ∧ Rel ⟨K, mg, upd B D (.lst ws), m0⟩ μ c σ (upd H D (.lst ws)) ∧ Fz H (upd H D (.lst ws)) := by
  have hD : H D = some (.lst vs) := R.fr D _ (show upd B D (.lst vs) D = _ from upd_same) hm
  have fz : Fz H (upd H D (.lst ws)) := fz_lst hD
  have Dm : D ∉ μ := fun z => by
    have this : upd B D (.lst vs) D = none := R.new D z hm
    rw [upd_same] at this
    cases this
  have ow : ∀ (i : Nat) (s : Sl), c.sl[i]? = some s → s.own = true → ∀ a, σ[i]? = some (some (.ref a)) → a ≠ D := fun i s e k a ha z => by
    obtain ⟨a', ho, a1, a2, a3, a4, a5⟩ := R.ow i s e k
    rw [ha] at a1
    cases a1
    have a4 : upd B D (.lst vs) a = none := a4
    rw [z, upd_same] at a4
    cases a4
  refine ⟨hD, ⟨R.len, fun i x e => ?_, fun i s e k => ?_, R.ap, R.hl, fun n o e => ?_, R.nd, R.pre, fun a h1 h2 => ?_, fun a o h1 h2 => ?_⟩, fz⟩
  · obtain ⟨v, a, b⟩ := R.vl i x e
    exact ⟨v, a, b.mono fz (List.prefix_refl _)⟩
  · obtain ⟨a, ho, a1, a2, a3, a4, a5⟩ := R.ow i s e k
    have ne := ow i s e k a a1
    refine ⟨a, ho, a1, by rw [upd_ne ne]; exact a2, a3.mono fz, ?_, a5⟩
    have a4 : upd B D (.lst vs) a = none := a4
    rw [upd_ne ne] at a4
    show upd B D _ a = none
    rw [upd_ne ne]
    exact a4
  · obtain ⟨a, ho, a1, a2, a3⟩ := R.hp n o e
    refine ⟨a, ho, a1, ?_, (a3.mono fz (List.prefix_refl _)).g rfl rfl⟩
    rw [upd_ne]
    · exact a2
    · rintro rfl
      exact Dm (List.mem_of_getElem? a1)
  · have := R.new a h1 h2
    have h3 : upd B D (.lst vs) a = none := this
    have ne : a ≠ D := fun z => by
      rw [z, upd_same] at h3
      cases h3
    rw [upd_ne ne] at h3
    show upd B D _ a = none
    rw [upd_ne ne]
    exact h3
  · have h1 : upd B D (.lst ws) a = some o := h1
    by_cases ha : a = D
    · subst ha
      rw [upd_same] at h1
      rw [upd_same]
      exact h1
    · rw [upd_ne ha] at h1
      rw [upd_ne ha]
      exact R.fr a o (show upd B D (.lst vs) a = some o by rw [upd_ne ha]; exact h1) h2
/-- without the new list -/
def offD (H : Hp) (D : Addr) : Hp := fun b => if b = D then none else H b
theorem offD_same {H : Hp} {D : Addr} : offD H D D = none := by unfold offD; rw [if_pos rfl]
theorem offD_ne {H : Hp} {D a : Addr} (h : a ≠ D) : offD H D a = H a := by unfold offD; rw [if_neg h]
theorem offD_upd {H : Hp} {D : Addr} {o : HO} (h : H D = some o) : upd (offD H D) D o = H := by
  funext b
  by_cases hb : b = D
  · subst hb
    rw [upd_same, h]
  · rw [upd_ne hb, offD_ne hb]
theorem offD_fz {H : Hp} {D : Addr} {vs : List V} (h : H D = some (.lst vs)) : Fz H (offD H D) := by
  refine ⟨fun a xs e => ?_, fun a o u e => ?_⟩
  · rw [offD_ne]
    · exact e
    · rintro rfl
      rw [h] at e
      cases e
  · rw [offD_ne]
    · exact e
    · rintro rfl
      rw [h] at e
      cases e
theorem Rel.offD {K : KW} {mg : Str → Option Value} {B : Hp} {m0 : List Addr} {D : Addr} {vs : List V} (R : Rel ⟨K, mg, upd B D (.lst vs), m0⟩ μ c σ H) (hm : D ∉ m0) (hB : B D = none) :
    H D = some (.lst vs) ∧ Rel ⟨K, mg, B, m0⟩ μ c σ (offD H D) := by
  have hD : H D = some (.lst vs) := R.fr D _ (show upd B D (.lst vs) D = _ from upd_same) hm
  have fz := offD_fz hD
  have Dm : D ∉ μ := fun z => by
    have this : upd B D (.lst vs) D = none := R.new D z hm
    rw [upd_same] at this
    cases this
  refine ⟨hD, ⟨R.len, fun i x e => ?_, fun i s e k => ?_, R.ap, R.hl, fun n o e => ?_, R.nd, R.pre, fun a h1 h2 => ?_, fun a o h1 h2 => ?_⟩⟩
  · obtain ⟨v, a, b⟩ := R.vl i x e
    exact ⟨v, a, b.mono fz (List.prefix_refl _)⟩
  · obtain ⟨a, ho, a1, a2, a3, a4, a5⟩ := R.ow i s e k
    have a4 : upd B D (.lst vs) a = none := a4
    have ne : a ≠ D := fun z => by
      rw [z, upd_same] at a4
      cases a4
    rw [upd_ne ne] at a4
    exact ⟨a, ho, a1, by rw [offD_ne ne]; exact a2, a3.mono fz, a4, a5⟩
  · obtain ⟨a, ho, a1, a2, a3⟩ := R.hp n o e
    refine ⟨a, ho, a1, ?_, (a3.mono fz (List.prefix_refl _)).g rfl rfl⟩
    rw [offD_ne]
    · exact a2
    · rintro rfl
      exact Dm (List.mem_of_getElem? a1)
  · have h3 : upd B D (.lst vs) a = none := R.new a h1 h2
    have ne : a ≠ D := fun z => by
      rw [z, upd_same] at h3
      cases h3
    rw [upd_ne ne] at h3
    exact h3
  · have ne : a ≠ D := fun z => by
      rw [z] at h1
      have h1 : B D = some o := h1
      rw [hB] at h1
      cases h1
    rw [offD_ne ne]
    exact R.fr a o (show upd B D (.lst vs) a = some o by rw [upd_ne ne]; exact h1) h2
/-- back behind the block -/
theorem Rel.back {vs : List Nat} {c0 : CS} (R : Rel G μ c (wipe σ vs) H) (hl : c0.sl.length = σ.length) (h0 : ∀ (i : Nat) (x : CV), c0.sl[i]? = some (.v x) → ∃ v, σ[i]? = some (some v) ∧ VDen G.K H μ x v) : Rel G μ (restC vs c0 c) σ H := by
  have hL : c.sl.length = σ.length := by rw [R.len, wipe_length]
  have key : ∀ (us : List Nat) (j : Nat), (restS c0.sl c.sl us).length = σ.length ∧ (j ∉ us → (restS c0.sl c.sl us)[j]? = c.sl[j]?) ∧ (j ∈ us → ∀ s, (restS c0.sl c.sl us)[j]? = some s → (∃ x, s = .v x ∧ c0.sl[j]? = some (.v x)) ∨ s = .un) := by
    intro us
    induction us with
    | nil => exact fun j => ⟨hL, fun _ => rfl, fun h => by cases h⟩
    | cons u us ih =>
      intro j
      obtain ⟨i1, i2, i3⟩ := ih j
      refine ⟨by unfold restS; rw [List.length_set]; exact i1, fun h => ?_, fun h s e => ?_⟩
      · rw [List.mem_cons, not_or] at h
        unfold restS
        rw [List.getElem?_set_ne (fun z => h.1 z.symm)]
        exact i2 h.2
      · unfold restS at e
        by_cases hu : u = j
        · subst hu
          have hlt : u < (restS c0.sl c.sl us).length := by
            have := (List.getElem?_eq_some_iff.mp e).1
            rwa [List.length_set] at this
          rw [List.getElem?_set_self hlt] at e
          cases h1 : c0.sl[u]? with
          | none =>
            rw [h1] at e
            cases e
            exact .inr rfl
          | some s0 =>
            rw [h1] at e
            cases s0 with
            | v x =>
              cases e
              exact .inl ⟨x, rfl, rfl⟩
            | un =>
              cases e
              exact .inr rfl
            | ol _ =>
              cases e
              exact .inr rfl
            | od _ =>
              cases e
              exact .inr rfl
        · rw [List.getElem?_set_ne hu] at e
          rcases List.mem_cons.mp h with z | z
          · exact absurd z.symm hu
          · exact i3 z s e
  have k := key vs
  have own_out : ∀ (i : Nat) (s : Sl), (restS c0.sl c.sl vs)[i]? = some s → s.own = true → i ∉ vs ∧ c.sl[i]? = some s ∧ (wipe σ vs)[i]? = σ[i]? := fun i s e o => by
    by_cases hi : i ∈ vs
    · rcases (k i).2.2 hi s e with ⟨x, rfl, _⟩ | rfl <;> cases o
    · exact ⟨hi, by rw [← (k i).2.1 hi]; exact e, wipe_out hi⟩
  refine ⟨(k 0).1, fun i x e => ?_, fun i s e o => ?_, fun i j s t a n e1 o1 e2 o2 => ?_, R.hl, R.hp, R.nd, R.pre, R.new, R.fr⟩
  · have e : (restS c0.sl c.sl vs)[i]? = some (.v x) := e
    by_cases hi : i ∈ vs
    · rcases (k i).2.2 hi _ e with ⟨y, e1, e2⟩ | e1
      · cases e1
        exact h0 i x e2
      · cases e1
    · rw [(k i).2.1 hi] at e
      obtain ⟨v, a, b⟩ := R.vl i x e
      rw [wipe_out hi] at a
      exact ⟨v, a, b⟩
  · obtain ⟨h1, h2, h3⟩ := own_out i s e o
    rw [← h3]
    exact R.ow i s h2 o
  · obtain ⟨h1, h2, h3⟩ := own_out i s e1 o1
    obtain ⟨g1, g2, g3⟩ := own_out j t e2 o2
    rw [← h3, ← g3]
    exact R.ap i j s t a n h2 o1 g2 o2
end
section
variable {X : Cx} {N : Wn} {elt tg iter : Expr} {ifs : List Expr} {scope : Scope} {own : List (Str × Nat)} {pos : Pos} {mi : Mo (List PyData)} {g : Tg} {tt : Mo Bool} {te : Mo CV}
theorem lc_tm {vs : List Nat} (hix : ∀ i, i ∈ g.ix → i ∈ vs) {σ : LSt} {H : Hp} {Q : VK} (h : tF (gh X N) N.W (mLc mi g tt te vs) σ H Q) :
    tLc (tI (gh X N) N.W mi) (tG (kwOf X) X.mg g) (tTx (kwOf X) X.mg tt) (tMx (kwOf X) X.mg te) vs σ H Q := by
  obtain ⟨μ, c, R, p⟩ := h
  refine ⟨μ, c, R, (RunAt.bind p).imp fun xs μ1 c1 H1 a b r q J ok D hD => ?_⟩
  obtain ⟨rD, Dm⟩ := r.onD (vs := []) hD
  have BD : N.B D = none := (r.fresh hD).2
  -- what the whole gives
  obtain ⟨acc, c9, e9, q⟩ : ∃ acc c9, compL g.f tt te vs xs [] c1 = .ok acc c9 ∧ ∀ μ2 H2, μ1 <+: μ2 → Fz H1 H2 → Rel (gh X N) μ2 (restC vs c1 (wipeC vs c9)) σ H2 → ∀ p ws, H2 p = none → DenL (kwOf X) H2 acc ws → Q (.ref p) (upd H2 p (.lst ws)) := by
    unfold RunAt at q
    dsimp only at q
    cases e : compL g.f tt te vs xs [] c1 with
    | ok acc c9 =>
      rw [e] at q
      exact ⟨acc, c9, rfl, q⟩
    | ex _ _ =>
      rw [e] at q
      exact q.elim
    | no =>
      rw [e] at q
      exact q.elim
  refine ⟨fun i m H' => ∃ ys ws μ' c', i + m = xs.length ∧ Rel ⟨(kwOf X), X.mg, upd N.B D (.lst ws), N.m0⟩ μ' (wipeC vs c') (wipe σ vs) H' ∧ μ1 <+: μ' ∧ Fz H1 H' ∧ DenL (kwOf X) H' ys ws ∧ compL g.f tt te vs (xs.drop i) ys c' = .ok acc c9,
    ⟨xs.length, [], [], μ1, c1, by omega, rD.wiped vs, List.prefix_refl _, Fz.same (same_new hD), .nil, e9⟩, ?_⟩
  rintro i m H' ⟨ys, ws, μ', c', em, R', p', f', dl, e'⟩
  by_cases hi : i < xs.length
  · have hd : xs.drop i = xs[i] :: xs.drop (i + 1) := List.drop_eq_getElem_cons hi
    rw [hd] at e'
    refine .inr ⟨ok.go i H' hi f', fun H2 => ∃ ys ws μ' c', Rel ⟨(kwOf X), X.mg, upd N.B D (.lst ws), N.m0⟩ μ' (wipeC vs c') (wipe σ vs) H2 ∧ μ1 <+: μ' ∧ Fz H1 H2 ∧ DenL (kwOf X) H2 ys ws ∧ compL g.f tt te vs (xs.drop (i + 1)) ys c' = .ok acc c9, ?_, fun x H2 y => ?_⟩
    · rintro H2 ⟨ys, ws, μ2, c2, R2, p2, f2, d2, e2⟩
      exact ⟨m - 1, by omega, ys, ws, μ2, c2, by omega, R2, p2, f2, d2, e2⟩
    · obtain ⟨sm, z, hz, dz⟩ := ok.yld i H' x H2 hi f' y
      rw [List.getElem?_eq_getElem hi] at hz
      cases hz
      have R2 := R'.same sm
      have f2 := f'.trans (Fz.same sm)
      have dl2 := DenL.mono (Fz.same sm) _ _ dl
      unfold compL at e'
      cases hg1 : g.f (.d xs[i]) (wipeC vs c') with
      | none =>
        rw [hg1] at e'
        cases e'
      | some c1' =>
        rw [hg1] at e'
        dsimp only at e'
        refine ⟨upd N.B D (.lst ws), N.m0, μ', wipeC vs c', .d xs[i], c1', R2, dz, hg1, fun σ3 o3 R3 => ?_⟩
        have hw := wipe_out' o3 hix
        refine ⟨hw, upd N.B D (.lst ws), N.m0, μ', c1', R3, ?_⟩
        unfold RunAt
        cases ht : tt c1' with
        | ex _ _ =>
          rw [ht] at e'
          cases e'
        | no =>
          rw [ht] at e'
          cases e'
        | ok k c2 =>
          rw [ht] at e'
          intro μ4 H4 a4 b4 R4
          have dl4 := DenL.mono b4 _ _ dl2
          cases k with
          | false =>
            refine iteF ⟨ys, ws, μ4, c2, ?_, p'.trans a4, f2.trans b4, dl4, e'⟩
            exact R4.rewipe hw
          | true =>
            refine iteT ⟨upd N.B D (.lst ws), N.m0, μ4, c2, R4, ?_⟩
            unfold RunAt
            dsimp only at e'
            cases h5 : te c2 with
            | ex _ _ =>
              rw [h5] at e'
              cases e'
            | no =>
              rw [h5] at e'
              cases e'
            | ok y5 c5 =>
              rw [h5] at e'
              intro μ5 H5 a5 b5 R5 v5 d5
              cases y5 with
              | r _ => cases e'
              | o _ => cases e'
              | d y5 =>
                dsimp only at e'
                by_cases hl : ys.length < 16777216
                · rw [if_pos hl] at e'
                  have dl5 := DenL.mono b5 _ _ dl4
                  obtain ⟨hD5, R6, f6⟩ := R5.chD (ws := ws ++ [v5]) Dm
                  refine ⟨ws, hD5, by rw [dl5.length, sizeLine_eq]; exact hl, ys ++ [y5], ws ++ [v5], μ5, c5, R6.rewipe hw, p'.trans (a4.trans a5), (f2.trans (b4.trans b5)).trans f6, ?_, e'⟩
                  exact DenL.append (DenL.mono f6 _ _ dl5) (.cons (Den.mono f6 _ _ d5) .nil)
                · rw [if_neg hl] at e'
                  cases e'
  · have hd : xs.drop i = [] := List.drop_eq_nil_of_le (by omega)
    rw [hd] at e'
    cases e'
    refine .inl ⟨ok.stop i H' (by omega) f', ?_⟩
    obtain ⟨hD', R2⟩ := R'.offD Dm BD
    have f0 : Fz H1 (Cl.offD H' D) := f'.trans (offD_fz hD')
    have R3 : Rel (gh X N) μ' (restC vs c1 (wipeC vs c9)) σ (Cl.offD H' D) := R2.back r.len fun i x e => by
      obtain ⟨v, h1, h2⟩ := r.vl i x e
      exact ⟨v, h1, h2.mono f0 p'⟩
    have fin := q μ' (Cl.offD H' D) p' f0 R3 D ws offD_same (DenL.mono (offD_fz hD') _ _ dl)
    rw [offD_upd hD'] at fin
    exact fin
theorem cf_lc (hc : X.calm = true) (hN : X.N.Nodup) (hi : CI X N tg iter mi) (ok : BlkOk X.N X.env.scope scope own) (hix : ∀ i, i ∈ g.ix → i ∈ own.map (·.2))
    (hg : ∀ (s : Shared) (H : Hp) (C : Addr) (cl : List (Str × Addr)) (fp : List Addr), CG (X.blk s H scope (compEnvC scope cl C X.env) fp) tg g)
    (ht : ∀ (s : Shared) (H : Hp) (C : Addr) (cl : List (Str × Addr)) (fp : List Addr), PTs (X.blk s H scope (compEnvC scope cl C X.env) fp) ifs (tTx (kwOf X) X.mg tt))
    (he : ∀ (s : Shared) (H : Hp) (C : Addr) (cl : List (Str × Addr)) (fp : List Addr), CEx (X.blk s H scope (compEnvC scope cl C X.env) fp) elt te)
    (hs : ∀ x, foldedSetIterable iter X.env x = pure x := by intro _; rfl) : CF X N (.ListComp elt [⟨tg, iter, ifs, 0⟩] scope pos) (mLc mi g tt te (own.map (·.2))) :=
  PE.tm (pe_lc hc hN hi ok hg ht (fun s H C cl fp => cex_pe (he s H C cl fp)) hs) fun σ H Q => lc_tm hix
/-- name = [..] on one line, the name a local -/
theorem cs_lcOwn (i : Nat) {y : Str} {py spos : Pos} (hc : X.calm = true) (hN : X.N.Nodup) (hi : CI X N tg iter mi) (ok : BlkOk X.N X.env.scope scope own) (hix : ∀ i, i ∈ g.ix → i ∈ own.map (·.2))
    (hg : ∀ (s : Shared) (H : Hp) (C : Addr) (cl : List (Str × Addr)) (fp : List Addr), CG (X.blk s H scope (compEnvC scope cl C X.env) fp) tg g)
    (ht : ∀ (s : Shared) (H : Hp) (C : Addr) (cl : List (Str × Addr)) (fp : List Addr), PTs (X.blk s H scope (compEnvC scope cl C X.env) fp) ifs (tTx (kwOf X) X.mg tt))
    (he : ∀ (s : Shared) (H : Hp) (C : Addr) (cl : List (Str × Addr)) (fp : List Addr), CEx (X.blk s H scope (compEnvC scope cl C X.env) fp) elt te)
    (hsw : swapsWith (.ListComp elt [⟨tg, iter, ifs, 0⟩] scope pos) (some (.Name y py)) spos.line X.env = pure true) (hy : X.N[i]? = some y := by rfl) (hyl : X.env.scope.names.lookup y = some .local := by rfl)
    (hs : ∀ x, foldedSetIterable iter X.env x = pure x := by intro _; rfl) : CS1 X N (.Assign [.Name y py] (.ListComp elt [⟨tg, iter, ifs, 0⟩] scope pos) spos) (sOwn i (mLc mi g tt te (own.map (·.2)))) :=
  PS.tm (ps_setLc (i := i) hc hN hy hyl hsw hi ok hg ht (fun s H C cl fp => cex_pe (he s H C cl fp)) hs) fun D σ H h => lc_tm hix (own_tm D σ H h)
end
end Cl

set_option Elab.async false
set_option maxRecDepth 100000
set_option maxHeartbeats 2000000
/-! Built-in functions of one argument. -/
namespace Cl
open PySem PySem.Spec PyProof.Rows L2
section
variable {X : Cx} {N : Wn} {e a b : Expr} {es : List Expr} {pos p : Pos}
/-- what a call of one argument, read on the spot, must allow -/
def Ans (X : Cx) (N : Wn) (r : List V → Hp → VK → Prop) (g : BV → Mo CV) : Prop := ∀ (y : BV) (v : V) (μ : List Addr) (c : CS) (σ : LSt) (H : Hp) (Q : VK), Rel (gh X N) μ c σ H → BDen (kwOf X) H μ y v →
  RunAt (gh X N) N.W (g y) μ c σ H (fun z μ1 _ H1 => ∀ w, VDen (kwOf X) H1 μ1 z w → Q w H1) → r [v] H Q
def AnsF (X : Cx) (N : Wn) (r : List V → Hp → VK → Prop) (g : BV → Mo (List PyData)) : Prop := ∀ (y : BV) (v : V) (μ : List Addr) (c : CS) (σ : LSt) (H : Hp) (Q : VK), Rel (gh X N) μ c σ H → BDen (kwOf X) H μ y v →
  RunAt (gh X N) N.W (g y) μ c σ H (fun xs _ _ H1 => ∀ q vs, H1 q = none → DenL (kwOf X) H1 xs vs → Q (.ref q) (upd H1 q (.lst vs))) → r [v] H Q
theorem call1 {r : List V → Hp → VK → Prop} {g : BV → Mo CV} {m : Mo BV} {call : Expr} (hP : ∀ {t : TA}, PA X [e] t → PE X call (tCB r t)) (hb : CB X N e m) (h : Ans X N r g)
    (hs : starEach [e] X.env = (false, eval e X.env) :: starEach [] X.env := by rfl) : CE X N call (mBind m g) :=
  PE.tm (hP (pa_cons hb pa_nil hs)) fun σ H Q ⟨μ, c, R, p⟩ => ⟨μ, c, R, (RunAt.bind p).imp fun y μ1 c1 H1 a b r1 q v d => h y v μ1 c1 σ H1 Q r1 d q⟩
theorem call1f {r : List V → Hp → VK → Prop} {g : BV → Mo (List PyData)} {m : Mo BV} {call : Expr} (hP : ∀ {t : TA}, PA X [e] t → PE X call (tCB r t)) (hb : CB X N e m) (h : AnsF X N r g)
    (hs : starEach [e] X.env = (false, eval e X.env) :: starEach [] X.env := by rfl) : CF X N call (mBind m g) :=
  PE.tm (hP (pa_cons hb pa_nil hs)) fun σ H Q ⟨μ, c, R, p⟩ => ⟨μ, c, R, (RunAt.bind p).imp fun y μ1 c1 H1 a b r1 q v d => h y v μ1 c1 σ H1 Q r1 d q⟩
/-! ### the items of what is read -/
def asDs : List CV → Option (List PyData)
  | [] => some []
  | .d x :: t => (asDs t).map (x :: ·)
  | _ => none
theorem asDs_den {K : KW} {H : Hp} {μ : List Addr} : ∀ {xs : List CV} {ys : List PyData} {vs : List V}, asDs xs = some ys → VDenL K H μ xs vs → DenL K H ys vs
  | [], ys, _, e, .nil => by
    cases e
    exact .nil
  | .d x :: t, ys, _, e, .cons h r => by
    unfold asDs at e
    cases q : asDs t with
    | none =>
      rw [q] at e
      cases e
    | some zs =>
      rw [q] at e
      cases e
      exact .cons h (asDs_den q r)
  | .r _ :: _, _, _, e, _ => by cases e
  | .o _ :: _, _, _, e, _ => by cases e
/-- a list's -/
def bLst (y : BV) (hp : List CO) : Option (List PyData) := match y with
  | .c (.d (.list xs)) => some xs
  | .l xs => some xs
  | .c (.r n) => match hp[n]? with
    | some (.lst xs) => asDs xs
    | _ => none
  | _ => none
theorem bLst_ok {G : Gh} {y : BV} {μ : List Addr} {c : CS} {σ : LSt} {H : Hp} {w : V} {xs : List PyData} (R : Rel G μ c σ H) (d : BDen G.K H μ y w) (e : bLst y c.hp = some xs) : ∃ l vs, w = .ref l ∧ SqL G.K.K H l vs ∧ DenL G.K H xs vs := by
  cases y with
  | k _ => cases e
  | l ys =>
    cases e
    obtain ⟨l, vs, e1, e2, e3⟩ := d
    exact ⟨l, vs, e1, SqL.of e2, e3⟩
  | c x =>
    cases x with
    | o _ => cases e
    | r n =>
      unfold bLst at e
      dsimp only at e
      cases hn : c.hp[n]? with
      | none =>
        rw [hn] at e
        cases e
      | some ob =>
        rw [hn] at e
        cases ob with
        | dic _ => cases e
        | ins _ _ => cases e
        | lst zs =>
          obtain ⟨l, el, rfl⟩ := d
          obtain ⟨l', ho, e1, e2, vs, rfl, dl⟩ := R.hp n _ hn
          rw [el] at e1
          cases e1
          exact ⟨l, vs, rfl, SqL.of e2, asDs_den e dl⟩
    | d x =>
      cases x with
      | list ys =>
        cases e
        have d : Den G.K H (.list xs) w := d
        simp only [Den] at d
        obtain ⟨l, vs, e1, e2, e3⟩ := d
        exact ⟨l, vs, e1, e2.sq, e3⟩
      | none => cases e
      | bool _ => cases e
      | int _ => cases e
      | str _ => cases e
      | tuple _ => cases e
      | dict _ => cases e
/-- a list's or tuple's -/
def bSeq (y : BV) (hp : List CO) : Option (List PyData) := match y with
  | .c (.d (.tuple xs)) => some xs
  | y => bLst y hp
theorem bSeq_ok {G : Gh} {y : BV} {μ : List Addr} {c : CS} {σ : LSt} {H : Hp} {w : V} {xs : List PyData} (R : Rel G μ c σ H) (d : BDen G.K H μ y w) (e : bSeq y c.hp = some xs) : ∃ l vs, w = .ref l ∧ (SqL G.K.K H l vs ∨ SqT G.K.K H l vs) ∧ DenL G.K H xs vs := by
  have lst : bLst y c.hp = some xs → ∃ l vs, w = .ref l ∧ (SqL G.K.K H l vs ∨ SqT G.K.K H l vs) ∧ DenL G.K H xs vs := fun e => by
    obtain ⟨l, vs, e1, e2, e3⟩ := bLst_ok R d e
    exact ⟨l, vs, e1, .inl e2, e3⟩
  cases y with
  | k _ => exact lst e
  | l _ => exact lst e
  | c x =>
    cases x with
    | o _ => exact lst e
    | r _ => exact lst e
    | d x =>
      cases x with
      | tuple ys =>
        cases e
        have d : Den G.K H (.tuple xs) w := d
        simp only [Den] at d
        obtain ⟨l, vs, e1, e2, e3⟩ := d
        exact ⟨l, vs, e1, .inr e2, e3⟩
      | none => exact lst e
      | bool _ => exact lst e
      | int _ => exact lst e
      | str _ => exact lst e
      | list _ => exact lst e
      | dict _ => exact lst e
/-! ### len -/
def lenB (y : BV) (hp : List CO) : Option Nat := match y with
  | .c (.d (.tuple xs)) => some xs.length
  | .c (.d (.list xs)) => some xs.length
  | .c (.d (.str t)) => if t.length ≤ 16777216 then some t.length else none
  | .l xs => some xs.length
  | .c (.r n) => match hp[n]? with
    | some (.lst xs) => some xs.length
    | _ => none
  | _ => none
def gO {α : Type} (f : BV → List CO → Option α) (g : α → β) (y : BV) : Mo β := fun c => match f y c.hp with
  | some z => .ok (g z) c
  | none => .no
theorem gO_ok {α β : Type} {f : BV → List CO → Option α} {g : α → β} {y : BV} {G : Gh} {W : WX} {μ : List Addr} {c : CS} {σ : LSt} {H : Hp} {P : β → List Addr → CS → Hp → Prop} (p : RunAt G W (gO f g y) μ c σ H P) :
    ∃ z, f y c.hp = some z ∧ ∀ H1, Fz H H1 → Rel G μ c σ H1 → P (g z) μ c H1 := by
  unfold RunAt gO at p
  cases h : f y c.hp with
  | none =>
    rw [h] at p
    exact p.elim
  | some z =>
    rw [h] at p
    exact ⟨z, rfl, fun H1 a b => p μ H1 (List.prefix_refl _) a b⟩
def gLen : BV → Mo CV := gO lenB fun n => .d (.int n)
theorem ans_len : Ans X N (fun xs H Q => ∃ x n, xs = [x] ∧ LenV X.K x H n ∧ Q (.int n) H) gLen := by
  intro y v μ c σ H Q R d p
  obtain ⟨n, e, q⟩ := gO_ok p
  refine ⟨v, n, rfl, ?_, q H (Fz.refl _) R _ (vden_int _)⟩
  have seq : ∀ {l : Addr} {vs : List V}, (SqL X.K H l vs ∨ SqT X.K H l vs) → n = vs.length → LenV X.K (.ref l) H n := fun h e => by
    rcases h with h | h
    · exact .inl ⟨_, h, e⟩
    · exact .inr ⟨_, h, e⟩
  have viaS : ∀ xs, bSeq y c.hp = some xs → n = xs.length → LenV X.K v H n := fun xs h1 h2 => by
    obtain ⟨l, vs, rfl, s, dl⟩ := bSeq_ok R d h1
    exact seq s (by rw [h2, dl.length])
  cases y with
  | k _ => cases e
  | l xs =>
    cases e
    exact viaS xs rfl rfl
  | c x =>
    cases x with
    | o _ => cases e
    | r i =>
      unfold lenB at e
      dsimp only at e
      cases hn : c.hp[i]? with
      | none =>
        rw [hn] at e
        cases e
      | some ob =>
        rw [hn] at e
        cases ob with
        | dic _ => cases e
        | ins _ _ => cases e
        | lst zs =>
          cases e
          obtain ⟨l, el, rfl⟩ := d
          obtain ⟨l', ho, e1, e2, vs, rfl, dl⟩ := R.hp i _ hn
          rw [el] at e1
          cases e1
          exact .inl ⟨vs, SqL.of e2, Paired.length dl⟩
    | d x =>
      cases x with
      | tuple xs =>
        cases e
        exact viaS xs rfl rfl
      | list xs =>
        cases e
        exact viaS xs rfl rfl
      | str t =>
        have d : Den (kwOf X) H (.str t) v := d
        simp only [Den] at d
        subst d
        unfold lenB at e
        dsimp only at e
        by_cases h : t.length ≤ 16777216
        · rw [if_pos h] at e
          cases e
          exact ⟨by rw [sizeLine_eq]; exact h, rfl⟩
        · rw [if_neg h] at e
          cases e
      | none => cases e
      | bool _ => cases e
      | int _ => cases e
      | dict _ => cases e
theorem ce_len {m : Mo BV} (hb : CB X N e m) (hm : X.mg "len" = none) (hg : Gl X "len" := by rfl) (hs : starEach [e] X.env = (false, eval e X.env) :: starEach [] X.env := by rfl) :
    CE X N (.Call (.Name "len" p) [e] [] pos) (mBind m gLen) :=
  call1 (fun ha => pe_callB call_len hg hm boot_len ha (he := hs)) hb ans_len hs
/-! ### all, any -/
def asBs : List PyData → Option (List Bool)
  | [] => some []
  | .bool x :: t => (asBs t).map (x :: ·)
  | _ => none
theorem asBs_den {K : KW} {H : Hp} : ∀ {xs : List PyData} {ys : List Bool} {vs : List V}, asBs xs = some ys → DenL K H xs vs → vs = ys.map V.bl
  | [], ys, vs, e, h => by
    cases e
    simp only [DenL] at h
    subst h
    rfl
  | .bool x :: t, ys, vs, e, h => by
    unfold asBs at e
    simp only [DenL, Den] at h
    obtain ⟨v, r, rfl, rfl, h⟩ := h
    cases q : asBs t with
    | none =>
      rw [q] at e
      cases e
    | some zs =>
      rw [q] at e
      cases e
      rw [asBs_den q h]
      rfl
  | .none :: _, _, _, e, _ => by cases e
  | .int _ :: _, _, _, e, _ => by cases e
  | .str _ :: _, _, _, e, _ => by cases e
  | .list _ :: _, _, _, e, _ => by cases e
  | .tuple _ :: _, _, _, e, _ => by cases e
  | .dict _ :: _, _, _, e, _ => by cases e
def bBs (y : BV) (hp : List CO) : Option (List Bool) := (bLst y hp).bind asBs
def gAll : BV → Mo CV := gO bBs fun bs => .d (.bool (bs.all id))
def gAny : BV → Mo CV := gO bBs fun bs => .d (.bool (bs.any id))
theorem bBs_ok {G : Gh} {y : BV} {μ : List Addr} {c : CS} {σ : LSt} {H : Hp} {w : V} {bs : List Bool} (R : Rel G μ c σ H) (d : BDen G.K H μ y w) (e : bBs y c.hp = some bs) : ∃ l, w = .ref l ∧ SqL G.K.K H l (bs.map V.bl) := by
  unfold bBs at e
  cases h : bLst y c.hp with
  | none =>
    rw [h] at e
    cases e
  | some xs =>
    rw [h] at e
    obtain ⟨l, vs, e1, e2, e3⟩ := bLst_ok R d h
    have := asBs_den e e3
    subst this
    exact ⟨l, e1, e2⟩
theorem ans_all : Ans X N (rAll X.K) gAll := by
  intro y v μ c σ H Q R d p
  obtain ⟨bs, e, q⟩ := gO_ok p
  obtain ⟨l, rfl, s⟩ := bBs_ok R d e
  exact ⟨l, bs, rfl, s, q H (Fz.refl _) R _ (vden_bool _)⟩
theorem ans_any : Ans X N (rAny X.K) gAny := by
  intro y v μ c σ H Q R d p
  obtain ⟨bs, e, q⟩ := gO_ok p
  obtain ⟨l, rfl, s⟩ := bBs_ok R d e
  exact ⟨l, bs, rfl, s, q H (Fz.refl _) R _ (vden_bool _)⟩
theorem ce_all {m : Mo BV} (hc : X.calm = true) (hb : CB X N e m) (hm : X.mg "all" = none) (hg : Gl X "all" := by rfl) (hs : starEach [e] X.env = (false, eval e X.env) :: starEach [] X.env := by rfl) :
    CE X N (.Call (.Name "all" p) [e] [] pos) (mBind m gAll) :=
  call1 (fun ha => pe_callB (cr_all hc) hg hm (by rfl) ha (he := hs)) hb ans_all hs
theorem ce_any {m : Mo BV} (hc : X.calm = true) (hb : CB X N e m) (hm : X.mg "any" = none) (hg : Gl X "any" := by rfl) (hs : starEach [e] X.env = (false, eval e X.env) :: starEach [] X.env := by rfl) :
    CE X N (.Call (.Name "any" p) [e] [] pos) (mBind m gAny) :=
  call1 (fun ha => pe_callB (cr_any hc) hg hm (by rfl) ha (he := hs)) hb ans_any hs
/-! ### sum, abs, int -/
def asIs : List PyData → Option (List Int)
  | [] => some []
  | .int x :: t => (asIs t).map (x :: ·)
  | _ => none
theorem asIs_den {K : KW} {H : Hp} : ∀ {xs : List PyData} {ys : List Int} {vs : List V}, asIs xs = some ys → DenL K H xs vs → vs = ys.map V.int
  | [], ys, vs, e, h => by
    cases e
    simp only [DenL] at h
    subst h
    rfl
  | .int x :: t, ys, vs, e, h => by
    unfold asIs at e
    simp only [DenL, Den] at h
    obtain ⟨v, r, rfl, rfl, h⟩ := h
    cases q : asIs t with
    | none =>
      rw [q] at e
      cases e
    | some zs =>
      rw [q] at e
      cases e
      rw [asIs_den q h]
      rfl
  | .none :: _, _, _, e, _ => by cases e
  | .bool _ :: _, _, _, e, _ => by cases e
  | .str _ :: _, _, _, e, _ => by cases e
  | .list _ :: _, _, _, e, _ => by cases e
  | .tuple _ :: _, _, _, e, _ => by cases e
  | .dict _ :: _, _, _, e, _ => by cases e
def bIs (y : BV) (hp : List CO) : Option (List Int) := (bLst y hp).bind asIs
theorem bIs_ok {G : Gh} {y : BV} {μ : List Addr} {c : CS} {σ : LSt} {H : Hp} {w : V} {bs : List Int} (R : Rel G μ c σ H) (d : BDen G.K H μ y w) (e : bIs y c.hp = some bs) : ∃ l, w = .ref l ∧ SqL G.K.K H l (bs.map V.int) := by
  unfold bIs at e
  cases h : bLst y c.hp with
  | none =>
    rw [h] at e
    cases e
  | some xs =>
    rw [h] at e
    obtain ⟨l, vs, e1, e2, e3⟩ := bLst_ok R d h
    have := asIs_den e e3
    subst this
    exact ⟨l, e1, e2⟩
def gSum : BV → Mo CV := gO bIs fun bs => .d (.int bs.sum)
theorem ans_sum : Ans X N (rSum X.K) gSum := by
  intro y v μ c σ H Q R d p
  obtain ⟨bs, e, q⟩ := gO_ok p
  obtain ⟨l, rfl, s⟩ := bIs_ok R d e
  exact ⟨l, bs, rfl, s, q H (Fz.refl _) R _ (vden_int _)⟩
theorem ce_sum {m : Mo BV} (hc : X.calm = true) (hb : CB X N e m) (hm : X.mg "sum" = none) (hg : Gl X "sum" := by rfl) (hs : starEach [e] X.env = (false, eval e X.env) :: starEach [] X.env := by rfl) :
    CE X N (.Call (.Name "sum" p) [e] [] pos) (mBind m gSum) :=
  call1 (fun ha => pe_callB (cr_sum hc) hg hm (by rfl) ha (he := hs)) hb ans_sum hs
def bInt (y : BV) (_ : List CO) : Option Int := match y with
  | .c (.d (.int i)) => some i
  | _ => none
def bIntB (y : BV) (_ : List CO) : Option Int := match y with
  | .c (.d (.int i)) => some i
  | .c (.d (.bool b)) => some (if b then 1 else 0)
  | _ => none
theorem bInt_ok {K : KW} {H : Hp} {μ : List Addr} {y : BV} {v : V} {i : Int} {hp : List CO} (d : BDen K H μ y v) (e : bInt y hp = some i) : v = .int i := by
  cases y with
  | k _ => cases e
  | l _ => cases e
  | c x =>
    cases x with
    | o _ => cases e
    | r _ => cases e
    | d x =>
      cases x with
      | int j =>
        cases e
        have d : Den K H (.int i) v := d
        simpa only [Den] using d
      | none => cases e
      | bool _ => cases e
      | str _ => cases e
      | list _ => cases e
      | tuple _ => cases e
      | dict _ => cases e
def gAbs : BV → Mo CV := gO bInt fun i => .d (.int (if i < 0 then -i else i))
theorem ans_abs : Ans X N (fun xs H Q => ∃ i, xs = [.int i] ∧ Q (.int (if i < 0 then -i else i)) H) gAbs := by
  intro y v μ c σ H Q R d p
  obtain ⟨i, e, q⟩ := gO_ok p
  cases bInt_ok d e
  exact ⟨i, rfl, q H (Fz.refl _) R _ (vden_int _)⟩
theorem ce_abs {m : Mo BV} (hb : CB X N e m) (hm : X.mg "abs" = none) (hg : Gl X "abs" := by rfl) (hs : starEach [e] X.env = (false, eval e X.env) :: starEach [] X.env := by rfl) :
    CE X N (.Call (.Name "abs" p) [e] [] pos) (mBind m gAbs) :=
  call1 (fun ha => pe_callB call_abs hg hm (by rfl) ha (he := hs)) hb ans_abs hs
def gInt : BV → Mo CV := gO bIntB fun i => .d (.int i)
theorem ans_int : Ans X N (fun xs H Q => (∃ i, xs = [.int i] ∧ Q (.int i) H) ∨ ∃ k, xs = [.bl k] ∧ Q (.int (if k then 1 else 0)) H) gInt := by
  intro y v μ c σ H Q R d p
  obtain ⟨i, e, q⟩ := gO_ok p
  have q := q H (Fz.refl _) R _ (vden_int _)
  cases y with
  | k _ => cases e
  | l _ => cases e
  | c x =>
    cases x with
    | o _ => cases e
    | r _ => cases e
    | d x =>
      cases x with
      | int j =>
        cases e
        have d : Den (kwOf X) H (.int i) v := d
        simp only [Den] at d
        exact .inl ⟨i, by rw [d], q⟩
      | bool k =>
        cases e
        have d : Den (kwOf X) H (.bool k) v := d
        simp only [Den] at d
        exact .inr ⟨k, by rw [d], q⟩
      | none => cases e
      | str _ => cases e
      | list _ => cases e
      | tuple _ => cases e
      | dict _ => cases e
theorem ce_intc {m : Mo BV} (hb : CB X N e m) (hm : X.mg "int" = none) (hg : Gl X "int" := by rfl) (hs : starEach [e] X.env = (false, eval e X.env) :: starEach [] X.env := by rfl) :
    CE X N (.Call (.Name "int" p) [e] [] pos) (mBind m gInt) :=
  call1 (fun ha => pe_callTy call_int1 hg hm (by rfl) ha (he := hs)) hb ans_int hs
/-! ### tuple, list -/
def gTupc : BV → Mo CV := gO bSeq fun xs => .d (.tuple xs)
theorem ans_tup : Ans X N (fun xs H Q => ∃ p ys, xs = [.ref p] ∧ ((SqL X.K H p ys ∧ ∀ l, H l = none → Q (.ref l) (upd H l (.tup ys))) ∨ (SqT X.K H p ys ∧ Q (.ref p) H))) gTupc := by
  intro y v μ c σ H Q R d p
  obtain ⟨xs, e, q⟩ := gO_ok p
  obtain ⟨l, vs, rfl, s, dl⟩ := bSeq_ok R d e
  refine ⟨l, vs, rfl, ?_⟩
  rcases s with s | s
  · refine .inl ⟨s, fun t ht => ?_⟩
    have sm : Same H (upd H t (.tup vs)) := same_new ht
    refine q _ (Fz.same sm) (R.same sm) _ ?_
    show Den (kwOf X) _ (.tuple xs) _
    simp only [Den]
    exact ⟨t, vs, rfl, .inl (.inl upd_same), DenL.mono (Fz.same sm) _ _ dl⟩
  · refine .inr ⟨s, q H (Fz.refl _) R _ ?_⟩
    show Den (kwOf X) _ (.tuple xs) _
    simp only [Den]
    exact ⟨l, vs, rfl, s, dl⟩
theorem ce_tupc {m : Mo BV} (hb : CB X N e m) (hm : X.mg "tuple" = none) (hg : Gl X "tuple" := by rfl) (hs : starEach [e] X.env = (false, eval e X.env) :: starEach [] X.env := by rfl) :
    CE X N (.Call (.Name "tuple" p) [e] [] pos) (mBind m gTupc) :=
  call1 (fun ha => pe_callTy call_tuple_of hg hm (by rfl) ha (he := hs)) hb ans_tup hs
def gLst : BV → Mo (List PyData) := gO bSeq id
theorem ans_lst : AnsF X N (fun xs H Q => ∃ p ys, xs = [.ref p] ∧ (SqL X.K H p ys ∨ SqT X.K H p ys) ∧ ∀ l, H l = none → Q (.ref l) (upd H l (.lst ys))) gLst := by
  intro y v μ c σ H Q R d p
  obtain ⟨xs, e, q⟩ := gO_ok p
  obtain ⟨l, vs, rfl, s, dl⟩ := bSeq_ok R d e
  exact ⟨l, vs, rfl, s, fun t ht => q H (Fz.refl _) R t vs ht dl⟩
theorem cf_lstc {m : Mo BV} (hb : CB X N e m) (hm : X.mg "list" = none) (hg : Gl X "list" := by rfl) (hs : starEach [e] X.env = (false, eval e X.env) :: starEach [] X.env := by rfl) :
    CF X N (.Call (.Name "list" p) [e] [] pos) (mBind m gLst) :=
  call1f (fun ha => pe_callTy call_list_of hg hm (by rfl) ha (he := hs)) hb ans_lst hs
/-! ### repr -/
def bRep (y : BV) (_ : List CO) : Option Str := match y with
  | .c (.d x) => if x.plain = true ∧ x.showable = true ∧ x.depth ≤ 60 ∧ x.shown.length ≤ 16777216 then some x.shown else none
  | .l xs => if PyData.plainAll xs = true ∧ PyData.showableAll xs = true ∧ PyData.depthAll xs ≤ 59 ∧ (PyData.list xs).shown.length ≤ 16777216 then some (PyData.list xs).shown else none
  | _ => none
def gRep : BV → Mo CV := gO bRep fun x => .d (.str x)
mutual
theorem hasDict_plain : ∀ x : PyData, x.plain = true → x.hasDict = false
  | .none, _ => by simp only [PyData.hasDict]
  | .bool _, _ => by simp only [PyData.hasDict]
  | .int _, _ => by simp only [PyData.hasDict]
  | .str _, _ => by simp only [PyData.hasDict]
  | .list xs, h => by
    simp only [PyData.hasDict]
    exact hasDict_plainAll xs (by simpa [PyData.plain] using h)
  | .tuple xs, h => by
    simp only [PyData.hasDict]
    exact hasDict_plainAll xs (by simpa [PyData.plain] using h)
  | .dict _, h => by simp [PyData.plain] at h
theorem hasDict_plainAll : ∀ xs : List PyData, PyData.plainAll xs = true → PyData.hasDictAll xs = false
  | [], _ => by simp only [PyData.hasDictAll]
  | x :: xs, h => by
    have h' : x.plain = true ∧ PyData.plainAll xs = true := by simpa [PyData.plainAll] using h
    simp only [PyData.hasDictAll, hasDict_plain x h'.1, hasDict_plainAll xs h'.2, Bool.or_self]
end
def rRep (K : KW) : List V → Hp → VK → Prop := fun xs H Q => ∃ v x, xs = [v] ∧ x.plain = true ∧ x.showable = true ∧ x.depth ≤ 60 ∧ x.shown.length ≤ 16777216 ∧
  (Den K H x v ∨ ∃ l vs ys, x = .list ys ∧ v = .ref l ∧ SqL K.K H l vs ∧ DenL K H ys vs) ∧ Q (.str x.shown) H
theorem cr_repr (hg : X.A.guards = some []) (hu : X.A.units + 100 < cLine) : CallR X (.builtin "repr") (rRep (kwOf X)) := by
  intro pins s σ H xs us Q I r h
  obtain ⟨v, x, rfl, h1, h2, h3, h4, hd, q⟩ := h
  obtain ⟨u, rfl, rx⟩ := vals1 r
  have hr : ∃ as, Reads s.heap u x as := by
    rcases hd with hd | ⟨l, vs, ys, rfl, rfl, hs, hd⟩
    · exact hd.reads I _ _ _ h1 rx
    · obtain rfl : u = Value.ref l := rx
      obtain ⟨its, rv, ⟨o, n, ho, hc, _, ht⟩, _⟩ := I.list hs
      obtain ⟨as, ra⟩ := DenL.reads I ys vs its (by simpa [PyData.plain] using h1) hd rv
      exact ⟨_, .list ho hc ht (by simpa using ra)⟩
  obtain ⟨as, hr⟩ := hr
  have fin : ∀ (h' : Heap) (u : Tok) (tk : Nat), (∀ b o, s.heap.get? b = some o → h'.get? b = some o) → EP X pins σ Q (.str x.shown u) { s with heap := h', toks := tk } := fun h' u tk k => ⟨.str x.shown, H, I.kept k, ⟨_, rfl⟩, q⟩
  have big : ∀ a, u = .ref a → wpAny (model X.prog X.w) X.A (call (.builtin "repr") [u]) (EP X pins σ Q) X.xe s := fun a e => by
    subst e
    exact repr_of_reads' hr h2 (fun z => by rw [hasDict_plain x h1] at z; cases z) hg (by omega) (fun _ _ z => z) fin (by rw [sizeLine_eq]; exact h4)
  cases x with
  | none =>
    cases hr
    exact PySem.P.repr_of_none (fin s.heap _ _ fun _ _ z => z)
  | bool k =>
    cases hr
    refine PySem.P.repr_of_bool ?_
    have := fin s.heap s.toks (s.toks + 1) fun _ _ z => z
    exact this
  | int i =>
    cases hr
    exact PySem.P.repr_of_int (by simpa [PyData.showable] using h2) (fin s.heap _ _ fun _ _ z => z)
  | str t =>
    cases hr
    exact PySem.P.repr_of_str (fin s.heap _ _ fun _ _ z => z) (by rw [sizeLine_eq]; exact h4)
  | list ys =>
    cases hr with
    | list _ _ _ _ => exact big _ rfl
  | tuple ys =>
    cases hr with
    | tuple _ _ _ _ => exact big _ rfl
  | dict _ => cases h1
theorem ans_rep : Ans X N (rRep (kwOf X)) gRep := by
  intro y v μ c σ H Q R d p
  obtain ⟨t, e, q⟩ := gO_ok p
  have q := q H (Fz.refl _) R _ (vden_str _)
  cases y with
  | k _ => cases e
  | l xs =>
    unfold bRep at e
    dsimp only at e
    by_cases h : PyData.plainAll xs = true ∧ PyData.showableAll xs = true ∧ PyData.depthAll xs ≤ 59 ∧ (PyData.list xs).shown.length ≤ 16777216
    · rw [if_pos h] at e
      cases e
      obtain ⟨l, vs, e1, e2, e3⟩ := d
      exact ⟨v, .list xs, rfl, by simpa [PyData.plain] using h.1, by simpa [PyData.showable] using h.2.1, by have := h.2.2.1; simp only [PyData.depth]; omega, h.2.2.2, .inr ⟨l, vs, xs, rfl, e1, SqL.of e2, e3⟩, q⟩
    · rw [if_neg h] at e
      cases e
  | c x =>
    cases x with
    | o _ => cases e
    | r _ => cases e
    | d x =>
      unfold bRep at e
      dsimp only at e
      by_cases h : x.plain = true ∧ x.showable = true ∧ x.depth ≤ 60 ∧ x.shown.length ≤ 16777216
      · rw [if_pos h] at e
        cases e
        exact ⟨v, x, rfl, h.1, h.2.1, h.2.2.1, h.2.2.2, .inl d, q⟩
      · rw [if_neg h] at e
        cases e
theorem ce_repr {m : Mo BV} (hgd : X.A.guards = some []) (hu : X.A.units + 100 < cLine) (hb : CB X N e m) (hm : X.mg "repr" = none) (hg : Gl X "repr" := by rfl) (hs : starEach [e] X.env = (false, eval e X.env) :: starEach [] X.env := by rfl) :
    CE X N (.Call (.Name "repr" p) [e] [] pos) (mBind m gRep) :=
  call1 (fun ha => pe_callB (cr_repr hgd hu) hg hm (by rfl) ha (he := hs)) hb ans_rep hs
end
end Cl

set_option Elab.async false
set_option maxRecDepth 100000
set_option maxHeartbeats 2000000
/-! sorted(xs) of data. -/
namespace Cl
open PySem PySem.Spec PyProof.Rows L2
def dLe (a b : PyData) : Bool := PySem.W.dataLe false (fun x : PyData => x) a b
def sortD (xs : List PyData) : List PyData := xs.mergeSort dLe
def isTup : PyData → Bool
  | .tuple _ => true
  | _ => false
def isTupC : PyData → Bool
  | .tuple (_ :: _) => true
  | _ => false
def isNone : PyData → Bool
  | .none => true
  | _ => false
/-- all alike, all tuples with an item or no tuples at all or at most one -/
def sortOk (xs : List PyData) : Bool := PyData.plainAll xs && decide (PyData.depthAll xs ≤ 60) && decide (xs.length ≤ 16777216) && (xs.all fun x => xs.all fun y => PySem.W.alike x y) &&
  (xs.all isTupC || (xs.all fun x => !isNone x) && (decide (xs.length ≤ 1) || xs.all fun x => !isTup x))
theorem depth_of_all : ∀ {xs : List PyData} {n : Nat}, PyData.depthAll xs ≤ n → ∀ x ∈ xs, x.depth ≤ n
  | [], _, _, _, h => by cases h
  | x :: xs, n, h, y, hy => by
    simp only [PyData.depthAll] at h
    rcases List.mem_cons.mp hy with rfl | hy
    · omega
    · exact depth_of_all (xs := xs) (by omega) y hy
theorem plain_of_all : ∀ {xs : List PyData}, PyData.plainAll xs = true → ∀ x ∈ xs, x.plain = true
  | [], _, _, h => by cases h
  | x :: xs, h, y, hy => by
    have h' : x.plain = true ∧ PyData.plainAll xs = true := by simpa [PyData.plainAll] using h
    rcases List.mem_cons.mp hy with rfl | hy
    · exact h'.1
    · exact plain_of_all h'.2 y hy
section
variable {prog : Program} {w : World} {A : Around} {s : Shared}
/-- one alone -/
theorem sortsAt_one {vs : List Value} {ds : List PyData} (e : PySem.W.EachIs (fun v d => ∃ as, Reads s.heap v d as) vs ds) (hal : PySem.W.AllAlike ds) (hn : ∀ d ∈ ds, d ≠ .none) (h1 : vs.length ≤ 1) (hu : ∀ d, d ∈ ds → A.units + d.depth < cLine) :
    PySem.W.SortsAt prog w A s (PySem.W.dataKind s.heap ds) vs := by
  refine ⟨fun v hv => ?_, general', ?_, fun h2 => absurd h2 (by omega)⟩
  · obtain ⟨d, hd, as, r⟩ := e.left v hv
    exact ⟨_, PySem.W.dataKind_some hal hd r⟩
  · intro E x y a b Q ha hb hq
    obtain ⟨d, as, hd, ra, rfl⟩ := PySem.W.dataKind_inv ha
    obtain ⟨d', as', hd', rb, rfl⟩ := PySem.W.dataKind_inv hb
    exact PySem.W.oneLt_alike (f := false) (fun z => by cases z) ra rb (hal d hd d' hd') (hn d hd) (Nat.lt_of_le_of_lt (Nat.add_le_add_left (Nat.min_le_left _ _) _) (hu d hd)) hq
end
section
variable {X : Cx} {N : Wn} {e : Expr} {pos p : Pos}
def rSortD (K : KW) : List V → Hp → VK → Prop := fun vs H Q => ∃ (a : Addr) (xs : List PyData) (ws : List V), vs = [V.ref a] ∧ SqL K.K H a ws ∧ DenL K H xs ws ∧ sortOk xs = true ∧
  ∀ (p : Addr) (us : List V), H p = none → DenL K H (sortD xs) us → Q (.ref p) (upd H p (.lst us))
theorem each_den {K : KW} {H : Hp} : ∀ {xs : List PyData} {vs : List V} {us : List Value}, DenL K H xs vs → Vals vs us → PySem.W.EachIs (fun u x => ∃ v, RelV v u ∧ Den K H x v) us xs
  | [], vs, us, h, r => by
    simp only [DenL] at h
    subst h
    cases r
    exact .nil
  | x :: xs, vs, us, h, r => by
    simp only [DenL] at h
    obtain ⟨v, w, rfl, d, t⟩ := h
    cases r with
    | cons r1 r2 => exact .cons ⟨v, r1, d⟩ (each_den t r2)
theorem den_each {K : KW} {H : Hp} : ∀ {us : List Value} {xs : List PyData}, PySem.W.EachIs (fun u x => ∃ v, RelV v u ∧ Den K H x v) us xs → ∃ vs, Vals vs us ∧ DenL K H xs vs
  | _, _, .nil => ⟨[], .nil, .nil⟩
  | _, _, .cons ⟨v, r, d⟩ t => by
    obtain ⟨vs, a, b⟩ := den_each t
    exact ⟨v :: vs, .cons r a, .cons d b⟩
theorem each_reads {pins : List (Addr × Obj)} {σ : LSt} {H : Hp} {s : Shared} (I : Inv X pins σ H s) : ∀ {us : List Value} {xs : List PyData}, PyData.plainAll xs = true → PySem.W.EachIs (fun u x => ∃ v, RelV v u ∧ Den (kwOf X) H x v) us xs → PySem.W.EachIs (fun u x => ∃ as, Reads s.heap u x as) us xs
  | _, _, _, .nil => .nil
  | _, x :: xs, h, .cons ⟨v, r, d⟩ t => by
    have h' : x.plain = true ∧ PyData.plainAll xs = true := by simpa [PyData.plainAll] using h
    exact .cons (d.reads I _ _ _ h'.1 r) (each_reads I h'.2 t)
theorem cr_sortD (hu : X.A.units + 100 < cLine) : CallR X (.builtin "sorted") (rSortD (kwOf X)) := by
  intro pins s σ H vs us Q I r h
  obtain ⟨a, xs, ws, rfl, hs, dl, ok, q⟩ := h
  obtain ⟨its, rv, hl, _⟩ := I.list hs
  rw [Vals.ref1 r]
  unfold sortOk at ok
  simp only [Bool.and_eq_true, decide_eq_true_eq] at ok
  obtain ⟨⟨⟨⟨o1, o2⟩, o3⟩, o4⟩, o5⟩ := ok
  have ec := each_den dl rv
  have er := each_reads I o1 ec
  have hal : PySem.W.AllAlike (xs.map fun x => x) := by
    rw [List.map_id']
    intro d hd d' hd'
    exact List.all_eq_true.mp (List.all_eq_true.mp o4 d hd) d' hd'
  have hlen : its.length ≤ sizeLine := by rw [ec.length, sizeLine_eq]; exact o3
  have fin : ∀ out : List Value, out.length = xs.length → PySem.W.EachIs (fun u x => ∃ v, RelV v u ∧ Den (kwOf X) H x v) out (sortD xs) → EP X pins σ Q (.ref (s.heap.objs.size + 1)) { s with heap := sortedAll s.heap its out.toArray } := fun out h1 h2 => by
    obtain ⟨zs, z1, z2⟩ := den_each h2
    obtain ⟨ep, he'⟩ := PyProof.Rows.sortedAll_at s.heap its out.toArray
    have hlen : zs.length ≤ sizeLine := by rw [z1.length, h1, sizeLine_eq]; exact o3
    exact ⟨.ref _, upd H (s.heap.objs.size + 1) (.lst zs), I.laid (t' := s.toks) (fun _ _ => PyProof.Rows.sortedAll_old) (Nat.le_succ _) ⟨hlen, out, ep, z1, he'⟩, rfl, q _ zs (I.hok.fresh (Nat.le_succ _)) z2⟩
  have hd : ∀ b ∈ xs, X.A.units + 2 + b.depth < cLine := fun b hb => by have := depth_of_all o2 b hb; omega
  have wide : PySem.W.Sortable (xs.map fun x => x) → wpAny (model X.prog X.w) X.A (call (.builtin "sorted") [.ref a]) (EP X pins σ Q) X.xe s := fun hk =>
    PySem.W.sorted_data (enc := fun x => x) hl.isList ec er hal hk (by rw [sizeLine_eq]; exact o3) hd fun out h1 h2 => fin out h1 h2
  rw [Bool.or_eq_true, Bool.and_eq_true, Bool.or_eq_true] at o5
  rcases o5 with o5 | ⟨o6, o5 | o5⟩
  · refine wide (.inl fun d hd => ?_)
    rw [List.map_id'] at hd
    have := List.all_eq_true.mp o5 d hd
    cases d with
    | tuple ys =>
      cases ys with
      | nil => cases this
      | cons y ys => exact ⟨y, ys, rfl⟩
    | none => cases this
    | bool _ => cases this
    | int _ => cases this
    | str _ => cases this
    | list _ => cases this
    | dict _ => cases this
  · have one := of_decide_eq_true o5
    have er' : PySem.W.EachIs (fun v b => ∃ as, Reads (PySem.W.sortingHeap (PySem.W.copyHeap s.heap its) (s.heap.objs.size + 1) its) v b as) its xs := er.mono fun _ _ ⟨as, r⟩ => ⟨as, PyProof.Rows.Reads.keeps (fun _ _ => PySem.W.sorting_copy_old) r⟩
    have hal' : PySem.W.AllAlike xs := by
      rw [List.map_id'] at hal
      exact hal
    refine PySem.W.sorted_vals (κ := PySem.W.dataKind _ xs) hl.isList (sortsAt_one (s := { s with heap := PySem.W.sortingHeap (PySem.W.copyHeap s.heap its) (s.heap.objs.size + 1) its }) er' hal' (fun d hd => ?_) (by rw [ec.length]; exact one) (fun d hd' => ?_)) hlen (fin _ ?_ ?_)
    · have := List.all_eq_true.mp o6 d hd
      rintro rfl
      cases this
    · have := hd d hd'
      show X.A.units + 1 + 1 + d.depth < cLine
      omega
    · rw [PySem.W.sortVals_length false rfl]
      exact ec.length
    · have := PySem.W.sortVals_data (enc := fun x : PyData => x) false ec er' hal
      rw [List.map_id'] at this
      exact this
  · refine wide (.inr fun d hd => ?_)
    rw [List.map_id'] at hd
    have h1 := List.all_eq_true.mp o6 d hd
    have h2 := List.all_eq_true.mp o5 d hd
    refine ⟨?_, fun xs => ?_⟩
    · rintro rfl
      cases h1
    · rintro rfl
      cases h2
def bSort (y : BV) (hp : List CO) : Option (List PyData) := (bLst y hp).bind fun xs => if sortOk xs = true then some (sortD xs) else none
def gSort : BV → Mo (List PyData) := gO bSort id
theorem ans_sort : AnsF X N (rSortD (kwOf X)) gSort := by
  intro y v μ c σ H Q R d p
  obtain ⟨ys, e, q⟩ := gO_ok p
  unfold bSort at e
  cases h : bLst y c.hp with
  | none =>
    rw [h] at e
    cases e
  | some xs =>
    rw [h] at e
    simp only [Option.bind_some] at e
    by_cases ok : sortOk xs = true
    · rw [if_pos ok] at e
      cases e
      obtain ⟨l, ws, rfl, s, dl⟩ := bLst_ok R d h
      exact ⟨l, xs, ws, rfl, s, dl, ok, fun p us hp du => q H (Fz.refl _) R p us hp du⟩
    · rw [if_neg ok] at e
      cases e
theorem cf_sort {m : Mo BV} (hu : X.A.units + 100 < cLine) (hb : CB X N e m) (hm : X.mg "sorted" = none) (hg : Gl X "sorted" := by rfl) (hs : starEach [e] X.env = (false, eval e X.env) :: starEach [] X.env := by rfl) :
    CF X N (.Call (.Name "sorted" p) [e] [] pos) (mBind m gSort) :=
  call1f (fun ha => pe_callB (cr_sortD hu) hg hm (by rfl) ha (he := hs)) hb ans_sort hs
end
end Cl

set_option Elab.async false
set_option maxRecDepth 100000
set_option maxHeartbeats 3000000
/-! set(xs) of ints or texts, whose table may be walked; sorted(set(xs)), len(set(xs)). -/
namespace Cl
open PySem PySem.Spec PyProof.Rows L2
def kO : Value → Key
  | .int k _ => .inl k
  | .str x _ => .inr x
  | _ => .inl 0
abbrev Ent := Int × Value
def keyM (e : Ent) : Key := kO e.2
def GoodM (P : Program) (w : World) (e : Ent) : Prop := ∃ k : Key, keyIs k e.2 = true ∧ e.1 = (mixKind P w).hash k
theorem kO_of {k : Key} {v : Value} (h : keyIs k v = true) : kO v = k := by
  rcases keyIs_shape h with ⟨i, t, rfl, rfl⟩ | ⟨x, t, rfl, rfl⟩ <;> rfl
theorem scan_key {k : Key} {v : Value} (h : keyIs k v = true) : v.scannable = true := by
  rcases keyIs_shape h with ⟨i, t, rfl, rfl⟩ | ⟨x, t, rfl, rfl⟩ <;> rfl
theorem GoodM.is {P : Program} {w : World} {e : Ent} (g : GoodM P w e) : keyIs (keyM e) e.2 = true := by
  obtain ⟨k, h, _⟩ := g
  unfold keyM
  rw [kO_of h]
  exact h
/-- a table that may be walked -/
structure TabF (w : World) (n : Nat) (t : SetTable) : Prop where
  fit : t.fits n = true
  ris : Ris t.place.toList
  led : w.params.followText "set-order" = true ∨ t.led = true
/-- the rows of a set of the keys ks -/
structure RowsM (P : Program) (w : World) (es : Array Ent) (ks : List Key) : Prop where
  good : ∀ e ∈ es.toList, GoodM P w e
  keys : (es.toList.map keyM).Perm ks
  nd : ks.Nodup
theorem RowsM.size {P : Program} {w : World} {es : Array Ent} {ks : List Key} (R : RowsM P w es ks) : es.size = ks.length := by
  have := R.keys.length_eq
  rwa [List.length_map, Array.length_toList] at this
theorem RowsM.perm {P : Program} {w : World} {es fs : Array Ent} {ks : List Key} (R : RowsM P w es ks) (p : fs.toList.Perm es.toList) : RowsM P w fs ks :=
  ⟨fun e h => R.good e (p.mem_iff.mp h), (p.map keyM).trans R.keys, R.nd⟩
theorem RowsM.elems {P : Program} {w : World} {es : Array Ent} {ks : List Key} (R : RowsM P w es ks) : ElemsOf (mixKind P w) es.toList := fun e h => by
  obtain ⟨k, a, b⟩ := R.good e h
  exact ⟨⟨k, a, b⟩, scan_key a⟩
theorem RowsM.cons {P : Program} {w : World} {es fs : Array Ent} {ks : List Key} {k : Key} {v : Value} (R : RowsM P w es ks) (hk : keyIs k v = true) (hn : k ∉ ks) (p : fs.toList.Perm (es.push ((mixKind P w).hash k, v)).toList) : RowsM P w fs (k :: ks) := by
  rw [Array.toList_push] at p
  have p := p.trans (List.perm_append_singleton _ _)
  refine ⟨fun e h => ?_, ?_, List.nodup_cons.mpr ⟨hn, R.nd⟩⟩
  · rcases List.mem_cons.mp (p.mem_iff.mp h) with rfl | h
    · exact ⟨k, hk, rfl⟩
    · exact R.good e h
  · have q := p.map keyM
    rw [List.map_cons] at q
    have e1 : keyM ((mixKind P w).hash k, v) = k := kO_of hk
    rw [e1] at q
    exact q.trans (.cons k R.keys)
theorem RowsM.found {P : Program} {w : World} {es : Array Ent} {ks : List Key} {k : Key} (R : RowsM P w es ks) : k ∈ ks ↔ ∃ e ∈ es.toList, (mixKind P w).is k e.2 = true := by
  rw [← R.keys.mem_iff, List.mem_map]
  constructor
  · rintro ⟨e, h, rfl⟩
    exact ⟨e, h, (R.good e h).is⟩
  · rintro ⟨e, h, q⟩
    exact ⟨e, h, kO_of q⟩
/-- the set of the keys ks at a -/
def SetM (P : Program) (w : World) (h : Heap) (a : Addr) (ks : List Key) : Prop :=
  ∃ o es ep t, h.get? a = some o ∧ o.ExactSet ∧ o.data = .set es ep t ∧ RowsM P w es ks ∧ es.size < scanBound ∧ TabF w es.size t
theorem SetM.at {P : Program} {w : World} {h h' : Heap} {a : Addr} {ks : List Key} (R : SetM P w h a ks) (k : ∀ o, h.get? a = some o → h'.get? a = some o) : SetM P w h' a ks := by
  obtain ⟨o, es, ep, t, ho, r⟩ := R
  exact ⟨o, es, ep, t, k o ho, r⟩
/-- with k -/
def insK (k : Key) (ks : List Key) : List Key := if ks.any (fun j => decide (j = k)) then ks else k :: ks
theorem insK_yes {k : Key} {ks : List Key} (h : k ∈ ks) : insK k ks = ks := by
  unfold insK
  rw [if_pos (List.any_eq_true.mpr ⟨k, h, by simp⟩)]
theorem insK_no {k : Key} {ks : List Key} (h : k ∉ ks) : insK k ks = k :: ks := by
  unfold insK
  rw [if_neg fun q => by
    obtain ⟨j, hj, e⟩ := List.any_eq_true.mp q
    exact h (of_decide_eq_true e ▸ hj)]
theorem insK_len {k : Key} {ks : List Key} : (insK k ks).length ≤ ks.length + 1 := by
  unfold insK
  split
  · exact Nat.le_succ _
  · exact Nat.le_refl _
section
variable {P : Program} {w : World} {A : Around} {E : Value → Shared → Prop} {s : Shared} {a : Addr} {ks : List Key}
/-- the end of an add: the rows are stored, the table is laid anew where it is too full -/
theorem setM_store {note : Bool → Sem Unit} (hn : ∀ (b : Bool) (z : Shared) (Q : Unit → Shared → Prop), Q () z → wpAny (model P w) A (note b) Q E z) {o : Obj} {es fs : Array Ent} {ep : Nat} {t u : SetTable} {ls : List Key} (ho : s.heap.get? a = some o) (hx : o.ExactSet)
    (hd : o.data = .set es ep t) (rw' : RowsM P w fs ls) (hb : fs.size < scanBound) (tf : TabF w fs.size u) {wasDummy : Bool} {R : Option Bool → Shared → Prop} (hR : ∀ h', Heap.SameBut a s.heap h' → SetM P w h' a ls → R (some true) { s with heap := h' }) :
    wpAny (model P w) A (do
        storeSet a fs u
        if (!wasDummy && u.tooFull) = true then do
            note (relayAll u fs (SetTable.grown fs.size)).2.2
            storeSet a (relayAll u fs (SetTable.grown fs.size)).1 (relayAll u fs (SetTable.grown fs.size)).2.1
            pure (some true)
          else pure (some true)) R E s := by
  have o1 := store_at (es' := fs) (t' := u) ho hd
  have b1 := Heap.SameBut.update s.heap a (Obj.putSet fs u)
  refine wpAny_bind (wpAny_storeSet_of ho hd ?_ (fits_of_scanBound hb))
  by_cases full : (!wasDummy && u.tooFull) = true
  · rw [if_pos full]
    have q1 := relayAll_perm u fs (SetTable.grown fs.size)
    have q2 : TabF w (relayAll u fs (SetTable.grown fs.size)).1.size (relayAll u fs (SetTable.grown fs.size)).2.1 :=
      ⟨relayAll_fits u fs (SetTable.grown fs.size), relayAll_ris u fs (SetTable.grown fs.size), tf.led.imp id fun z => by rw [relayAll_led]; exact z⟩
    revert q1 q2
    generalize relayAll u fs (SetTable.grown fs.size) = Z
    obtain ⟨gs, u2, gave⟩ := Z
    intro q1 q2
    have rg := rw'.perm q1
    have hb2 : gs.size < scanBound := by rw [rg.size, ← rw'.size]; exact hb
    refine wpAny_bind (hn _ _ _ (wpAny_bind (wpAny_storeSet_of o1 rfl (wpAny_pure (hR _ (b1.trans (Heap.SameBut.update _ a _)) ?_)) (fits_of_scanBound hb2))))
    exact ⟨_, gs, _, u2, store_at (es' := gs) (t' := u2) o1 rfl, hx, rfl, rg, hb2, q2⟩
  · rw [if_neg full]
    exact wpAny_pure (hR _ b1 ⟨_, fs, _, u, o1, hx, rfl, rw', hb, tf⟩)
theorem setM_add {k : Key} {v : Value} {Q : Bool → Shared → Prop} (hk : keyIs k v = true) (R : SetM P w s.heap a ks) (room : ks.length + 1 < scanBound)
    (hQ : ∀ b h', Heap.SameBut a s.heap h' → SetM P w h' a (insK k ks) → Q b { s with heap := h' }) : wpAny (model P w) A (setAddHashed a v ((mixKind P w).hash k)) Q E s := by
  obtain ⟨o, es, ep, t, ho, hx, hd, rs, hb, tf⟩ := R
  have sc := scan_key hk
  unfold setAddHashed setAddHashedIn
  refine wpAny_holding (wpAny_bind (wpAny_setState_of ho hd tf.fit ?_))
  dsimp only
  rw [byScan_of sc hb rs.elems, if_pos rfl]
  unfold setAddByScan
  refine wpAny_bind (wpAny_bind (wpAny_rule (wpAny_bind (wpAny_setScan_of (knd := mixKind P w) (k := k) (x := v) hk ho hd tf.fit rs.elems ?_))))
  by_cases hm : k ∈ ks
  · obtain ⟨e, he, q⟩ := rs.found.mp hm
    cases hf : List.findIdx? (fun e => (mixKind P w).is k e.2) es.toList with
    | none => exact absurd q (by simpa using List.findIdx?_eq_none_iff.mp hf e he)
    | some j =>
      refine wpAny_pure (wpAny_pure (hQ _ s.heap (Heap.SameBut.refl a s.heap) ?_))
      rw [insK_yes hm]
      exact ⟨o, es, ep, t, ho, hx, hd, rs, hb, tf⟩
  · have hf : List.findIdx? (fun e => (mixKind P w).is k e.2) es.toList = none := List.findIdx?_eq_none_iff.mpr fun e he => by
      cases q : (mixKind P w).is k e.2 with
      | false => rfl
      | true => exact absurd (rs.found.mpr ⟨e, he, q⟩) hm
    rw [hf]
    dsimp only
    have nt : ∀ (b : Bool) (z : Shared) (Q' : Unit → Shared → Prop), Q' () z → wpAny (model P w) A (match b with | true => rule "set.scan.the-table-gave-way" | false => pure ()) Q' E z := fun b z Q' q => by
      cases b
      · exact wpAny_pure q
      · exact wpAny_rule q
    have q1 := layNew_perm t es ((mixKind P w).hash k) v
    have q2 := layNew_fits t es ((mixKind P w).hash k) v
    have q3 := layNew_ris t es ((mixKind P w).hash k) v tf.ris
    have q4 := layNew_led t es ((mixKind P w).hash k) v
    revert q1 q2 q3 q4
    generalize layNew t es ((mixKind P w).hash k) v = Z
    obtain ⟨fs, u, wasDummy, gave⟩ := Z
    intro q1 q2 q3 q4
    have rf := rs.cons hk hm q1
    have hb1 : fs.size < scanBound := by
      rw [rf.size]
      exact room
    have tu : TabF w fs.size u := ⟨q2, q3, tf.led.imp id fun z => by rw [q4]; exact z⟩
    have fin : ∀ h', Heap.SameBut a s.heap h' → SetM P w h' a (k :: ks) → Q true { s with heap := h' } := fun h' b r => hQ _ h' b (by rw [insK_no hm]; exact r)
    refine wpAny_bind (nt _ _ _ ?_)
    split
    · refine wpAny_bind ?_
      rw [hashByValue_scannable 8 sc]
      refine wpAny_pure (setM_store (fun b z Q' q => ?_) ho hx hd rf hb1 ?_ fun h' b r => ?_)
      · cases b
        · exact wpAny_pure q
        · exact wpAny_rule q
      · first
          | exact tu
          | (split
             · first | exact tu | exact ⟨SetTable.fits_plain_off q2, q3, tu.led⟩
             · first | exact tu | exact ⟨SetTable.fits_plain_off q2, q3, tu.led⟩)
      · exact wpAny_pure (fin h' b r)
    · refine wpAny_bind (wpAny_pure ?_)
      simp only [↓reduceIte]
      refine setM_store (fun b z Q' q => ?_) ho hx hd rf hb1 tu fun h' b r => wpAny_pure (fin h' b r)
      cases b
      · exact wpAny_pure q
      · exact wpAny_rule q
end
end Cl

set_option Elab.async false
set_option maxRecDepth 100000
set_option maxHeartbeats 4000000
/-! set(xs), called. -/
namespace Cl
open PySem PySem.Spec PyProof.Rows L2
inductive KeysAre : List Value → List Key → Prop
  | nil : KeysAre [] []
  | cons {v : Value} {k : Key} {vs : List Value} {ks : List Key} (h : keyIs k v = true) (t : KeysAre vs ks) : KeysAre (v :: vs) (k :: ks)
theorem KeysAre.length : ∀ {vs : List Value} {ks : List Key}, KeysAre vs ks → vs.length = ks.length
  | _, _, .nil => rfl
  | _, _, .cons _ t => by rw [List.length_cons, List.length_cons, t.length]
theorem KeysAre.at : ∀ {vs : List Value} {ks : List Key}, KeysAre vs ks → ∀ (i : Nat) (v : Value), vs[i]? = some v → ∃ k, ks[i]? = some k ∧ keyIs k v = true
  | _, _, .nil, i, v, h => by simp at h
  | _, _, .cons h t, 0, v, e => by
    simp at e
    subst e
    exact ⟨_, rfl, h⟩
  | _, _, .cons h t, i + 1, v, e => t.at i v (by simpa using e)
/-- the keys of set(xs), the last met first -/
def setK (ks : List Key) : List Key := ks.foldl (fun acc k => insK k acc) []
theorem setK_snoc (ks : List Key) (k : Key) : setK (ks ++ [k]) = insK k (setK ks) := by
  unfold setK
  rw [List.foldl_append]
  rfl
theorem foldK_len : ∀ (ks acc : List Key), (ks.foldl (fun acc k => insK k acc) acc).length ≤ acc.length + ks.length
  | [], acc => Nat.le_refl _
  | k :: ks, acc => by
    have h1 := foldK_len ks (insK k acc)
    have h2 : (insK k acc).length ≤ acc.length + 1 := insK_len
    simp only [List.foldl_cons, List.length_cons]
    omega
theorem setK_len (ks : List Key) : (setK ks).length ≤ ks.length := by
  have := foldK_len ks []
  rw [List.length_nil, Nat.zero_add] at this
  exact this
/-- an empty set -/
abbrev set0 (w : World) : Obj := { cls := .type "set", dict := none, data := .set #[] 0 (.fresh 0 0 (!w.params.followText "set-order")) }
theorem setM_nil {P : Program} {w : World} {h : Heap} {a : Addr} (ho : h.get? a = some (set0 w)) : SetM P w h a [] := by
  refine ⟨_, #[], 0, _, ho, ⟨rfl, rfl, rfl⟩, rfl, ⟨fun e h => by simp at h, by simp, List.nodup_nil⟩, by decide, by rfl, List.Pairwise.nil, ?_⟩
  cases h : w.params.followText "set-order"
  · exact .inr rfl
  · exact .inl rfl
section
variable {P : Program} {w : World} {A : Around} {E : Value → Shared → Prop} {s : Shared}
theorem setM_loop {I S : Addr} {fp wr : List Addr} {G : Array GenState → Array GenState → Prop} {n : Nat} {Pv : Nat → Value → Prop} {St : Nat → Shared → Prop} {R : Result → Shared → Prop} (W : WalksS P w A.in1 I fp wr G n Pv St) (out : S ∉ fp)
    {ks : List Key} (hn : n = ks.length) (room : ks.length + 1 < scanBound) (val : ∀ i v, Pv i v → ∃ k, ks[i]? = some k ∧ keyIs k v = true) : ∀ (d i : Nat) (z : Shared), n - i = d → i ≤ n → St i z → SetM P w z.heap S (setK (ks.take i)) →
      (∀ z', Moved (S :: wr) G z z' → SetM P w z'.heap S (setK ks) → R (.ok (.ret .none)) z') → codeAny (model P w) A (.builtin "set.update.loop" ⟨[.ref S, .ref I], []⟩) R z := by
  have outw : S ∉ wr := fun h => out (W.sub _ h)
  have more : ∀ b ∈ wr, b ∈ S :: wr := fun b h => .tail _ h
  intro d
  induction d with
  | zero =>
    intro i z hd hi st R0 fin
    obtain rfl : i = n := by omega
    rw [List.take_of_length_le (Nat.le_of_eq hn.symm)] at R0
    refine codeAny_builtin F.entry_set_update_loop ?_
    rw [Around.under_plainId F.plain_set_update_loop _]
    show wpAny _ A.in1 (pyNext (.ref I) >>= _) _ _ z
    exact wpAny_bind (W.done z _ _ st fun z' m => (wpAny_pure (fin z' (m.mono more) (R0.at fun o e => m.heap S o outw e)) : wpAny _ A.in1 (ret Value.none) _ _ z'))
  | succ d ih =>
    intro i z hd hi st R0 fin
    have lt : i < n := by omega
    refine codeAny_builtin F.entry_set_update_loop ?_
    rw [Around.under_plainId F.plain_set_update_loop _]
    show wpAny _ A.in1 (pyNext (.ref I) >>= _) _ _ z
    refine wpAny_bind (W.item i z _ _ lt st fun v z1 pv st1 m => ?_)
    obtain ⟨k, ek, hv⟩ := val i v pv
    have R1 : SetM P w z1.heap S (setK (ks.take i)) := R0.at fun o e => m.heap S o outw e
    have small : (setK (ks.take i)).length + 1 < scanBound := by
      have h1 := setK_len (ks.take i)
      rw [List.length_take] at h1
      omega
    have nxt : ks.take (i + 1) = ks.take i ++ [k] := by rw [List.take_add_one, ek]; rfl
    show wpAny _ A.in1 (holding [v] (setAdd S v) >>= _) _ _ z1
    refine wpAny_bind (wpAny_holding ?_)
    unfold setAdd
    refine wpAny_holding (wpAny_bind ((mixKind P w).pyHash (k := k) hv (setM_add (s := { z1 with toks := z1.toks + 1 }) hv R1 small fun _ h' sb R2 => ?_)))
    rw [← setK_snoc, ← nxt] at R2
    have same : ∀ b, b ≠ S → h'.get? b = z1.heap.get? b := fun b hb => sb.2 b hb
    refine wpAny_pure ⟨plainId_quiet F.plain_set_update_loop _, ih (i + 1) _ (by omega) lt (W.frame _ z1 _ _ st1 (Nat.le_succ _) fun b hb o e => (same b fun q => out (q ▸ hb)).trans e) R2 fun z2 m2 R3 => ?_⟩
    exact fin z2 (Moved.trans W.gtrans ((m.mono more).then_heap (Nat.le_succ _) fun b o hb e => (same b fun q => hb (q ▸ .head _)).trans e) m2) R3

theorem call_setM_list {l : Addr} {items : Array Value} {ks : List Key} {Q : Value → Shared → Prop} (hh : A.handled = none) (hl : s.heap.IsList l items) (hk : KeysAre items.toList ks) (room : ks.length + 1 < scanBound)
    (h : ∀ (h' : Heap) (tk : Nat), SetM P w h' s.heap.objs.size (setK ks) → (∀ b o, s.heap.get? b = some o → h'.get? b = some o) → Q (.ref s.heap.objs.size) { s with heap := h', toks := tk }) :
    wpAny (model P w) A (call (.type "set") [.ref l]) Q E s := by
  have hn : items.size = ks.length := by rw [← hk.length, Array.length_toList]
  obtain ⟨c, tl, hmro⟩ := F.called_set.mro
  have f1 := F.called_set.made
  have f2 := F.called_set.sub
  have f3 := F.called_set.notType
  have f4 := F.called_set.canCreate
  have f5 := F.typeCall_set_1 (.ref l)
  refine wpAny_call (codeAny_of_tree ?_)
  show wpAny _ _ (callAny (.type "set") _) _ _ _
  refine wpAny_pure ⟨Code.quiet_builtin _ (by decide +kernel), codeAny_builtin F.entry_type_call ?_⟩
  rw [Around.under_plain (weight_type_call_type "set" [.ref l] []) rfl]
  repeat (any_goals (first | assumption | wp_step))
  let h0 : Heap := s.heap.push (set0 w)
  refine codeAny_mono (code_set_led1 (.ref l) (E := E) (Q₁ := fun obj z => obj = .ref s.heap.objs.size ∧ z = { s with heap := s.heap.push (set0 w) }) ⟨rfl, rfl⟩) fun r z hr => ?_
  match r, hr with
  | .error e, hr => exact hr
  | .ok .next, hr => exact hr.elim
  | .ok .brk, hr => exact hr.elim
  | .ok .cont, hr => exact hr.elim
  | .ok (.ret obj), hr =>
    obtain ⟨rfl, rfl⟩ := hr
    have g0 : (s.heap.push (set0 w)).get? s.heap.objs.size = some (set0 w) := Heap.get?_push_size _ rfl
    have ty : Shared.TypeIs { s with heap := s.heap.push (set0 w) } (.ref s.heap.objs.size) "set" := ⟨_, g0, rfl⟩
    have f6 := F.called_set.init.lookup
    have f7 := F.called_set.init.bind (.ref s.heap.objs.size)
    repeat (any_goals (first | assumption | wp_step))
    refine codeAny_mono (codeAny_call_builtin (R := wants (fun r z => r = .none ∧ ∃ h' tk, z = { s with heap := h', toks := tk } ∧ SetM P w h' s.heap.objs.size (setK ks) ∧ ∀ b o, s.heap.get? b = some o → h'.get? b = some o) E) F.called_set.init.plain F.entry_set_init (check_set_init_1 ty ?_)) fun r2 z2 h2 => ?_
    · obtain ⟨⟨cls, dd, dat, sl⟩, ho, hc, nl, hdt⟩ := hl
      dsimp only at hc hdt
      subst hc hdt
      have lt : l < s.heap.objs.size := Heap.lt_size ho
      have g1 : (s.heap.push (set0 w)).get? l = some { cls := .type "list", dict := dd, data := .seq items nl, slots := sl } := Heap.get?_push_of_some _ ho
      have j1 := F.sub_list_set
      have j2 := F.sub_list_frozenset
      have j3 : (Value.type "list" == Value.type "dict") = false := by decide
      have src : (s.heap.push (set0 w)).IsList l items := ⟨_, g1, rfl, nl, rfl⟩
      unfold Builtin.«set.__init__» noKeywords Builtin.Frozenset.updateFrom
      generalize hPI : pyIter = PI
      wp_walk
      subst hPI
      refine wpAny_pyIter_list src (wpAny_bind (wpAny_runValue ?_))
      have z1 : (s.heap.push (set0 w)).objs.size = s.heap.objs.size + 1 := Heap.size_push ..
      have ne : l ≠ (s.heap.push (set0 w)).objs.size := by rw [z1]; exact Nat.ne_of_lt (Nat.lt_succ_of_lt lt)
      have val : ∀ (i : Nat) (v : Value), items[i]? = some v → ∃ k, ks[i]? = some k ∧ keyIs k v = true := fun i v e => hk.at i v (by rw [Array.getElem?_toList]; exact e)
      refine setM_loop ((Walks.list (show A.in1.in1.in1.handled = none from hh) _ l ne items).toS) ?_ hn room val (items.size - 0) 0 _ rfl (Nat.zero_le _) ⟨⟨_, Heap.get?_push_size _ rfl, rfl, rfl⟩, src.push _⟩ (setM_nil (Heap.get?_push_of_some _ g0)) fun z3 m R3 => ?_
      · intro q
        rcases List.mem_cons.mp q with q | q
        · rw [z1] at q
          exact absurd q (Nat.ne_of_lt (Nat.lt_succ_self _))
        · exact absurd (List.mem_singleton.mp q) (Nat.ne_of_gt lt)
      · obtain ⟨h', g', d', t', o'⟩ := z3
        have eg : g' = s.gens := m.gens
        have ed : d' = s.drawn := m.drawn
        have eo : o' = s.os := m.os
        subst eg ed eo
        show wpAny _ _ _ _ _ _
        refine wpAny_pure ?_
        show wpAny _ _ (ret Value.none) _ _ _
        refine wpAny_pure ⟨rfl, h', t', rfl, R3, fun b o e => m.heap b o (fun q => ?_) (Heap.get?_push_of_some _ (Heap.get?_push_of_some _ e))⟩
        have lb := Heap.lt_size e
        rcases List.mem_cons.mp q with q | q
        · exact absurd q (Nat.ne_of_lt lb)
        · have q := List.mem_singleton.mp q
          rw [z1] at q
          exact absurd q (Nat.ne_of_lt (Nat.lt_succ_of_lt lb))
    · match r2, h2 with
      | .error e, h2 => exact h2
      | .ok .next, h2 => exact h2.elim
      | .ok .brk, h2 => exact h2.elim
      | .ok .cont, h2 => exact h2.elim
      | .ok (.ret r), h2 =>
        obtain ⟨rfl, h', tk, rfl, R2, kp⟩ := h2
        repeat (any_goals (first | assumption | wp_step))
        exact h _ _ R2 kp

theorem call_setM_tuple {l : Addr} {items : Array Value} {ks : List Key} {Q : Value → Shared → Prop} (hh : A.handled = none) (hl : s.heap.IsTuple l items) (hk : KeysAre items.toList ks) (room : ks.length + 1 < scanBound)
    (h : ∀ (h' : Heap) (tk : Nat), SetM P w h' s.heap.objs.size (setK ks) → (∀ b o, s.heap.get? b = some o → h'.get? b = some o) → Q (.ref s.heap.objs.size) { s with heap := h', toks := tk }) :
    wpAny (model P w) A (call (.type "set") [.ref l]) Q E s := by
  have hn : items.size = ks.length := by rw [← hk.length, Array.length_toList]
  obtain ⟨c, tl, hmro⟩ := F.called_set.mro
  have f1 := F.called_set.made
  have f2 := F.called_set.sub
  have f3 := F.called_set.notType
  have f4 := F.called_set.canCreate
  have f5 := F.typeCall_set_1 (.ref l)
  refine wpAny_call (codeAny_of_tree ?_)
  show wpAny _ _ (callAny (.type "set") _) _ _ _
  refine wpAny_pure ⟨Code.quiet_builtin _ (by decide +kernel), codeAny_builtin F.entry_type_call ?_⟩
  rw [Around.under_plain (weight_type_call_type "set" [.ref l] []) rfl]
  repeat (any_goals (first | assumption | wp_step))
  let h0 : Heap := s.heap.push (set0 w)
  refine codeAny_mono (code_set_led1 (.ref l) (E := E) (Q₁ := fun obj z => obj = .ref s.heap.objs.size ∧ z = { s with heap := s.heap.push (set0 w) }) ⟨rfl, rfl⟩) fun r z hr => ?_
  match r, hr with
  | .error e, hr => exact hr
  | .ok .next, hr => exact hr.elim
  | .ok .brk, hr => exact hr.elim
  | .ok .cont, hr => exact hr.elim
  | .ok (.ret obj), hr =>
    obtain ⟨rfl, rfl⟩ := hr
    have g0 : (s.heap.push (set0 w)).get? s.heap.objs.size = some (set0 w) := Heap.get?_push_size _ rfl
    have ty : Shared.TypeIs { s with heap := s.heap.push (set0 w) } (.ref s.heap.objs.size) "set" := ⟨_, g0, rfl⟩
    have f6 := F.called_set.init.lookup
    have f7 := F.called_set.init.bind (.ref s.heap.objs.size)
    repeat (any_goals (first | assumption | wp_step))
    refine codeAny_mono (codeAny_call_builtin (R := wants (fun r z => r = .none ∧ ∃ h' tk, z = { s with heap := h', toks := tk } ∧ SetM P w h' s.heap.objs.size (setK ks) ∧ ∀ b o, s.heap.get? b = some o → h'.get? b = some o) E) F.called_set.init.plain F.entry_set_init (check_set_init_1 ty ?_)) fun r2 z2 h2 => ?_
    · obtain ⟨⟨cls, dd, dat, sl⟩, ho, hc, nl, hdt⟩ := hl
      dsimp only at hc hdt
      subst hc hdt
      have lt : l < s.heap.objs.size := Heap.lt_size ho
      have g1 : (s.heap.push (set0 w)).get? l = some { cls := .type "tuple", dict := dd, data := .seq items nl, slots := sl } := Heap.get?_push_of_some _ ho
      have j1 := F.sub_tuple_set
      have j2 := F.sub_tuple_frozenset
      have j3 : (Value.type "tuple" == Value.type "dict") = false := by decide
      have src : (s.heap.push (set0 w)).IsTuple l items := ⟨_, g1, rfl, nl, rfl⟩
      unfold Builtin.«set.__init__» noKeywords Builtin.Frozenset.updateFrom
      generalize hPI : pyIter = PI
      wp_walk
      subst hPI
      refine wpAny_pyIter_tuple src (wpAny_bind (wpAny_runValue ?_))
      have z1 : (s.heap.push (set0 w)).objs.size = s.heap.objs.size + 1 := Heap.size_push ..
      have ne : l ≠ (s.heap.push (set0 w)).objs.size := by rw [z1]; exact Nat.ne_of_lt (Nat.lt_succ_of_lt lt)
      have val : ∀ (i : Nat) (v : Value), items[i]? = some v → ∃ k, ks[i]? = some k ∧ keyIs k v = true := fun i v e => hk.at i v (by rw [Array.getElem?_toList]; exact e)
      refine setM_loop ((Walks.tuple (show A.in1.in1.in1.handled = none from hh) _ l ne items).toS) ?_ hn room val (items.size - 0) 0 _ rfl (Nat.zero_le _) ⟨⟨_, Heap.get?_push_size _ rfl, rfl, rfl⟩, src.push _⟩ (setM_nil (Heap.get?_push_of_some _ g0)) fun z3 m R3 => ?_
      · intro q
        rcases List.mem_cons.mp q with q | q
        · rw [z1] at q
          exact absurd q (Nat.ne_of_lt (Nat.lt_succ_self _))
        · exact absurd (List.mem_singleton.mp q) (Nat.ne_of_gt lt)
      · obtain ⟨h', g', d', t', o'⟩ := z3
        have eg : g' = s.gens := m.gens
        have ed : d' = s.drawn := m.drawn
        have eo : o' = s.os := m.os
        subst eg ed eo
        show wpAny _ _ _ _ _ _
        refine wpAny_pure ?_
        show wpAny _ _ (ret Value.none) _ _ _
        refine wpAny_pure ⟨rfl, h', t', rfl, R3, fun b o e => m.heap b o (fun q => ?_) (Heap.get?_push_of_some _ (Heap.get?_push_of_some _ e))⟩
        have lb := Heap.lt_size e
        rcases List.mem_cons.mp q with q | q
        · exact absurd q (Nat.ne_of_lt lb)
        · have q := List.mem_singleton.mp q
          rw [z1] at q
          exact absurd q (Nat.ne_of_lt (Nat.lt_succ_of_lt lb))
    · match r2, h2 with
      | .error e, h2 => exact h2
      | .ok .next, h2 => exact h2.elim
      | .ok .brk, h2 => exact h2.elim
      | .ok .cont, h2 => exact h2.elim
      | .ok (.ret r), h2 =>
        obtain ⟨rfl, h', tk, rfl, R2, kp⟩ := h2
        repeat (any_goals (first | assumption | wp_step))
        exact h _ _ R2 kp
end
end Cl

set_option Elab.async false
set_option maxRecDepth 100000
set_option maxHeartbeats 2000000
/-! sorted(set(xs)), len(set(xs)). -/
namespace Cl
open PySem PySem.Spec PyProof.Rows L2
def isL : Key → Bool
  | .inl _ => true
  | .inr _ => false
/-- all ints or all texts -/
def homK (ks : List Key) : Bool := ks.all isL || ks.all fun k => !isL k
theorem homK_perm {ks ls : List Key} (p : ks.Perm ls) (h : homK ls = true) : homK ks = true := by
  unfold homK at h ⊢
  rw [Bool.or_eq_true, List.all_eq_true, List.all_eq_true] at h ⊢
  exact h.imp (fun q x hx => q x (p.mem_iff.mp hx)) fun q x hx => q x (p.mem_iff.mp hx)
theorem homK_sub {ks ls : List Key} (s : ∀ k ∈ ks, k ∈ ls) (h : homK ls = true) : homK ks = true := by
  unfold homK at h ⊢
  rw [Bool.or_eq_true, List.all_eq_true, List.all_eq_true] at h ⊢
  exact h.imp (fun q x hx => q x (s x hx)) fun q x hx => q x (s x hx)
theorem homK_alike {ks : List Key} (h : homK ks = true) {a b : Key} (ha : a ∈ ks) (hb : b ∈ ks) : PySem.W.alike (keyD a) (keyD b) = true := by
  unfold homK at h
  rw [Bool.or_eq_true, List.all_eq_true, List.all_eq_true] at h
  rcases h with h | h
  · have h1 := h a ha
    have h2 := h b hb
    cases a with
    | inr _ => cases h1
    | inl _ =>
      cases b with
      | inr _ => cases h2
      | inl _ => simp [keyD, PySem.W.alike]
  · have h1 := h a ha
    have h2 := h b hb
    cases a with
    | inl _ => cases h1
    | inr _ =>
      cases b with
      | inl _ => cases h2
      | inr _ => simp [keyD, PySem.W.alike]
theorem dLe_eq (x y : PyData) : dLe x y = !PySem.W.dataLt y x := rfl
theorem dLe_anti {ks : List Key} (h : homK ks = true) {a b : Key} (ha : a ∈ ks) (hb : b ∈ ks) (h1 : dLe (keyD a) (keyD b) = true) (h2 : dLe (keyD b) (keyD a) = true) : a = b := by
  have al := homK_alike h ha hb
  rw [dLe_eq] at h1 h2
  cases a with
  | inl i =>
    cases b with
    | inr _ => simp [keyD, PySem.W.alike] at al
    | inl j =>
      simp only [keyD, PySem.W.dataLt_int] at h1 h2
      simp at h1 h2
      congr 1
      omega
  | inr x =>
    cases b with
    | inl _ => simp [keyD, PySem.W.alike] at al
    | inr y =>
      simp only [keyD, PySem.W.dataLt_str] at h1 h2
      simp only [Bool.not_eq_true', decide_eq_false_iff_not] at h1 h2
      congr 1
      exact PySem.W.str_of_cps (List.le_antisymm h1 h2)
theorem keyD_inj {a b : Key} (h : keyD a = keyD b) : a = b := by
  cases a <;> cases b <;> simp_all [keyD]
theorem dLe_total : PySem.W.TotalLe dLe := (PySem.W.sortLe_total (listOrd itemOrd) false fun b : PyData => PySem.W.keyToks b)
theorem sortD_perm {ks ls : List Key} (p : ks.Perm ls) (h : homK ls = true) : sortD (ks.map keyD) = sortD (ls.map keyD) := by
  unfold sortD
  refine List.Perm.eq_of_pairwise (le := fun a b => dLe a b = true) (fun a b ha hb h1 h2 => ?_) (PySem.W.sort_pairwise dLe_total _) (PySem.W.sort_pairwise dLe_total _) (((List.mergeSort_perm _ _).trans (p.map keyD)).trans (List.mergeSort_perm _ _).symm)
  obtain ⟨k, hk, rfl⟩ := List.mem_map.mp ((List.mergeSort_perm _ _).mem_iff.mp ha)
  obtain ⟨l, hl, rfl⟩ := List.mem_map.mp ((List.mergeSort_perm _ _).mem_iff.mp hb)
  rw [dLe_anti h (p.mem_iff.mp hk) hl h1 h2]
def SetMO (P : Program) (w : World) (a : Addr) (ks : List Key) : HO := .ext fun h => SetM P w h a ks
theorem setM_new {P : Program} {w : World} {H : Hp} {h : Heap} {a : Addr} {ks : List Key} (R : SetM P w h a ks) : ObjOk P w H h a (SetMO P w a ks) := by
  have ⟨o, _, _, _, ho, _⟩ := R
  exact ⟨R, ⟨o, ho⟩, fun h1 h2 p k => SetM.at p k⟩
def asK : PyData → Option Key
  | .int i => some (.inl i)
  | .str x => some (.inr x)
  | _ => none
theorem asK_eq {x : PyData} {k : Key} (h : asK x = some k) : x = keyD k := by
  cases x <;> simp [asK] at h <;> subst h <;> rfl
def asKs : List PyData → Option (List Key)
  | [] => some []
  | x :: t => match asK x, asKs t with
    | some k, some r => some (k :: r)
    | _, _ => none
theorem asKs_eq : ∀ {xs : List PyData} {ks : List Key}, asKs xs = some ks → xs = ks.map keyD
  | [], ks, h => by
    cases h
    rfl
  | x :: t, ks, h => by
    unfold asKs at h
    cases h1 : asK x with
    | none =>
      rw [h1] at h
      cases h
    | some k =>
      cases h2 : asKs t with
      | none =>
        rw [h1, h2] at h
        cases h
      | some r =>
        rw [h1, h2] at h
        cases h
        rw [asK_eq h1, asKs_eq h2]
        rfl
theorem keysAre_of {K : KW} {H : Hp} : ∀ {ks : List Key} {vs : List V} {us : List Value}, DenL K H (ks.map keyD) vs → Vals vs us → KeysAre us ks
  | [], vs, us, h, r => by
    simp only [List.map_nil, DenL] at h
    subst h
    cases r
    exact .nil
  | k :: ks, vs, us, h, r => by
    simp only [List.map_cons, DenL] at h
    obtain ⟨v, t, rfl, d, h⟩ := h
    cases r with
    | cons r1 r2 =>
      refine .cons ?_ (keysAre_of h r2)
      cases k with
      | inl i =>
        simp only [keyD, Den] at d
        subst d
        obtain ⟨u, rfl⟩ := r1
        exact keyIs_int i u
      | inr x =>
        simp only [keyD, Den] at d
        subst d
        obtain ⟨u, rfl⟩ := r1
        exact keyIs_str x u
section
variable {X : Cx} {N : Wn} {e : Expr} {pos p p2 pos2 : Pos}
/-- set(xs) -/
def rSetM (P : Program) (w : World) (K : KW) : List V → Hp → VK → Prop := fun vs H Q => ∃ (l : Addr) (ks : List Key) (ws : List V), vs = [.ref l] ∧ (SqL K.K H l ws ∨ SqT K.K H l ws) ∧ DenL K H (ks.map keyD) ws ∧ ks.length ≤ 4000 ∧
  ∀ a, H a = none → Q (.ref a) (upd H a (SetMO P w a (setK ks)))
theorem cr_setM (hc : X.calm = true) : CallR X (.type "set") (rSetM X.prog X.w (kwOf X)) := by
  intro pins s σ H vs us Q I r h
  obtain ⟨l, ks, ws, rfl, hs, dl, hl, q⟩ := h
  rw [Vals.ref1 r]
  have room : ks.length + 1 < scanBound := by
    unfold scanBound
    omega
  have fin : ∀ (h' : Heap) (tk : Nat), SetM X.prog X.w h' s.heap.objs.size (setK ks) → (∀ b o, s.heap.get? b = some o → h'.get? b = some o) → EP X pins σ Q (.ref s.heap.objs.size) { s with heap := h', toks := tk } := fun h' tk R k =>
    ⟨.ref _, _, I.laid k (Nat.le_refl _) (setM_new R), rfl, q _ (I.hok.fresh (Nat.le_refl _))⟩
  rcases hs with hs | hs
  · obtain ⟨its, rv, pl, _⟩ := I.list hs
    exact call_setM_list (I.ok.hd hc) pl.isList (keysAre_of dl rv) room fin
  · obtain ⟨its, rv, pl, _⟩ := I.tuple hs
    exact call_setM_tuple (I.ok.hd hc) pl (keysAre_of dl rv) room fin
/-- sorted(s) -/
def rSortM (P : Program) (w : World) (K : KW) : List V → Hp → VK → Prop := fun vs H Q => ∃ (a : Addr) (ks : List Key), vs = [.ref a] ∧ H a = some (SetMO P w a ks) ∧ homK ks = true ∧
  ∀ (q : Addr) (us : List V), H q = none → DenL K H (sortD (ks.map keyD)) us → Q (.ref q) (upd H q (.lst us))
theorem kO_keys {P : Program} {w : World} {es : Array Ent} {ks : List Key} {vs : List Value} (R : RowsM P w es ks) (pm : vs.Perm (es.toList.map (·.2))) : (vs.map kO).Perm ks ∧ ∀ v ∈ vs, keyIs (kO v) v = true := by
  refine ⟨?_, fun v hv => ?_⟩
  · have := pm.map kO
    rw [List.map_map] at this
    exact this.trans R.keys
  · obtain ⟨e, he, rfl⟩ := List.mem_map.mp (pm.mem_iff.mp hv)
    exact (R.good e he).is
theorem den_kv {K : KW} {H : Hp} {k : Key} {v : Value} (h : keyIs k v = true) : ∃ x, RelV x v ∧ Den K H (keyD k) x := by
  rcases keyIs_shape h with ⟨i, t, rfl, rfl⟩ | ⟨x, t, rfl, rfl⟩
  · exact ⟨.int i, ⟨t, rfl⟩, by simp only [keyD, Den]⟩
  · exact ⟨.str x, ⟨t, rfl⟩, by simp only [keyD, Den]⟩
theorem each_keys {K : KW} {H : Hp} : ∀ {vs : List Value}, (∀ v ∈ vs, keyIs (kO v) v = true) → PySem.W.EachIs (fun u x => ∃ v, RelV v u ∧ Den K H x v) vs ((vs.map kO).map keyD)
  | [], _ => .nil
  | v :: vs, h => .cons (den_kv (h v (.head _))) (each_keys fun u hu => h u (.tail _ hu))
theorem each_kreads {h : Heap} : ∀ {vs : List Value}, (∀ v ∈ vs, keyIs (kO v) v = true) → PySem.W.EachIs (fun u x => ∃ as, Reads h u x as) vs ((vs.map kO).map keyD)
  | [], _ => .nil
  | v :: vs, q => by
    refine .cons ?_ (each_kreads fun u hu => q u (.tail _ hu))
    rcases keyIs_shape (q v (.head _)) with ⟨i, t, e, rfl⟩ | ⟨x, t, e, rfl⟩
    · exact ⟨_, .int i t⟩
    · exact ⟨_, .str x t⟩
theorem cr_sortM (hc : X.calm = true) (hu : X.A.units + 100 < cLine) : CallR X (.builtin "sorted") (rSortM X.prog X.w (kwOf X)) := by
  intro pins s σ H vs us Q I r h
  obtain ⟨a, ks, rfl, ha, hk, q⟩ := h
  rw [Vals.ref1 r]
  obtain ⟨o, es, ep, t, ho, hx, hd, rs, hb, tf⟩ : SetM X.prog X.w s.heap a ks := (I.hok a _ ha).1
  refine Calls.call_function_entry kind_sorted plain_sorted entry_sorted (args_sorted1 _) ?_
  unfold Builtin.«sorted»
  refine wpAny_bind (m := checkCount "sorted" 1 1 _) (wpAny_pure (wpAny_bind (collect_set (A := X.A.in1) (I.ok.hd hc) ⟨o, ho, hx.1, hd⟩ tf.fit hb tf.ris tf.led fun s1 vs k1 hz g1 o1 pm => ?_)))
  obtain ⟨pk, vk⟩ := kO_keys rs pm
  have hv : vs.length = ks.length := by
    have := pk.length_eq
    rwa [List.length_map] at this
  have hsz : vs.length ≤ sizeLine := by
    have := rs.size
    rw [hv, ← this, sizeLine_eq]
    unfold scanBound at hb
    omega
  have hk1 : homK (vs.map kO) = true := homK_perm pk hk
  have hal : PySem.W.AllAlike ((vs.map kO).map keyD) := fun d hd d' hd' => by
    obtain ⟨k, h1, rfl⟩ := List.mem_map.mp hd
    obtain ⟨l, h2, rfl⟩ := List.mem_map.mp hd'
    exact homK_alike hk1 h1 h2
  have hok : PySem.W.Sortable ((vs.map kO).map keyD) := .inr fun d hd => by
    obtain ⟨k, _, rfl⟩ := List.mem_map.mp hd
    cases k
    · exact ⟨fun z => (by cases z), fun xs z => (by cases z)⟩
    · exact ⟨fun z => (by cases z), fun xs z => (by cases z)⟩
  refine wpAny_bind (wpAny_newList ?_ hsz)
  have hL : (s1.heap.push (seqObj "list" vs.toArray 0)).get? s1.heap.objs.size = some (seqObj "list" vs.toArray 0) := Heap.get?_push_size _ rfl
  have S := PySem.W.SortsAt.data (prog := X.prog) (w := X.w) (A := X.A.in1.in1) (s := { s1 with heap := PySem.W.sortingHeap (s1.heap.push (seqObj "list" vs.toArray 0)) s1.heap.objs.size vs }) (each_kreads vk) hal hok (fun d hd => by
    obtain ⟨k, _, rfl⟩ := List.mem_map.mp hd
    have : (keyD k).depth = 0 := by cases k <;> simp [keyD, PyData.depth]
    show X.A.units + 1 + 1 + _ < cLine
    omega)
  refine wpAny_bind (wpAny_holding (wpAny_call_entry slot_list_sort ⟨_, hL, rfl⟩ entry_list_sort (PySem.W.list_sort_vals hL S hsz ⟨_, rfl, ?_⟩) (args_list_sort _)))
  have hd2 : PySem.W.EachIs (fun u x => ∃ v, RelV v u ∧ Den (kwOf X) H x v) (PySem.W.sortVals (PySem.W.dataKind (PySem.W.sortingHeap (s1.heap.push (seqObj "list" vs.toArray 0)) s1.heap.objs.size vs) ((vs.map kO).map keyD)) false vs vs) (sortD ((vs.map kO).map keyD)) := by
    have := PySem.W.sortVals_data (enc := fun x : PyData => x) (h' := PySem.W.sortingHeap (s1.heap.push (seqObj "list" vs.toArray 0)) s1.heap.objs.size vs) false (each_keys (K := kwOf X) (H := H) vk) (each_kreads vk) (by rw [List.map_id']; exact hal)
    rw [List.map_id'] at this
    exact this
  rw [sortD_perm pk hk] at hd2
  obtain ⟨zs, z1, z2⟩ := den_each hd2
  have hn : H s1.heap.objs.size = none := I.hok.fresh hz
  obtain ⟨c, hat⟩ := sortedHeap_at (vs := vs) (out := (PySem.W.sortVals (PySem.W.dataKind (PySem.W.sortingHeap (s1.heap.push (seqObj "list" vs.toArray 0)) s1.heap.objs.size vs) ((vs.map kO).map keyD)) false vs vs).toArray) hL
  have kp : ∀ b u, s.heap.get? b = some u → (sortedHeap (s1.heap.push (seqObj "list" vs.toArray 0)) s1.heap.objs.size vs (PySem.W.sortVals (PySem.W.dataKind (PySem.W.sortingHeap (s1.heap.push (seqObj "list" vs.toArray 0)) s1.heap.objs.size vs) ((vs.map kO).map keyD)) false vs vs).toArray).get? b = some u := fun b u e => by
    have e1 := k1 b u e
    have lt := Heap.lt_size e1
    rw [sortedHeap_old (Nat.ne_of_lt lt) (by rw [size_push']; exact Nat.lt_succ_of_lt lt)]
    exact Heap.get?_push_of_some _ e1
  have hzl : zs.length ≤ sizeLine := by
    rw [z1.length, PySem.W.sortVals_length false rfl]
    exact hsz
  have J := I.call (h' := sortedHeap (s1.heap.push (seqObj "list" vs.toArray 0)) s1.heap.objs.size vs (PySem.W.sortVals (PySem.W.dataKind (PySem.W.sortingHeap (s1.heap.push (seqObj "list" vs.toArray 0)) s1.heap.objs.size vs) ((vs.map kO).map keyD)) false vs vs).toArray) (g' := s1.gens) (d' := s1.drawn) (t' := s1.toks) (ch := []) (Un.laid kp hz hn) (I.hok.laid kp hz (o := .lst zs) ⟨hzl, _, c, z1, hat⟩) (by rw [g1]; exact I.bare) (fun _ z => nomatch z)
  refine wpAny_pure ⟨_, rfl, .ref _, _, ?_, rfl, q _ zs hn z2⟩
  cases s1
  cases o1
  exact J
end
end Cl

set_option Elab.async false
set_option maxRecDepth 100000
set_option maxHeartbeats 2000000
namespace Cl
open PySem PySem.Spec PyProof.Rows L2
def tSetO (P : Program) (w : World) (G : Gh) (W : WX) (m : Mo (List Key)) : TE := fun σ H Q => ∃ μ c, Rel G μ c σ H ∧ RunAt G W m μ c σ H fun ks _ _ H1 => ∀ a, H1 a = none → Q (.ref a) (upd H1 a (SetMO P w a ks))
/-- e gives a new set -/
abbrev CSt (X : Cx) (N : Wn) (e : Expr) (m : Mo (List Key)) : Prop := PE X e (tSetO X.prog X.w (gh X N) N.W m)
section
variable {X : Cx} {N : Wn} {e : Expr} {pos p : Pos}
def bSet (y : BV) (hp : List CO) : Option (List Key) := ((bSeq y hp).bind asKs).bind fun ks => if ks.length ≤ 4000 then some (setK ks) else none
def gSet : BV → Mo (List Key) := gO bSet id
theorem cset {m : Mo BV} (hc : X.calm = true) (hb : CB X N e m) (hm : X.mg "set" = none) (hg : Gl X "set" := by rfl) (hs : starEach [e] X.env = (false, eval e X.env) :: starEach [] X.env := by rfl) :
    CSt X N (.Call (.Name "set" p) [e] [] pos) (mBind m gSet) :=
  PE.tm (pe_callTy (cr_setM hc) hg hm (by rfl) (pa_cons hb pa_nil hs) (he := hs)) fun σ H Q ⟨μ, c, R, p⟩ => ⟨μ, c, R, (RunAt.bind p).imp fun y μ1 c1 H1 a b r1 q v d => by
    obtain ⟨ks, e, q⟩ := gO_ok q
    unfold bSet at e
    cases h : bSeq y c1.hp with
    | none =>
      rw [h] at e
      cases e
    | some xs =>
      rw [h] at e
      simp only [Option.bind_some] at e
      cases h2 : asKs xs with
      | none =>
        rw [h2] at e
        cases e
      | some ls =>
        rw [h2] at e
        simp only [Option.bind_some] at e
        by_cases hl : ls.length ≤ 4000
        · rw [if_pos hl] at e
          cases e
          obtain ⟨l, ws, rfl, s, dl⟩ := bSeq_ok r1 d h
          rw [asKs_eq h2] at dl
          exact ⟨l, ls, ws, rfl, s, dl, hl, fun a ha => q H1 (Fz.refl _) r1 a ha⟩
        · rw [if_neg hl] at e
          cases e⟩
def gSortM (ks : List Key) : Mo (List PyData) := fun c => if homK ks = true then .ok (sortD (ks.map keyD)) c else .no
theorem upd_none {H : Hp} {a q : Addr} {o : HO} (h : upd H a o q = none) : H q = none ∧ q ≠ a := by
  by_cases e : q = a
  · subst e
    rw [upd_same] at h
    cases h
  · rw [upd_ne e] at h
    exact ⟨h, e⟩
theorem cf_sortSet {m : Mo (List Key)} (hc : X.calm = true) (hu : X.A.units + 100 < cLine) (hb : CSt X N e m) (hm : X.mg "sorted" = none) (hg : Gl X "sorted" := by rfl) (hs : starEach [e] X.env = (false, eval e X.env) :: starEach [] X.env := by rfl) :
    CF X N (.Call (.Name "sorted" p) [e] [] pos) (mBind m gSortM) :=
  PE.tm (pe_callB (cr_sortM hc hu) hg hm (by rfl) (pa_cons hb pa_nil hs) (he := hs)) fun σ H Q ⟨μ, c, R, p⟩ => ⟨μ, c, R, (RunAt.bind p).imp fun ks μ1 c1 H1 a b r1 q t ht => by
    have sm : Same H1 (upd H1 t (SetMO X.prog X.w t ks)) := same_new ht
    unfold RunAt gSortM at q
    by_cases hk : homK ks = true
    · rw [if_pos hk] at q
      exact ⟨t, ks, rfl, upd_same, hk, fun z us hz du => q _ _ (List.prefix_refl _) (Fz.same sm) (r1.same sm) z us hz du⟩
    · rw [if_neg hk] at q
      exact q.elim⟩
def rLenM (P : Program) (w : World) : List V → Hp → VK → Prop := fun vs H Q => ∃ (a : Addr) (ks : List Key), vs = [.ref a] ∧ H a = some (SetMO P w a ks) ∧ Q (.int ks.length) H
theorem cr_lenM : CallR X (.builtin "len") (rLenM X.prog X.w) := by
  intro pins s σ H vs us Q I r h
  obtain ⟨a, ks, rfl, ha, q⟩ := h
  rw [Vals.ref1 r]
  obtain ⟨o, es, ep, t, ho, hx, hd, rs, hb, tf⟩ : SetM X.prog X.w s.heap a ks := (I.hok a _ ha).1
  refine call_len_set ho hx hd tf.fit (by rw [rs.size] at hb ⊢; unfold scanBound at hb; omega) ⟨.int ks.length, H, I.tok _, ⟨_, by rw [rs.size]⟩, q⟩
theorem ce_lenSet {m : Mo (List Key)} (hb : CSt X N e m) (hm : X.mg "len" = none) (hg : Gl X "len" := by rfl) (hs : starEach [e] X.env = (false, eval e X.env) :: starEach [] X.env := by rfl) :
    CE X N (.Call (.Name "len" p) [e] [] pos) (mBind m fun ks => mRet (.d (.int ks.length))) :=
  PE.tm (pe_callB cr_lenM hg hm boot_len (pa_cons hb pa_nil hs) (he := hs)) fun σ H Q ⟨μ, c, R, p⟩ => ⟨μ, c, R, (RunAt.bind p).imp fun ks μ1 c1 H1 a b r1 q t ht => by
    have sm : Same H1 (upd H1 t (SetMO X.prog X.w t ks)) := same_new ht
    exact ⟨t, ks, rfl, upd_same, q.ret _ (Fz.same sm) (r1.same sm) _ (vden_int _)⟩⟩
end
end Cl

set_option Elab.async false
set_option maxRecDepth 100000
set_option maxHeartbeats 2000000
/-! Dicts: what they hold, get, put. -/
namespace Cl
open PySem PySem.Spec PyProof.Rows L2
/-! ### plain -/
def isSc (x : PyData) : Bool := (asK x).isSome
def lookD {α : Type} (kvs : List (PyData × α)) (x : PyData) : Option α := (kvs.find? fun p => decide (nk p.1 = nk x)).map (·.2)
def putD {α : Type} (kvs : List (PyData × α)) (x : PyData) (y : α) : List (PyData × α) :=
  if kvs.any (fun p => decide (nk p.1 = nk x)) then kvs.map (fun p => if nk p.1 = nk x then (p.1, y) else p) else kvs ++ [(x, y)]
/-- the key may stand in a dict of these keys -/
def keyFit {α : Type} (kvs : List (PyData × α)) (x : PyData) : Bool := (isSc x && kvs.all fun p => isSc p.1) || (keyOk x && kvs.all fun p => keyOk p.1)
theorem nk_keyD (k : Key) : nk (keyD k) = match k with
    | .inl i => .num i
    | .inr x => .text x := by cases k <;> simp [keyD, nk]
theorem nk_inj {k l : Key} : nk (keyD k) = nk (keyD l) ↔ k = l := by
  cases k <;> cases l <;> simp [keyD, nk]
section
variable {α : Type} {F : α → Value → Prop}
theorem look_k {kvs : List (PyData × α)} {vs : List (Key × Value)} (h : Paired (fun p q => p.1 = keyD q.1 ∧ F p.2 q.2) kvs vs) (k : Key) : (∃ z v, lookD kvs (keyD k) = some z ∧ valueAt vs k = some v ∧ F z v) ∨ lookD kvs (keyD k) = none ∧ valueAt vs k = none := by
  induction h with
  | nil => exact .inr ⟨rfl, rfl⟩
  | @cons p q ps qs h1 t ih =>
    obtain ⟨e, f⟩ := h1
    unfold lookD valueAt
    rw [List.find?_cons, List.find?_cons]
    by_cases hk : q.1 = k
    · have : nk p.1 = nk (keyD k) := by rw [e, hk]
      rw [decide_eq_true this, decide_eq_true hk]
      exact .inl ⟨p.2, q.2, rfl, rfl, f⟩
    · have : ¬ nk p.1 = nk (keyD k) := fun z => hk (by rw [e] at z; exact nk_inj.mp z)
      rw [decide_eq_false this, decide_eq_false hk]
      exact ih
theorem look_n {kvs : List (PyData × α)} {vs : List (NestedKey × Value)} (h : Paired (fun p q => nk p.1 = q.1 ∧ F p.2 q.2) kvs vs) (x : PyData) : (∃ z v, lookD kvs x = some z ∧ valueAt vs (nk x) = some v ∧ F z v) ∨ lookD kvs x = none ∧ valueAt vs (nk x) = none := by
  induction h with
  | nil => exact .inr ⟨rfl, rfl⟩
  | @cons p q ps qs h1 t ih =>
    obtain ⟨e, f⟩ := h1
    unfold lookD valueAt
    rw [List.find?_cons, List.find?_cons, ← e]
    by_cases hk : nk p.1 = nk x
    · rw [decide_eq_true hk]
      exact .inl ⟨p.2, q.2, rfl, rfl, f⟩
    · rw [decide_eq_false hk]
      exact ih
theorem any_look (kvs : List (PyData × α)) (x : PyData) : kvs.any (fun p => decide (nk p.1 = nk x)) = (lookD kvs x).isSome := by
  induction kvs with
  | nil => rfl
  | cons p ps ih =>
    unfold lookD
    rw [List.any_cons, List.find?_cons]
    by_cases hk : nk p.1 = nk x
    · rw [decide_eq_true hk]
      rfl
    · rw [decide_eq_false hk, Bool.false_or, ih]
      rfl
end
theorem paired_map {α β γ δ : Type} {F : α → β → Prop} {G : γ → δ → Prop} {f : α → γ} {g : β → δ} : ∀ {l : List α} {m : List β}, Paired F l m → (∀ x y, F x y → G (f x) (g y)) → Paired G (l.map f) (m.map g)
  | _, _, .nil, _ => .nil
  | _, _, .cons h t, q => .cons (q _ _ h) (paired_map t q)
theorem paired_any {α β : Type} {F : α → β → Prop} {f : α → Bool} {g : β → Bool} : ∀ {l : List α} {m : List β}, Paired F l m → (∀ x y, F x y → f x = g y) → l.any f = m.any g
  | _, _, .nil, _ => rfl
  | _, _, .cons h t, q => by rw [List.any_cons, List.any_cons, q _ _ h, paired_any t q]
/-- put, in step -/
theorem put_k {α : Type} {G : α → V → Prop} {kvs : List (PyData × α)} {kws : List (Key × V)} (h : Paired (fun p q => p.1 = keyD q.1 ∧ G p.2 q.2) kvs kws) (k : Key) {y : α} {v : V} (hy : G y v) : Paired (fun p q => p.1 = keyD q.1 ∧ G p.2 q.2) (putD kvs (keyD k) y) (putK kws k v) := by
  have e : kvs.any (fun p => decide (nk p.1 = nk (keyD k))) = kws.any fun q => decide (q.1 = k) := paired_any h fun p q z => by
    rw [z.1]
    exact decide_eq_decide.mpr nk_inj
  unfold putD putK
  rw [e]
  split
  · refine paired_map h fun p q z => ?_
    have e1 : nk p.1 = nk (keyD k) ↔ q.1 = k := by rw [z.1]; exact nk_inj
    by_cases hk : q.1 = k
    · rw [if_pos hk, if_pos (e1.mpr hk)]
      exact ⟨z.1, hy⟩
    · rw [if_neg hk, if_neg (fun w => hk (e1.mp w))]
      exact z
  · exact paired_app h (.cons ⟨rfl, hy⟩ .nil)
def putN (kws : List (NestedKey × Addr × V)) (n : NestedKey) (b : Addr) (v : V) : List (NestedKey × Addr × V) :=
  if kws.any (fun q => decide (q.1 = n)) then kws.map (fun q => if q.1 = n then (q.1, q.2.1, v) else q) else kws ++ [(n, b, v)]
theorem put_n {α : Type} {T : PyData → NestedKey → Addr → Prop} {G : α → V → Prop} {kvs : List (PyData × α)} {kws : List (NestedKey × Addr × V)} (h : Paired (fun p q => (q.1 = nk p.1 ∧ T p.1 q.1 q.2.1) ∧ G p.2 q.2.2) kvs kws) {x : PyData} {b : Addr} {y : α} {v : V} (hx : T x (nk x) b) (hy : G y v) :
    Paired (fun p q => (q.1 = nk p.1 ∧ T p.1 q.1 q.2.1) ∧ G p.2 q.2.2) (putD kvs x y) (putN kws (nk x) b v) := by
  have e : kvs.any (fun p => decide (nk p.1 = nk x)) = kws.any fun q => decide (q.1 = nk x) := paired_any h fun p q z => by rw [z.1.1]
  unfold putD putN
  rw [e]
  split
  · refine paired_map h fun p q z => ?_
    by_cases hk : q.1 = nk x
    · rw [if_pos hk, if_pos (by rw [← z.1.1]; exact hk)]
      exact ⟨z.1, hy⟩
    · rw [if_neg hk, if_neg (by rw [← z.1.1]; exact hk)]
      exact z
  · exact paired_app h (.cons ⟨⟨rfl, hx⟩, hy⟩ .nil)
/-! ### keys in the heap -/
section
variable {X : Cx} {pins : List (Addr × Obj)} {σ : LSt} {H : Hp} {s : Shared}
mutual
theorem Den.nested (I : Inv X pins σ H s) : ∀ (x : PyData) (v : V) (u : Value), hashb x = true → Den (kwOf X) H x v → RelV v u → NestedIs s.heap (nk x) u
  | .none, v, u, _, h, r => by
    simp only [Den] at h
    subst h
    obtain rfl : u = Value.none := r
    simp only [nk]
    exact .none
  | .bool b, v, u, _, h, r => by
    simp only [Den] at h
    subst h
    obtain rfl : u = Value.bool b := r
    simp only [nk]
    exact .bool rfl
  | .int i, v, u, _, h, r => by
    simp only [Den] at h
    subst h
    obtain ⟨t, rfl⟩ := r
    simp only [nk]
    exact .int i t
  | .str i, v, u, _, h, r => by
    simp only [Den] at h
    subst h
    obtain ⟨t, rfl⟩ := r
    simp only [nk]
    exact .text i t
  | .tuple xs, v, u, p, h, r => by
    simp only [Den] at h
    obtain ⟨a, vs, rfl, q, d⟩ := h
    obtain rfl : u = Value.ref a := r
    obtain ⟨its, rv, ⟨o, ho, hc, n, hd⟩, _⟩ := I.tuple q
    simp only [nk]
    exact .tup ho hc hd (by simpa using DenL.nested I xs vs its (by simpa [hashb] using p) d rv)
  | .list _, _, _, p, _, _ => by simp [hashb] at p
  | .dict _, _, _, p, _, _ => by simp [hashb] at p
theorem DenL.nested (I : Inv X pins σ H s) : ∀ (xs : List PyData) (vs : List V) (us : List Value), hashbs xs = true → DenL (kwOf X) H xs vs → Vals vs us → NestedAll s.heap (nks xs) us
  | [], vs, us, _, h, r => by
    simp only [DenL] at h
    subst h
    cases r
    simp only [nks]
    exact .nil
  | x :: xs, vs, us, p, h, r => by
    simp only [DenL] at h
    obtain ⟨v, w, rfl, d, t⟩ := h
    have p : hashb x = true ∧ hashbs xs = true := by simpa [hashbs] using p
    cases r with
    | cons r1 r2 =>
      simp only [nks]
      exact .cons (Den.nested I x v _ p.1 d r1) (DenL.nested I xs w _ p.2 t r2)
end
theorem keyOk_is {x : PyData} {b : Addr} (I : Inv X pins σ H s) (h : keyOk x = true) (d : Den (kwOf X) H x (.ref b)) : (nestedKind X.prog X.w).is s.heap (nk x) b := by
  cases x with
  | tuple xs =>
    have h' : hashbs xs = true ∧ (NestedKey.tup (nks xs)).depth ≤ 8 := by simpa [keyOk] using h
    refine ⟨Den.nested I (.tuple xs) (.ref b) (.ref b) (by simpa [hashb] using h'.1) d rfl, ?_⟩
    simp only [nk]
    exact h'.2
  | none => cases h
  | bool _ => cases h
  | int _ => cases h
  | str _ => cases h
  | list _ => cases h
  | dict _ => cases h
theorem keyOk_ref {K : KW} {x : PyData} {v : V} (h : keyOk x = true) (d : Den K H x v) : ∃ b, v = .ref b := by
  cases x with
  | tuple xs =>
    simp only [Den] at d
    obtain ⟨a, _, e, _⟩ := d
    exact ⟨a, e⟩
  | none => cases h
  | bool _ => cases h
  | int _ => cases h
  | str _ => cases h
  | list _ => cases h
  | dict _ => cases h
theorem isSc_key {K : KW} {x : PyData} {v : V} (h : isSc x = true) (d : Den K H x v) : ∃ k, x = keyD k ∧ v = kV k := by
  cases x with
  | int i =>
    simp only [Den] at d
    exact ⟨.inl i, rfl, d⟩
  | str i =>
    simp only [Den] at d
    exact ⟨.inr i, rfl, d⟩
  | none => cases h
  | bool _ => cases h
  | tuple _ => cases h
  | list _ => cases h
  | dict _ => cases h
theorem sc_keyOk {x : PyData} (h1 : isSc x = true) (h2 : keyOk x = true) : False := by
  cases x <;> first | cases h2 | cases h1
/-! ### the dict in the heap -/
variable {α : Type} {R : α → V → Prop} {kvs : List (PyData × α)} {a : Addr} {ho : HO}
/-- what a value of the clean dict is in the heap -/
abbrev Fv (R : α → V → Prop) : α → Value → Prop := fun z u => ∃ v, R z v ∧ RelV v u
theorem kvPair {kws : List (Key × V)} {vs : List (Key × Value)} (p : Paired (fun p q => p.1 = keyD q.1 ∧ R p.2 q.2) kvs kws) (r : KV kws vs) : Paired (fun p q => p.1 = keyD q.1 ∧ Fv R p.2 q.2) kvs vs := by
  induction p generalizing vs with
  | nil =>
    cases r
    exact .nil
  | cons h t ih =>
    cases r with
    | cons r1 r2 => exact .cons ⟨by rw [h.1, r1.1], _, h.2, r1.2⟩ (ih r2)
theorem rd_rows (I : Inv X pins σ H s) {kws : List (NestedKey × Addr × V)} (hr : Rd H a (DKy X.w a kws)) : kws.length ≤ sizeLine ∧ (a == sysModules) = false ∧ (kws.map (·.1)).Nodup ∧
    ∃ (xs : List (NestedKey × Addr × Value)) (o : Obj) (es : Array DictEntry) (ep : Nat), Paired (fun p q => p.1 = q.1 ∧ p.2.1 = q.2.1 ∧ RelV p.2.2 q.2.2) kws xs ∧ s.heap.get? a = some o ∧ o.ExactDict ∧ o.data = .dict es ep ∧ es.toList = xs.map fun x => ⟨x.1.hash X.w, .ref x.2.1, x.2.2⟩ := by
  rcases hr with h | ⟨o, h⟩
  · exact (I.hok a _ h).1
  · exact (I.hok a _ h).2.1
theorem paired_nil {α β : Type} {F : α → β → Prop} {m : List β} (h : Paired F [] m) : m = [] := by
  cases h
  rfl
/-- of ints and texts -/
theorem view_k (I : Inv X pins σ H s) (d : DicP (kwOf X) H R kvs a ho) (hr : Rd H a ho) (hk : kvs.all (fun p => isSc p.1) = true) :
    (a == sysModules) = false ∧ kvs.length ≤ sizeLine ∧ ∃ vs, s.heap.DictOf (mixKind X.prog X.w) a vs ∧ Paired (fun p q => p.1 = keyD q.1 ∧ Fv R p.2 q.2) kvs vs := by
  rcases d with ⟨kws, rfl, p⟩ | ⟨kws, rfl, p⟩
  · obtain ⟨z, hs, vs, r, dd⟩ := dk_rd I.hok hr
    exact ⟨hs, by rw [Paired.length p]; exact z, vs, dd, kvPair p r⟩
  · cases kvs with
    | cons q t =>
      cases p with
      | cons h _ => exact (sc_keyOk (List.all_eq_true.mp hk q (.head _)) h.1.2.1).elim
    | nil =>
      have := paired_nil p
      subst this
      obtain ⟨z, hs, _, xs, o, es, ep, pr, g, ex, dt, he⟩ := rd_rows I hr
      have := paired_nil pr
      subst this
      have e0 : es = #[] := by
        apply Array.toList_inj.mp
        rw [he]
        rfl
      subst e0
      refine ⟨hs, Nat.zero_le _, [], ⟨o, #[], ep, g, ex, dt, ?_, ?_, List.nodup_nil⟩, .nil⟩
      · first
          | exact KeysOf.empty
          | (intro i h; simp at h)
          | (intro e h; simp at h)
          | simp [PySem.KeysOf]
      · exact .nil
/-- of tuples -/
theorem view_n (I : Inv X pins σ H s) (d : DicP (kwOf X) H R kvs a ho) (hr : Rd H a ho) (hk : kvs.all (fun p => keyOk p.1) = true) :
    (a == sysModules) = false ∧ kvs.length ≤ sizeLine ∧ ∃ kws : List (NestedKey × Addr × V), Paired (fun p q => (q.1 = nk p.1 ∧ keyOk p.1 = true ∧ Den (kwOf X) H p.1 (.ref q.2.1)) ∧ R p.2 q.2.2) kvs kws ∧
      ∃ xs : List (NestedKey × Addr × Value), s.heap.DictOfH (nestedKind X.prog X.w) a xs ∧ Paired (fun p q => p.1 = q.1 ∧ p.2.1 = q.2.1 ∧ RelV p.2.2 q.2.2) kws xs := by
  rcases d with ⟨kws, rfl, p⟩ | ⟨kws, rfl, p⟩
  · cases kvs with
    | cons q t =>
      cases p with
      | cons h _ =>
        have := List.all_eq_true.mp hk q (.head _)
        refine (sc_keyOk ?_ this).elim
        rw [h.1]
        rename_i k _ _
        cases k.1 <;> rfl
    | nil =>
      have := paired_nil p
      subst this
      obtain ⟨z, hs, vs, r, o, es, ep, g, ex, dt, _, pr, _⟩ := dk_rd I.hok hr
      have := paired_nil r
      subst this
      refine ⟨hs, Nat.zero_le _, [], .nil, [], ⟨o, es, ep, g, ex, dt, ?_, (fun x h => by cases h), List.nodup_nil⟩, .nil⟩
      have := pr.length
      rw [List.length_nil] at this
      rw [List.length_eq_zero_iff.mp this]
      rfl
  · obtain ⟨z, hs, nd, xs, o, es, ep, pr, g, ex, dt, he⟩ := rd_rows I hr
    refine ⟨hs, by rw [Paired.length p]; exact z, kws, p, xs, ⟨o, es, ep, g, ex, dt, he, ?_, ?_⟩, pr⟩
    · intro x hx
      obtain ⟨i, hi⟩ := List.getElem?_of_mem hx
      have back : ∀ {l : List (NestedKey × Addr × V)} {m : List (NestedKey × Addr × Value)} {i : Nat} {y}, Paired (fun p q => p.1 = q.1 ∧ p.2.1 = q.2.1 ∧ RelV p.2.2 q.2.2) l m → m[i]? = some y → ∃ x, l[i]? = some x ∧ x.1 = y.1 ∧ x.2.1 = y.2.1 := fun {l m i y} pp e => by
        obtain ⟨x, h1, h2⟩ := paired_got pp e
        exact ⟨x, h1, h2.1, h2.2.1⟩
      obtain ⟨y, hy, e1, e2⟩ := back pr hi
      obtain ⟨q, hq, e3, e4⟩ := paired_got p hy
      have k1 := keyOk_is I e3.2.1 e3.2.2
      rw [← e1, ← e2, e3.1]
      exact k1
    · have : ∀ {l : List (NestedKey × Addr × V)} {m : List (NestedKey × Addr × Value)}, Paired (fun p q => p.1 = q.1 ∧ p.2.1 = q.2.1 ∧ RelV p.2.2 q.2.2) l m → l.map (·.1) = m.map (·.1) := fun {l m} pp => by
        induction pp with
        | nil => rfl
        | cons h _ ih => rw [List.map_cons, List.map_cons, h.1, ih]
      rw [← this pr]
      exact nd
theorem pairsH_p {kws : List (NestedKey × Addr × V)} {xs : List (NestedKey × Addr × Value)} {H : Hp} {K : KW} (p : Paired (fun p q => (q.1 = nk p.1 ∧ keyOk p.1 = true ∧ Den K H p.1 (.ref q.2.1)) ∧ R p.2 q.2.2) kvs kws) (r : Paired (fun p q => p.1 = q.1 ∧ p.2.1 = q.2.1 ∧ RelV p.2.2 q.2.2) kws xs) :
    Paired (fun p q => nk p.1 = q.1 ∧ Fv R p.2 q.2) kvs (pairsH xs) := by
  induction p generalizing xs with
  | nil =>
    cases r
    exact .nil
  | cons h t ih =>
    cases r with
    | cons r1 r2 => exact .cons ⟨by rw [← h.1.1, r1.1], _, h.2, r1.2.2⟩ (ih r2)
end
end Cl

set_option Elab.async false
set_option maxRecDepth 100000
set_option maxHeartbeats 2000000
/-! Dicts: get, in, put, in the heap. -/
namespace Cl
open PySem PySem.Spec PyProof.Rows L2
section
variable {X : Cx} {pins : List (Addr × Obj)} {σ : LSt} {H : Hp} {s : Shared} {α : Type} {R : α → V → Prop} {kvs : List (PyData × α)} {a : Addr} {ho : HO} {x : PyData} {v : V} {u : Value} {A : Around} {E : Value → Shared → Prop}
theorem keyFit_cases (h : keyFit kvs x = true) : (isSc x = true ∧ kvs.all (fun p => isSc p.1) = true) ∨ keyOk x = true ∧ kvs.all (fun p => keyOk p.1) = true := by
  unfold keyFit at h
  simpa [Bool.or_eq_true, Bool.and_eq_true] using h
/-- what a key finds -/
def Found (R : α → V → Prop) (o : Option α) (r : Option Value) : Prop := (∃ z w y, o = some z ∧ r = some w ∧ R z y ∧ RelV y w) ∨ o = none ∧ r = none
theorem Found.isSome {o : Option α} {r : Option Value} (h : Found R o r) : r.isSome = o.isSome := by
  rcases h with ⟨z, w, y, rfl, rfl, _⟩ | ⟨rfl, rfl⟩ <;> rfl
/-- the two ways a key is met -/
theorem key_met (I : Inv X pins σ H s) (d : DicP (kwOf X) H R kvs a ho) (hr : Rd H a ho) (hf : keyFit kvs x = true) (dx : Den (kwOf X) H x v) (rx : RelV v u) : (a == sysModules) = false ∧ kvs.length ≤ sizeLine ∧
    ((∃ (k : Key) (vs : List (Key × Value)), x = keyD k ∧ (mixKind X.prog X.w).is k u = true ∧ s.heap.DictOf (mixKind X.prog X.w) a vs ∧ Paired (fun p q => p.1 = keyD q.1 ∧ Fv R p.2 q.2) kvs vs ∧ Found R (lookD kvs x) (valueAt vs k)) ∨
    ∃ (b : Addr) (kws : List (NestedKey × Addr × V)) (xs : List (NestedKey × Addr × Value)), u = .ref b ∧ v = .ref b ∧ keyOk x = true ∧ (nestedKind X.prog X.w).is s.heap (nk x) b ∧ s.heap.DictOfH (nestedKind X.prog X.w) a xs ∧
      Paired (fun p q => (q.1 = nk p.1 ∧ keyOk p.1 = true ∧ Den (kwOf X) H p.1 (.ref q.2.1)) ∧ R p.2 q.2.2) kvs kws ∧ Paired (fun p q => p.1 = q.1 ∧ p.2.1 = q.2.1 ∧ RelV p.2.2 q.2.2) kws xs ∧ Found R (lookD kvs x) (valueAt (pairsH xs) (nk x))) := by
  rcases keyFit_cases hf with ⟨h1, h2⟩ | ⟨h1, h2⟩
  · obtain ⟨k, rfl, rfl⟩ := isSc_key h1 dx
    obtain ⟨hs, hl, vs, dd, pp⟩ := view_k I d hr h2
    refine ⟨hs, hl, .inl ⟨k, vs, rfl, kV_is rx, dd, pp, ?_⟩⟩
    rcases look_k pp k with ⟨z, w, e1, e2, y, e3, e4⟩ | ⟨e1, e2⟩
    · exact .inl ⟨z, w, y, e1, e2, e3, e4⟩
    · exact .inr ⟨e1, e2⟩
  · obtain ⟨b, rfl⟩ := keyOk_ref h1 dx
    obtain rfl : u = Value.ref b := rx
    obtain ⟨hs, hl, kws, pp, xs, dd, pr⟩ := view_n I d hr h2
    refine ⟨hs, hl, .inr ⟨b, kws, xs, rfl, rfl, h1, keyOk_is I h1 dx, dd, pp, pr, ?_⟩⟩
    rcases look_n (pairsH_p pp pr) x with ⟨z, w, e1, e2, y, e3, e4⟩ | ⟨e1, e2⟩
    · exact .inl ⟨z, w, y, e1, e2, e3, e4⟩
    · exact .inr ⟨e1, e2⟩
theorem room_n (hu : X.A.units + 100 < cLine) : (nestedKind X.prog X.w).room X.A.in1 := by
  show X.A.units + 1 + 8 < cLine
  omega
theorem cl_typeIs (I : Inv X pins σ H s) (d : DicP (kwOf X) H R kvs a ho) (hr : Rd H a ho) : s.TypeIs (.ref a) "dict" ∧ (∃ ob, s.heap.get? a = some ob ∧ ob.dict = none) ∧ (a == sysModules) = false := by
  rcases d with ⟨kws, rfl, p⟩ | ⟨kws, rfl, p⟩
  · obtain ⟨z, hs, vs, r, o, es, ep, g, ex, _⟩ := dk_rd I.hok hr
    exact ⟨⟨o, g, ex.1⟩, ⟨o, g, ex.2.1⟩, hs⟩
  · obtain ⟨z, hs, _, xs, o, es, ep, pr, g, ex, _⟩ := rd_rows I hr
    exact ⟨⟨o, g, ex.1⟩, ⟨o, g, ex.2.1⟩, hs⟩
theorem cl_getItem {z : α} {Q : Value → Shared → Prop} (hu : X.A.units + 100 < cLine) (I : Inv X pins σ H s) (d : DicP (kwOf X) H R kvs a ho) (hr : Rd H a ho) (hf : keyFit kvs x = true) (dx : Den (kwOf X) H x v) (rx : RelV v u) (hz : lookD kvs x = some z)
    (h : ∀ w s' y, Inv X pins σ H s' → R z y → RelV y w → Q w s') : wpAny (model X.prog X.w) X.A (getItem (.ref a) u) Q E s := by
  obtain ⟨hs, hl, ⟨k, vs, rfl, hk, dd, pp, fo⟩ | ⟨b, kws, xs, rfl, rfl, h1, hk, dd, pp, pr, fo⟩⟩ := key_met I d hr hf dx rx
  · rcases fo with ⟨z', w, y, e1, e2, e3, e4⟩ | ⟨e1, e2⟩
    · cases hz.symm.trans e1
      exact wpAny_getItem_of hk dd.mapOf e2 (h w _ y (I.tok _) e3 e4)
    · cases hz.symm.trans e1
  · rcases fo with ⟨z', w, y, e1, e2, e3, e4⟩ | ⟨e1, e2⟩
    · cases hz.symm.trans e1
      exact getItem_keyed (room_n hu) hk ⟨xs, dd, rfl⟩ e2 (h w _ y (I.tok _) e3 e4)
    · cases hz.symm.trans e1
theorem cl_in {Q : Value → Shared → Prop} (hu : X.A.units + 100 < cLine) (I : Inv X pins σ H s) (d : DicP (kwOf X) H R kvs a ho) (hr : Rd H a ho) (hf : keyFit kvs x = true) (dx : Den (kwOf X) H x v) (rx : RelV v u)
    (h : ∀ s', Inv X pins σ H s' → Q (.bool (lookD kvs x).isSome) s') : wpAny (model X.prog X.w) X.A (compareOp .In u (.ref a)) Q E s := by
  obtain ⟨hs, hl, ⟨k, vs, rfl, hk, dd, pp, fo⟩ | ⟨b, kws, xs, rfl, rfl, h1, hk, dd, pp, pr, fo⟩⟩ := key_met I d hr hf dx rx
  · refine wpAny_in_of hk hs dd.mapOf ?_
    rw [fo.isSome]
    exact h _ (I.tok _)
  · refine in_keyed (room_n hu) hk hs ⟨xs, dd, rfl⟩ ?_
    rw [fo.isSome]
    exact h _ (I.tok _)
theorem cl_notIn {Q : Value → Shared → Prop} (hu : X.A.units + 100 < cLine) (I : Inv X pins σ H s) (d : DicP (kwOf X) H R kvs a ho) (hr : Rd H a ho) (hf : keyFit kvs x = true) (dx : Den (kwOf X) H x v) (rx : RelV v u)
    (h : ∀ s', Inv X pins σ H s' → Q (.bool (!(lookD kvs x).isSome)) s') : wpAny (model X.prog X.w) X.A (compareOp .NotIn u (.ref a)) Q E s := by
  obtain ⟨hs, hl, ⟨k, vs, rfl, hk, dd, pp, fo⟩ | ⟨b, kws, xs, rfl, rfl, h1, hk, dd, pp, pr, fo⟩⟩ := key_met I d hr hf dx rx
  · refine wpAny_notIn_of hk hs dd.mapOf ?_
    rw [fo.isSome]
    exact h _ (I.tok _)
  · refine notIn_keyed (room_n hu) hk hs ⟨xs, dd, rfl⟩ ?_
    rw [fo.isSome]
    exact h _ (I.tok _)
/-- .. behind a[x] = y -/
def PutOk (X : Cx) (H : Hp) (R : α → V → Prop) (kvs : List (PyData × α)) (a : Addr) (x : PyData) (y : α) (vy : V) (ho' : HO) : Prop :=
  ∀ (R' : α → V → Prop) (H' : Hp), Fz H H' → (∀ z t, R z t → R' z t) → R' y vy → DicP (kwOf X) H' R' (putD kvs x y) a ho'
theorem vals_k {kws : List (Key × V)} {vs : List (Key × Value)} (p : Paired (fun p q => p.1 = keyD q.1 ∧ Fv R p.2 q.2) kvs vs) : ∃ kws : List (Key × V), Paired (fun p q => p.1 = keyD q.1 ∧ R p.2 q.2) kvs kws ∧ KV kws vs := by
  induction p with
  | nil => exact ⟨[], .nil, .nil⟩
  | @cons p q ps qs h t ih =>
    obtain ⟨kws, h1, h2⟩ := ih
    obtain ⟨e, w, r1, r2⟩ := h
    exact ⟨(q.1, w) :: kws, .cons ⟨e, r1⟩ h1, .cons ⟨rfl, r2⟩ h2⟩
theorem stored_put {kws : List (Key × V)} {vs : List (Key × Value)} (h : KV kws vs) (k : Key) {vy : V} {w : Value} (r : RelV vy w) : KV (putK kws k vy) (stored vs k w) := h.put k r
theorem storedH_put {kws : List (NestedKey × Addr × V)} {xs : List (NestedKey × Addr × Value)} (h : Paired (fun p q => p.1 = q.1 ∧ p.2.1 = q.2.1 ∧ RelV p.2.2 q.2.2) kws xs) (n : NestedKey) (b : Addr) {vy : V} {w : Value} (r : RelV vy w) :
    Paired (fun p q => p.1 = q.1 ∧ p.2.1 = q.2.1 ∧ RelV p.2.2 q.2.2) (putN kws n b vy) (storedH xs n b w) := by
  have e : kws.any (fun q => decide (q.1 = n)) = (atKey xs n).isSome := by
    induction h with
    | nil => rfl
    | @cons p q ps qs h t ih =>
      rw [List.any_cons, ih, h.1]
      unfold atKey
      rw [List.find?_cons]
      by_cases hk : q.1 = n
      · rw [decide_eq_true hk]
        rfl
      · rw [decide_eq_false hk, Bool.false_or]
  unfold putN storedH
  rw [e]
  split
  · refine paired_map h fun p q z => ?_
    unfold putAt
    by_cases hk : q.1 = n
    · rw [if_pos hk, if_pos (by rw [z.1]; exact hk)]
      exact ⟨z.1, z.2.1, r⟩
    · rw [if_neg hk, if_neg (by rw [z.1]; exact hk)]
      exact z
  · exact paired_app h (.cons ⟨rfl, rfl, r⟩ .nil)
theorem putD_len {y : α} : (putD kvs x y).length ≤ kvs.length + 1 := by
  unfold putD
  split
  · rw [List.length_map]
    omega
  · rw [List.length_append]
    exact Nat.le_refl _
theorem dic_mut (d : DicP (kwOf X) H R kvs a ho) : Mut (some ho) := by
  rcases d with ⟨_, rfl, _⟩ | ⟨_, rfl, _⟩ <;> trivial
theorem dky_new {P : Program} {w : World} {H' : Hp} {h' : Heap} {kws : List (NestedKey × Addr × V)} {xs : List (NestedKey × Addr × Value)} (z : kws.length ≤ sizeLine) (hs : (a == sysModules) = false) (dd : h'.DictOfH (nestedKind P w) a xs)
    (r : Paired (fun p q => p.1 = q.1 ∧ p.2.1 = q.2.1 ∧ RelV p.2.2 q.2.2) kws xs) : ObjOk P w H' h' a (DKy w a kws) := by
  obtain ⟨o, es, ep, g, ex, dt, he, _, nd⟩ := dd
  have keys : ∀ {l : List (NestedKey × Addr × V)} {m : List (NestedKey × Addr × Value)}, Paired (fun p q => p.1 = q.1 ∧ p.2.1 = q.2.1 ∧ RelV p.2.2 q.2.2) l m → l.map (·.1) = m.map (·.1) := fun {l m} pp => by
    induction pp with
    | nil => rfl
    | cons h _ ih => rw [List.map_cons, List.map_cons, h.1, ih]
  exact ⟨⟨z, hs, by rw [keys r]; exact nd, xs, o, es, ep, r, g, ex, dt, he⟩, ⟨o, g⟩, fun h1 h2 ⟨z', hs', nd', xs', o', es', ep', r', g', ex', dt', he'⟩ k => ⟨z', hs', nd', xs', o', es', ep', r', k o' g', ex', dt', he'⟩⟩
theorem cl_setItem {y : α} {vy : V} {w : Value} {Q : Unit → Shared → Prop} (hu : X.A.units + 100 < cLine) (I : Inv X pins σ H s) (d : DicP (kwOf X) H R kvs a ho) (hr : H a = some ho) (hf : keyFit kvs x = true) (hl : kvs.length < 16777216) (dx : Den (kwOf X) H x v) (rx : RelV v u) (hy : R y vy) (ry : RelV vy w)
    (h : ∀ s' ho', Inv X pins σ (upd H a ho') s' → PutOk X H R kvs a x y vy ho' → Q () s') : wpAny (model X.prog X.w) X.A (setItem (.ref a) u w) Q E s := by
  have mu : Mut (H a) := by rw [hr]; exact dic_mut d
  have hlp : (putD kvs x y).length ≤ sizeLine := by
    have := putD_len (kvs := kvs) (x := x) (y := y)
    rw [sizeLine_eq]
    omega
  obtain ⟨hs, hz, ⟨k, vs, rfl, hk, dd, pp, fo⟩ | ⟨b, kws, xs, rfl, rfl, h1, hk, dd, pp, pr, fo⟩⟩ := key_met I d (.inl hr) hf dx rx
  · obtain ⟨kws, p1, p2⟩ := vals_k (kws := []) pp
    have q1 := put_k p1 k hy
    refine wpAny_setItem_pairs (hsz := by rw [← Paired.length pp]; exact hz) hk dd fun h' dd' sb => h _ (.dK (putK kws k vy)) ?_ fun R' H' f m hy' => .inl ⟨_, rfl, put_k (Paired.mapP p1 fun _ _ z => ⟨z.1, m _ _ z.2⟩) k hy'⟩
    obtain ⟨o, es, ep, g, _⟩ := id dd'
    exact d_write I mu sb ⟨o, g⟩ (dk_new (by rw [← Paired.length q1]; exact hlp) hs (stored_put p2 k ry) dd')
  · have q1 := put_n (T := fun p n b => keyOk p = true ∧ Den (kwOf X) H p (.ref b)) (b := b) pp ⟨h1, dx⟩ hy
    refine wpAny_setItem_heap (hsz := by rw [← Paired.length pr, ← Paired.length pp]; exact hz) (room_n hu) hk dd fun h' dd' sb => ?_
    have r1 := storedH_put pr (nk x) b ry
    refine h _ (DKy X.w a (putN kws (nk x) b vy)) ?_ fun R' H' f m hy' => .inr ⟨_, rfl, put_n (T := fun p n b => keyOk p = true ∧ Den (kwOf X) H' p (.ref b)) (Paired.mapP pp fun _ _ z => ⟨⟨z.1.1, z.1.2.1, Den.mono f _ _ z.1.2.2⟩, m _ _ z.2⟩) ⟨h1, Den.mono f _ _ dx⟩ hy'⟩
    obtain ⟨o, es, ep, g, _⟩ := id dd'
    exact d_write I mu sb ⟨o, g⟩ (dky_new (by rw [← Paired.length q1]; exact hlp) hs dd' r1)
end
end Cl

set_option Elab.async false
set_option maxRecDepth 100000
set_option maxHeartbeats 2000000
/-! Subscripts of lists, tuples, texts and dicts alike; in; put. -/
namespace Cl
open PySem PySem.Spec PyProof.Rows L2
def upC (kvs : List (PyData × PyData)) : List (PyData × CV) := kvs.map fun p => (p.1, .d p.2)
/-- the entries of a dict -/
def bDic (y : BV) (hp : List CO) : Option (List (PyData × CV)) := match y with
  | .c (.d (.dict kvs)) => some (upC kvs)
  | .k kvs => some (upC kvs)
  | .c (.r n) => match hp[n]? with
    | some (.dic kvs) => some kvs
    | _ => none
  | _ => none
theorem upC_p {K : KW} {H : Hp} {μ : List Addr} {kvs : List (PyData × PyData)} {a : Addr} {ho : HO} (d : DicP K H (Den K H) kvs a ho) : DicP K H (VDen K H μ) (upC kvs) a ho := by
  have mp : ∀ {κ : Type} {T : PyData → κ → Prop} {G : κ → V} {l : List (PyData × PyData)} {m : List κ}, Paired (fun p q => T p.1 q ∧ Den K H p.2 (G q)) l m → Paired (fun p q => T p.1 q ∧ VDen K H μ p.2 (G q)) (upC l) m := fun {κ T G l m} h => by
    induction h with
    | nil => exact .nil
    | cons h _ ih => exact .cons h ih
  rcases d with ⟨kws, e, p⟩ | ⟨kws, e, p⟩
  · exact .inl ⟨kws, e, mp (T := fun p (q : Key × V) => p = keyD q.1) (G := fun q => q.2) p⟩
  · exact .inr ⟨kws, e, mp (T := fun p (q : NestedKey × Addr × V) => q.1 = nk p ∧ keyOk p = true ∧ Den K H p (.ref q.2.1)) (G := fun q => q.2.2) p⟩
section
variable {X : Cx} {N : Wn} {e a b : Expr} {pos : Pos}
theorem bDic_ok {y : BV} {μ : List Addr} {c : CS} {σ : LSt} {H : Hp} {w : V} {kvs : List (PyData × CV)} (R : Rel (gh X N) μ c σ H) (d : BDen (kwOf X) H μ y w) (e : bDic y c.hp = some kvs) : ∃ l ho, w = .ref l ∧ Rd H l ho ∧ DicP (kwOf X) H (VDen (kwOf X) H μ) kvs l ho := by
  cases y with
  | l _ => cases e
  | k ys =>
    cases e
    obtain ⟨l, ho, e1, e2, e3⟩ := d
    exact ⟨l, ho, e1, .inl e2, upC_p e3⟩
  | c x =>
    cases x with
    | o _ => cases e
    | r n =>
      unfold bDic at e
      dsimp only at e
      cases hn : c.hp[n]? with
      | none =>
        rw [hn] at e
        cases e
      | some ob =>
        rw [hn] at e
        cases ob with
        | lst _ => cases e
        | ins _ _ => cases e
        | dic zs =>
          cases e
          obtain ⟨l, el, rfl⟩ := d
          obtain ⟨l', ho, e1, e2, dp⟩ := R.hp n _ hn
          rw [el] at e1
          cases e1
          exact ⟨l, ho, rfl, .inl e2, dp⟩
    | d x =>
      cases x with
      | dict ys =>
        cases e
        obtain ⟨l, o, ho, e1, e2, e3⟩ := dict_den d
        exact ⟨l, ho, e1, .inr ⟨o, e2⟩, upC_p e3⟩
      | none => cases e
      | bool _ => cases e
      | int _ => cases e
      | str _ => cases e
      | tuple _ => cases e
      | list _ => cases e
/-! ### subscripts -/
def gIxG (y : BV) (x : CV) : Mo CV := fun c => match bDic y c.hp with
  | some kvs => match x with
    | .d k => if keyFit kvs k = true then match lookD kvs k with
        | some z => .ok z c
        | none => .no
      else .no
    | _ => .no
  | none => gIx y x c
theorem ixg_run {value slice : Expr} {pins : List (Addr × Obj)} {s : Shared} {σ : LSt} {H : Hp} {μ : List Addr} {c : CS} {y : BV} {x : CV} {v w : V} {v' w' : Value} {Q : VK} (hu : X.A.units + 100 < cLine) (I : Inv X pins σ H s) (R : Rel (gh X N) μ c σ H) (dy : BDen (kwOf X) H μ y v) (dx : VDen (kwOf X) H μ x w) (r1 : RelV v v') (r2 : RelV w w')
    (p : RunAt (gh X N) N.W (gIxG y x) μ c σ H fun z μ1 _ H1 => ∀ t, VDen (kwOf X) H1 μ1 z t → Q t H1) (hs : subscripted slice false v' w' = operate [v', w'] (getItem v' w')) : wpAny (model X.prog X.w) X.A (subscriptTail value slice v' w') (EP X pins σ Q) X.xe s := by
  have p0 := p
  unfold RunAt gIxG at p
  cases hb : bDic y c.hp with
  | none =>
    rw [hb] at p
    obtain ⟨i, z, rfl, e, q⟩ := gIx_ok (G := gh X N) (W := N.W) (P := fun z μ1 _ H1 => ∀ t, VDen (kwOf X) H1 μ1 z t → Q t H1) (show RunAt (gh X N) N.W (gIx y x) μ c σ H _ from p)
    exact ix_run I R dy (vden_i dx) r1 r2 e (q H (Fz.refl _) R) hs
  | some kvs =>
    rw [hb] at p
    obtain ⟨l, ho, rfl, hr, dp⟩ := bDic_ok R dy hb
    obtain rfl : v' = Value.ref l := r1
    cases x with
    | r _ => exact p.elim
    | o _ => exact p.elim
    | d k =>
      dsimp only at p
      by_cases hf : keyFit kvs k = true
      · rw [if_pos hf] at p
        cases hl : lookD kvs k with
        | none =>
          rw [hl] at p
          exact p.elim
        | some z =>
          rw [hl] at p
          obtain ⟨ty, _, _⟩ := cl_typeIs I dp hr
          exact tail_any ty slot_dict_getitem.lookup (cl_getItem hu I dp hr hf dx r2 hl fun w s' t I' rt rv => ⟨t, H, I', rv, p μ H (List.prefix_refl _) (Fz.refl _) R t rt⟩) hs
      · rw [if_neg hf] at p
        exact p.elim
def mIxG (ma mb : Mo CV) : Mo CV := mBind ma fun x => mBind mb fun y => gIxG (.c x) y
theorem ce_ixg {ma mb : Mo CV} (hu : X.A.units + 100 < cLine) (ha : CE X N a ma) (hb : CE X N b mb) (hs : PlainIx b := by exact fun _ _ => rfl) : CE X N (.Subscript a b pos) (mIxG ma mb) := by
  refine ⟨fun pins s σ H Q I ⟨μ, c, R, p⟩ => ?_⟩
  refine Subscript_ (run2 (f := subscriptTail a b) ha hb I R p fun s2 H2 μ2 c2 x y v w v' w' I2 R2 d1 d2 r1 r2 q => ?_)
  exact ixg_run (y := .c x) hu I2 R2 d1 d2 r1 r2 q (hs _ _)
def mIxNG (i : Nat) (mb : Mo CV) : Mo CV := mBind (mPeek i) fun _ => mBind mb fun y => mBind (mPeek i) fun x => gIxG x y
theorem ce_ixng (i : Nat) {x : Str} {pos' : Pos} {mb : Mo CV} (hu : X.A.units + 100 < cLine) (hb : CE X N b mb) (hN : X.N[i]? = some x := by rfl) (hv : Vis X.env.scope x := by first | exact Or.inl rfl | exact Or.inr (Or.inl rfl) | exact Or.inr (Or.inr rfl)) (hd : (x == ("__debug__" : Str)) = false := by decide)
    (hcd : (x == ("__classdict__" : Str)) = false := by decide) (hs : PlainIx b := by exact fun _ _ => rfl) : CE X N (.Subscript (.Name x pos') b pos) (mIxNG i mb) := by
  refine ⟨fun pins s σ H Q I ⟨μ, c, R, p⟩ => ?_⟩
  obtain ⟨v, y0, hv0, _, p⟩ := peek_there R p
  refine Subscript_ (thn ((pe_var (X := X) (i := i) hN hv hd hcd).run pins s σ H (fun v1 H1 => v1 = v ∧ H1 = H) I ⟨v, hv0, rfl, rfl⟩) fun v' s1 ⟨v1, H1, I1, r1, e1, e2⟩ => ?_)
  subst e1 e2
  refine thn (use_e hb I1 R p.bind) fun w' s2 ⟨w, y, μ2, c2, H2, I2, r2, d2, R2, p2, f2, q2⟩ => ?_
  obtain ⟨v2, y2, hv2, db, q⟩ := peek_there R2 q2
  rw [hv0] at hv2
  cases hv2
  exact ixg_run hu I2 R2 db d2 r1 r2 q (hs _ _)
/-! ### in, not in -/
def gInG (neg : Bool) (x : CV) (y : BV) : Mo CV := fun c => match bDic y c.hp with
  | some kvs => match x with
    | .d k => if keyFit kvs k = true then .ok (.d (.bool (if neg then !(lookD kvs k).isSome else (lookD kvs k).isSome))) c else .no
    | _ => .no
  | none => gIn neg x y c
theorem opb_inG (hu : X.A.units + 100 < cLine) : OpB X N (compareOp .In) (gInG false) := by
  intro pins s σ H μ c x y v w v' w' Q I R d1 d2 r1 r2 p
  have p0 := p
  unfold RunAt gInG at p
  cases hb : bDic y c.hp with
  | none =>
    rw [hb] at p
    exact opb_in hu pins s σ H μ c x y v w v' w' Q I R d1 d2 r1 r2 p
  | some kvs =>
    rw [hb] at p
    obtain ⟨l, ho, rfl, hr, dp⟩ := bDic_ok R d2 hb
    obtain rfl : w' = Value.ref l := r2
    cases x with
    | r _ => exact p.elim
    | o _ => exact p.elim
    | d k =>
      dsimp only at p
      by_cases hf : keyFit kvs k = true
      · rw [if_pos hf] at p
        exact cl_in hu I dp hr hf d1 r1 fun s' I' => ⟨.bl _, H, I', rfl, p μ H (List.prefix_refl _) (Fz.refl _) R _ (vden_bool _)⟩
      · rw [if_neg hf] at p
        exact p.elim
theorem opb_notInG (hu : X.A.units + 100 < cLine) : OpB X N (compareOp .NotIn) (gInG true) := by
  intro pins s σ H μ c x y v w v' w' Q I R d1 d2 r1 r2 p
  have p0 := p
  unfold RunAt gInG at p
  cases hb : bDic y c.hp with
  | none =>
    rw [hb] at p
    exact opb_notIn hu pins s σ H μ c x y v w v' w' Q I R d1 d2 r1 r2 p
  | some kvs =>
    rw [hb] at p
    obtain ⟨l, ho, rfl, hr, dp⟩ := bDic_ok R d2 hb
    obtain rfl : w' = Value.ref l := r2
    cases x with
    | r _ => exact p.elim
    | o _ => exact p.elim
    | d k =>
      dsimp only at p
      by_cases hf : keyFit kvs k = true
      · rw [if_pos hf] at p
        exact cl_notIn hu I dp hr hf d1 r1 fun s' I' => ⟨.bl _, H, I', rfl, p μ H (List.prefix_refl _) (Fz.refl _) R _ (vden_bool _)⟩
      · rw [if_neg hf] at p
        exact p.elim
/-! ### x[k] = v -/
/-- the put itself, the slot i, the key k, the value y -/
def gPutG (i : Nat) (k y : CV) : Mo CV := fun c => match c.sl[i]? with
  | some (.od kvs) => match k, y with
    | .d k, .d z => if keyFit kvs k = true ∧ kvs.length < 16777216 then .ok (.d .none) (cSet i (.od (putD kvs k z)) c) else .no
    | _, _ => .no
  | some (.v (.r n)) => match c.hp[n]? with
    | some (.dic kvs) => match k with
      | .d k => if keyFit kvs k = true ∧ kvs.length < 16777216 then .ok (.d .none) { c with hp := c.hp.set n (.dic (putD kvs k y)) } else .no
      | _ => .no
    | _ => match k with
      | .d (.int j) => onList i (stD j y) (stC j y) c
      | _ => .no
  | _ => match k with
    | .d (.int j) => onList i (stD j y) (stC j y) c
    | _ => .no
theorem put_all (hu : X.A.units + 100 < cLine) {i : Nat} {pins : List (Addr × Obj)} {s : Shared} {σ : LSt} {H : Hp} {o k v : V} {ov iv u : Value} {μ : List Addr} {c : CS} {x y : CV} {P : CV → List Addr → CS → Hp → Prop} (I : Inv X pins σ H s) (ro : RelV o ov) (ri : RelV k iv) (rv : RelV v u) (R : Rel (gh X N) μ c σ H)
    (hv : σ[i]? = some (some o)) (dx : VDen (kwOf X) H μ x k) (dy : VDen (kwOf X) H μ y v) (p : RunAt (gh X N) N.W (gPutG i x y) μ c σ H P) :
    wpAny (model X.prog X.w) X.A (setItem ov iv u) (fun _ s' => ∃ H' c', Inv X pins σ H' s' ∧ Rel (gh X N) μ c' σ H' ∧ P (.d .none) μ c' H') X.xe s := by
  have seq : ∀ j, x = .d (.int j) → RunAt (gh X N) N.W (onList i (stD j y) (stC j y)) μ c σ H P → wpAny (model X.prog X.w) X.A (setItem ov iv u) (fun _ s' => ∃ H' c', Inv X pins σ H' s' ∧ Rel (gh X N) μ c' σ H' ∧ P (.d .none) μ c' H') X.xe s := fun j ex p' => by
    subst ex
    obtain rfl := vden_i dx
    obtain ⟨l, ws, el, hl, h⟩ := onList_ok R hv p'
    subst el
    have fin : ∀ m ws', (∃ c', Rel (gh X N) μ c' σ (upd H l (.lst (ws'.set m v))) ∧ P (.d .none) μ c' (upd H l (.lst (ws'.set m v)))) → H l = some (.lst ws') → ixN ws'.length j = some m → wpAny (model X.prog X.w) X.A (setItem ov iv u) (fun _ s' => ∃ H' c', Inv X pins σ H' s' ∧ Rel (gh X N) μ c' σ H' ∧ P (.d .none) μ c' H') X.xe s := fun m ws' ⟨c', a1, a2⟩ a3 a4 =>
      thn (set_list pins s σ H _ _ v ov iv u (fun H' => ∃ c', Rel (gh X N) μ c' σ H' ∧ P (.d .none) μ c' H') I ro ri rv ⟨l, ws', j, m, rfl, rfl, a3, a4, c', a1, a2⟩) fun _ s' ⟨H', I', c', b1, b2⟩ => ⟨H', c', I', b1, b2⟩
    rcases h with ⟨xs, ys, z, hf, dl, q⟩ | ⟨n, xs, ys, z, hg, dl, q⟩
    · unfold stD at hf
      cases y with
      | r _ => cases hf
      | o _ => cases hf
      | d y =>
        dsimp only at hf
        cases hj : ixN xs.length j with
        | none =>
          rw [hj] at hf
          cases hf
        | some m =>
          rw [hj] at hf
          cases hf
          have f := fz_lst (ws := ws.set m v) hl
          exact fin m ws ⟨_, q _ _ rfl (DenL.set (Den.mono f _ _ dy) m (DenL.mono f _ _ dl))⟩ hl (by rw [dl.length]; exact hj)
    · unfold stC at hg
      cases hj : ixN xs.length j with
      | none =>
        rw [hj] at hg
        cases hg
      | some m =>
        rw [hj] at hg
        cases hg
        have f := fz_lst (ws := ws.set m v) hl
        exact fin m ws ⟨_, q _ _ rfl (vset (VDen.mono f (List.prefix_refl _) dy) m (VDenL.mono f (List.prefix_refl _) dl))⟩ hl (by rw [← Paired.length dl]; exact hj)
  have noInt : (∀ j, x ≠ .d (.int j)) → RunAt (gh X N) N.W (fun c => match x with | .d (.int j) => onList i (stD j y) (stC j y) c | _ => .no) μ c σ H P → False := fun h q => by
    unfold RunAt at q
    cases x with
    | r _ => exact q
    | o _ => exact q
    | d x =>
      cases x with
      | int j => exact h j rfl
      | none => exact q
      | bool _ => exact q
      | str _ => exact q
      | list _ => exact q
      | tuple _ => exact q
      | dict _ => exact q
  have back : RunAt (gh X N) N.W (fun c => match x with | .d (.int j) => onList i (stD j y) (stC j y) c | _ => .no) μ c σ H P → wpAny (model X.prog X.w) X.A (setItem ov iv u) (fun _ s' => ∃ H' c', Inv X pins σ H' s' ∧ Rel (gh X N) μ c' σ H' ∧ P (.d .none) μ c' H') X.xe s := fun q => by
    by_cases h : ∃ j, x = .d (.int j)
    · obtain ⟨j, rfl⟩ := h
      exact seq j rfl q
    · exact (noInt (fun j e => h ⟨j, e⟩) q).elim
  unfold RunAt gPutG at p
  cases e : c.sl[i]? with
  | none =>
    rw [e] at p
    exact back p
  | some sl =>
    rw [e] at p
    cases sl with
    | un => exact back p
    | ol _ => exact back p
    | od kvs =>
      cases x with
      | r _ => exact p.elim
      | o _ => exact p.elim
      | d x =>
        cases y with
        | r _ => exact p.elim
        | o _ => exact p.elim
        | d z =>
          dsimp only at p
          by_cases hf : keyFit kvs x = true ∧ kvs.length < 16777216
          · rw [if_pos hf] at p
            obtain ⟨l, ho, e1, e2, e3, e4, e5⟩ := R.ow i _ e rfl
            rw [hv] at e1
            cases e1
            obtain rfl : ov = Value.ref l := ro
            refine cl_setItem (y := z) hu I (show DicP (kwOf X) H (Den (kwOf X) H) kvs l ho from e3) e2 hf.1 hf.2 dx ri dy rv fun s' ho' I' po => ?_
            have f : Fz H (upd H l ho') := SDen.wr (s := .od kvs) e3 |>.fz e2
            obtain ⟨R1, f1⟩ := R.chOwn (t := .od (putD kvs x z)) (ho := ho') e rfl hv rfl (po (Den (kwOf X) (upd H l ho')) _ f (fun a b q => Den.mono f _ _ q) (Den.mono f _ _ dy))
            exact ⟨_, _, I', R1, p μ _ (List.prefix_refl _) f1 R1⟩
          · rw [if_neg hf] at p
            exact p.elim
    | v w =>
      cases w with
      | d _ => exact back p
      | o _ => exact back p
      | r n =>
        dsimp only at p
        cases hn : c.hp[n]? with
        | none =>
          rw [hn] at p
          exact back p
        | some ob =>
          rw [hn] at p
          cases ob with
          | lst _ => exact back p
          | ins _ _ => exact back p
          | dic kvs =>
            cases x with
            | r _ => exact p.elim
            | o _ => exact p.elim
            | d x =>
              dsimp only at p
              by_cases hf : keyFit kvs x = true ∧ kvs.length < 16777216
              · rw [if_pos hf] at p
                obtain ⟨w, ew, l, el, rfl⟩ := R.vl i _ e
                rw [hv] at ew
                cases ew
                obtain ⟨l', ho, e1, e2, dp⟩ := R.hp n _ hn
                rw [el] at e1
                cases e1
                obtain rfl : ov = Value.ref l := ro
                refine cl_setItem (y := y) hu I (show DicP (kwOf X) H (VDen (kwOf X) H μ) kvs l ho from dp) e2 hf.1 hf.2 dx ri dy rv fun s' ho' I' po => ?_
                have f : Fz H (upd H l ho') := Wr.fz (ODen.wr (G := gh X N) (o := .dic kvs) dp) e2
                obtain ⟨R1, f1⟩ := R.chHp (o' := .dic (putD kvs x y)) (ho := ho') el (po (VDen (kwOf X) (upd H l ho') μ) _ f (fun a b q => VDen.mono f (List.prefix_refl _) q) (VDen.mono f (List.prefix_refl _) dy))
                exact ⟨_, _, I', R1, p μ _ (List.prefix_refl _) f1 R1⟩
              · rw [if_neg hf] at p
                exact p.elim
end
end Cl

set_option Elab.async false
set_option maxRecDepth 100000
set_option maxHeartbeats 2000000
namespace Cl
open PySem PySem.Spec PyProof.Rows L2
section
variable {X : Cx} {N : Wn} {e a b : Expr} {pos : Pos}
def sPutG (i : Nat) (mk me : Mo CV) : MS := sBind me fun y => sBind (mPeek i) fun _ => sBind mk fun k => sBind (gPutG i k y) fun _ => sNx
theorem cs_putG (i : Nat) {x : Str} {p1 p2 : Pos} {mk me : Mo CV} (hu : X.A.units + 100 < cLine) (he : CE X N e me) (hk : CE X N a mk) (hN : X.N[i]? = some x := by rfl) (hv : Vis X.env.scope x := by first | exact Or.inl rfl | exact Or.inr (Or.inl rfl) | exact Or.inr (Or.inr rfl)) (hd : (x == ("__debug__" : Str)) = false := by decide)
    (hcd : (x == ("__classdict__" : Str)) = false := by decide) (hs : swapsWith e (some (.Subscript (.Name x p1) a p2)) pos.line X.env = pure false := by rfl) :
    CS1 X N (.Assign [.Subscript (.Name x p1) a p2] e pos) (sPutG i mk me) := by
  refine ⟨fun pins s σ H D I ⟨μ, c, R, p⟩ => ?_⟩
  refine wpAny_Assign_Subscript (thn (use_e he I R (RunS.bind p)) fun r s1 ⟨v, y, μ1, c1, H1, I1, r1, d1, R1, a1, f1, q1⟩ => ?_) hs
  obtain ⟨o, y0, ho, _, q1⟩ := peek_at R1 (RunS.bind q1)
  refine thn ((pe_var (X := X) (i := i) hN hv hd hcd).run pins s1 σ H1 (fun v1 H2 => v1 = o ∧ H2 = H1) I1 ⟨o, ho, rfl, rfl⟩) fun ov s2 ⟨v1, H2, I2, r2, e1, e2⟩ => ?_
  subst e1 e2
  refine thn (use_e hk I2 R1 (RunS.bind q1)) fun iv s3 ⟨k, x, μ3, c3, H3, I3, r3, d3, R3, a3, f3, q3⟩ => ?_
  refine thn (put_all hu I3 r2 r3 r1 R3 ho d3 (d1.mono f3 a3) (RunS.bind q3)) fun _ s4 ⟨H4, c4, I4, R4, q4⟩ => ?_
  exact ⟨σ, H4, I4, RunS.nx' q4 R4⟩
end
end Cl

set_option Elab.async false
set_option maxRecDepth 100000
set_option maxHeartbeats 2000000
/-! New dicts: {}, {k: v}, comprehensions. -/
namespace Cl
open PySem PySem.Spec PyProof.Rows L2
section
variable {G : Gh} {μ : List Addr} {c : CS} {σ : LSt} {H : Hp}
/-- the ground: what is fixed around, with the new list -/
theorem Rel.onO {K : KW} {mg : Str → Option Value} {B : Hp} {m0 : List Addr} {D : Addr} {u1 : HO} (wu : Wr u1) (R : Rel ⟨K, mg, B, m0⟩ μ c σ H) (hD : H D = none) :
    Rel ⟨K, mg, upd B D u1, m0⟩ μ c σ (upd H D u1) ∧ D ∉ m0 := by
  have f := R.fresh hD
  have R1 := R.same (same_new (o := u1) hD)
  refine ⟨⟨R1.len, R1.vl, fun i s e k => ?_, R1.ap, R1.hl, fun n o e => ?_, R1.nd, R1.pre, fun a h1 h2 => ?_, fun a o h1 h2 => ?_⟩, fun z => f.1 (R.pre.subset z)⟩
  · obtain ⟨a, ho, a1, a2, a3, a4, a5⟩ := R1.ow i s e k
    refine ⟨a, ho, a1, a2, a3, ?_, a5⟩
    obtain ⟨a', ho', b1, b2, _⟩ := R.ow i s e k
    rw [a1] at b1
    cases b1
    show upd B D _ a = none
    rw [upd_ne]
    · exact a4
    · rintro rfl
      rw [hD] at b2
      cases b2
  · obtain ⟨a, ho, a1, a2, a3⟩ := R1.hp n o e
    exact ⟨a, ho, a1, a2, a3.g rfl rfl⟩
  · show upd B D _ a = none
    rw [upd_ne]
    · exact R1.new a h1 h2
    · rintro rfl
      exact f.1 h1
  · have h1 : upd B D _ a = some o := h1
    by_cases ha : a = D
    · subst ha
      rw [upd_same] at h1
      rw [upd_same]
      exact h1
    · rw [upd_ne ha] at h1
      exact R1.fr a o h1 h2
theorem Rel.chO {K : KW} {mg : Str → Option Value} {B : Hp} {m0 : List Addr} {D : Addr} {u1 u2 : HO} (wu : Wr u1) (R : Rel ⟨K, mg, upd B D u1, m0⟩ μ c σ H) (hm : D ∉ m0) :
    H D = some u1 ∧ Rel ⟨K, mg, upd B D u2, m0⟩ μ c σ (upd H D u2) ∧ Fz H (upd H D u2) := by
  have hD : H D = some u1 := R.fr D _ (show upd B D u1 D = _ from upd_same) hm
  have fz : Fz H (upd H D u2) := Wr.fz wu hD
  have Dm : D ∉ μ := fun z => by
    have this : upd B D u1 D = none := R.new D z hm
    rw [upd_same] at this
    cases this
  have ow : ∀ (i : Nat) (s : Sl), c.sl[i]? = some s → s.own = true → ∀ a, σ[i]? = some (some (.ref a)) → a ≠ D := fun i s e k a ha z => by
    obtain ⟨a', ho, a1, a2, a3, a4, a5⟩ := R.ow i s e k
    rw [ha] at a1
    cases a1
    have a4 : upd B D u1 a = none := a4
    rw [z, upd_same] at a4
    cases a4
  refine ⟨hD, ⟨R.len, fun i x e => ?_, fun i s e k => ?_, R.ap, R.hl, fun n o e => ?_, R.nd, R.pre, fun a h1 h2 => ?_, fun a o h1 h2 => ?_⟩, fz⟩
  · obtain ⟨v, a, b⟩ := R.vl i x e
    exact ⟨v, a, b.mono fz (List.prefix_refl _)⟩
  · obtain ⟨a, ho, a1, a2, a3, a4, a5⟩ := R.ow i s e k
    have ne := ow i s e k a a1
    refine ⟨a, ho, a1, by rw [upd_ne ne]; exact a2, a3.mono fz, ?_, a5⟩
    have a4 : upd B D u1 a = none := a4
    rw [upd_ne ne] at a4
    show upd B D _ a = none
    rw [upd_ne ne]
    exact a4
  · obtain ⟨a, ho, a1, a2, a3⟩ := R.hp n o e
    refine ⟨a, ho, a1, ?_, (a3.mono fz (List.prefix_refl _)).g rfl rfl⟩
    rw [upd_ne]
    · exact a2
    · rintro rfl
      exact Dm (List.mem_of_getElem? a1)
  · have := R.new a h1 h2
    have h3 : upd B D u1 a = none := this
    have ne : a ≠ D := fun z => by
      rw [z, upd_same] at h3
      cases h3
    rw [upd_ne ne] at h3
    show upd B D _ a = none
    rw [upd_ne ne]
    exact h3
  · have h1 : upd B D u2 a = some o := h1
    by_cases ha : a = D
    · subst ha
      rw [upd_same] at h1
      rw [upd_same]
      exact h1
    · rw [upd_ne ha] at h1
      rw [upd_ne ha]
      exact R.fr a o (show upd B D u1 a = some o by rw [upd_ne ha]; exact h1) h2
theorem offO_fz {H : Hp} {D : Addr} {u1 : HO} (wu : Wr u1) (h : H D = some u1) : Fz H (offD H D) := by
  refine ⟨fun a xs e => ?_, fun a o u e => ?_⟩
  · rw [offD_ne]
    · exact e
    · rintro rfl
      rw [h] at e
      cases e
      exact wu
  · rw [offD_ne]
    · exact e
    · rintro rfl
      rw [h] at e
      cases e
      exact wu
theorem Rel.offO {K : KW} {mg : Str → Option Value} {B : Hp} {m0 : List Addr} {D : Addr} {u1 : HO} (wu : Wr u1) (R : Rel ⟨K, mg, upd B D u1, m0⟩ μ c σ H) (hm : D ∉ m0) (hB : B D = none) :
    H D = some u1 ∧ Rel ⟨K, mg, B, m0⟩ μ c σ (Cl.offD H D) := by
  have hD : H D = some u1 := R.fr D _ (show upd B D u1 D = _ from upd_same) hm
  have fz := offO_fz wu hD
  have Dm : D ∉ μ := fun z => by
    have this : upd B D u1 D = none := R.new D z hm
    rw [upd_same] at this
    cases this
  refine ⟨hD, ⟨R.len, fun i x e => ?_, fun i s e k => ?_, R.ap, R.hl, fun n o e => ?_, R.nd, R.pre, fun a h1 h2 => ?_, fun a o h1 h2 => ?_⟩⟩
  · obtain ⟨v, a, b⟩ := R.vl i x e
    exact ⟨v, a, b.mono fz (List.prefix_refl _)⟩
  · obtain ⟨a, ho, a1, a2, a3, a4, a5⟩ := R.ow i s e k
    have a4 : upd B D u1 a = none := a4
    have ne : a ≠ D := fun z => by
      rw [z, upd_same] at a4
      cases a4
    rw [upd_ne ne] at a4
    exact ⟨a, ho, a1, by rw [offD_ne ne]; exact a2, a3.mono fz, a4, a5⟩
  · obtain ⟨a, ho, a1, a2, a3⟩ := R.hp n o e
    refine ⟨a, ho, a1, ?_, (a3.mono fz (List.prefix_refl _)).g rfl rfl⟩
    rw [offD_ne]
    · exact a2
    · rintro rfl
      exact Dm (List.mem_of_getElem? a1)
  · have h3 : upd B D u1 a = none := R.new a h1 h2
    have ne : a ≠ D := fun z => by
      rw [z, upd_same] at h3
      cases h3
    rw [upd_ne ne] at h3
    exact h3
  · have ne : a ≠ D := fun z => by
      rw [z] at h1
      have h1 : B D = some o := h1
      rw [hB] at h1
      cases h1
    rw [offD_ne ne]
    exact R.fr a o (show upd B D u1 a = some o by rw [upd_ne ne]; exact h1) h2
end
/-- a new dict -/
def tD (G : Gh) (W : WX) (m : Mo (List (PyData × PyData))) : TE := fun σ H Q => ∃ μ c, Rel G μ c σ H ∧ RunAt G W m μ c σ H fun kvs _ _ H1 => ∀ p ho, H1 p = none → DicP G.K H1 (Den G.K H1) kvs p ho → Q (.ref p) (upd H1 p ho)
abbrev CD (X : Cx) (N : Wn) (e : Expr) (m : Mo (List (PyData × PyData))) : Prop := PE X e (tD (gh X N) N.W m)
section
variable {X : Cx} {N : Wn} {e k v tg iter : Expr} {pos p : Pos}
theorem cd_nil : CD X N (.Dict [] [] pos) (mRet []) := PE.tm pe_dnewK fun σ H Q ⟨μ, c, R, p⟩ q hq => p.ret H (Fz.refl _) R q _ hq (.inl ⟨[], rfl, .nil⟩)
/-- x = {..}: an owned dict -/
def sOwnD (i : Nat) (m : Mo (List (PyData × PyData))) : MS := sBind m fun kvs c => .nx (cSet i (.od kvs) c)
theorem cs_ownD (i : Nat) {x : Str} {py : Pos} {m : Mo (List (PyData × PyData))} (h : CD X N e m) (hN : X.N.Nodup) (hi : X.N[i]? = some x := by rfl) (hx : Loc X.env.scope x := by first | exact Or.inl rfl | exact Or.inr rfl)
    (hs : swapsWith e (some (.Name x py)) pos.line X.env = pure false := by rfl) (hf : X.fn x = true ∨ X.env.scope.names.lookup x = some .local := by first | exact .inl rfl | exact .inr rfl) : CS1 X N (.Assign [.Name x py] e pos) (sOwnD i m) := by
  refine PS.tm (ps_set (i := i) hN hi hx h hs hf) fun D σ H ⟨μ, c, R, p⟩ => ?_
  refine ⟨μ, c, R, (RunS.bind p).imp fun kvs μ1 c1 H1 a b r q t ho ht d => ?_⟩
  have sm : Same H1 (upd H1 t ho) := same_new ht
  have R1 := r.setOwn (i := i) (s := .od kvs) (ho := ho) rfl ht d
  exact RunS.nx' (RunS.up q (List.prefix_refl _) (Fz.same sm)) R1
/-- a new dict as a value: never written again -/
def mFd (m : Mo (List (PyData × PyData))) : Mo CV := mBind m fun kvs => mRet (.d (.dict kvs))
theorem ce_fd {m : Mo (List (PyData × PyData))} (h : CD X N e m) : CE X N e (mFd m) := by
  refine ⟨fun pins s σ H Q I ⟨μ, c, R, p⟩ => ?_⟩
  refine thn (h.run pins s σ H (fun u H2 => ∃ q ho kvs μ1 c1 H1, u = .ref q ∧ H2 = upd H1 q ho ∧ H1 q = none ∧ DicP (kwOf X) H1 (Den (kwOf X) H1) kvs q ho ∧ Rel (gh X N) μ1 c1 σ H1 ∧ RunAt (gh X N) N.W (mRet (CV.d (.dict kvs))) μ1 c1 σ H1 fun x μ1 _ H1 => ∀ w, VDen (kwOf X) H1 μ1 x w → Q w H1)
    I ⟨μ, c, R, (RunAt.bind p).imp fun kvs μ1 c1 H1 a b r q t ho ht d => ⟨t, ho, kvs, μ1, c1, H1, rfl, rfl, ht, d, r, q⟩⟩) fun u s1 ⟨w, H2, I1, r1, q, ho, kvs, μ1, c1, H1, e1, e2, hq, d, r, z⟩ => ?_
  subst e1 e2
  have mu : Mut (upd H1 q ho q) := by
    rw [upd_same]
    exact dic_mut d
  obtain ⟨o, I2⟩ := Inv.lock I1 upd_same (by have := mu; rwa [upd_same] at this)
  rw [upd_upd] at I2
  have sm : Same H1 (upd H1 q (.frz o ho)) := same_new hq
  exact ⟨.ref q, _, I2, r1, z.ret _ (Fz.same sm) (r.same sm) (.ref q) (den_dict (d.mono (Fz.same sm) fun _ _ q => Den.mono (Fz.same sm) _ _ q) upd_same)⟩
/-- .. read on the spot -/
def mBd (m : Mo (List (PyData × PyData))) : Mo BV := mBind m fun x => mRet (.k x)
theorem cb_d {m : Mo (List (PyData × PyData))} (h : CD X N e m) : CB X N e (mBd m) :=
  PE.tm h fun σ H Q ⟨μ, c, R, p⟩ => ⟨μ, c, R, (RunAt.bind p).imp fun kvs μ1 c1 H1 a b r q t ho ht d => by
    have sm : Same H1 (upd H1 t ho) := same_new ht
    exact q.ret _ (Fz.same sm) (r.same sm) (.ref t) ⟨t, ho, rfl, upd_same, d.mono (Fz.same sm) fun _ _ q => Den.mono (Fz.same sm) _ _ q⟩⟩
/-! ### {k: v} -/
def mOne (mk mv : Mo CV) : Mo (List (PyData × PyData)) := fun c => match mk c with
  | .ok (.d k) c1 => match mv c1 with
    | .ok (.d z) c2 => if isSc k || keyOk k then .ok [(k, z)] c2 else .no
    | _ => .no
  | _ => .no
theorem cd_one {mk mv : Mo CV} (hu : X.A.units + 100 < cLine) (hk : CEx X k mk) (hv : CEx X v mv) : CD X N (.Dict [some k] [v] pos) (mOne mk mv) := by
  refine ⟨fun pins s σ H Q I ⟨μ, c, R, p⟩ => ?_⟩
  obtain ⟨kd, c1, zd, c2, e1, e2, ok, p⟩ : ∃ kd c1 zd c2, mk c = .ok (.d kd) c1 ∧ mv c1 = .ok (.d zd) c2 ∧ (isSc kd || keyOk kd) = true ∧ ∀ μ1 H1, μ <+: μ1 → Fz H H1 → Rel (gh X N) μ1 c2 σ H1 → ∀ p ho, H1 p = none → DicP (kwOf X) H1 (Den (kwOf X) H1) [(kd, zd)] p ho → Q (.ref p) (upd H1 p ho) := by
    unfold RunAt mOne at p
    cases e1 : mk c with
    | no =>
      rw [e1] at p
      exact p.elim
    | ex _ _ =>
      rw [e1] at p
      exact p.elim
    | ok x c1 =>
      rw [e1] at p
      cases x with
      | r _ => exact p.elim
      | o _ => exact p.elim
      | d kd =>
        dsimp only at p
        cases e2 : mv c1 with
        | no =>
          rw [e2] at p
          exact p.elim
        | ex _ _ =>
          rw [e2] at p
          exact p.elim
        | ok x c2 =>
          rw [e2] at p
          cases x with
          | r _ => exact p.elim
          | o _ => exact p.elim
          | d zd =>
            dsimp only at p
            by_cases ok : (isSc kd || keyOk kd) = true
            · rw [if_pos ok] at p
              exact ⟨kd, c1, zd, c2, rfl, e2, ok, p⟩
            · rw [if_neg ok] at p
              exact p.elim
  -- the new dict stands empty while the two are made
  have hn := I.hok.fresh (Nat.le_refl s.heap.objs.size)
  have I1 := I.laid (a := s.heap.objs.size) (o := .dK []) (h' := s.heap.push { cls := .type "dict", data := .dict #[] }) (t' := s.toks) (fun _ _ q => Heap.get?_push_of_some _ q) (Nat.le_refl _) (dk_empty s.heap I.big)
  obtain ⟨R1, Dm⟩ := R.onO (u1 := .dK []) trivial hn
  have f1 : Fz H (upd H s.heap.objs.size (.dK [])) := Fz.same (same_new hn)
  have BD : N.B s.heap.objs.size = none := (R.fresh hn).2
  -- both are made
  have run : ∀ {P : List (Value × Value) → Shared → Prop}, (∀ kv vv s3 H3 μ3 tk tv, Inv X pins σ H3 s3 → Rel (gh X ⟨upd N.B s.heap.objs.size (.dK []), N.m0, fun _ _ _ _ => False⟩) μ3 c2 σ H3 → μ <+: μ3 → Fz (upd H s.heap.objs.size (.dK [])) H3 → Den (kwOf X) H3 kd tk → RelV tk kv → Den (kwOf X) H3 zd tv → RelV tv vv → P [(kv, vv)] s3) →
      wpAny (model X.prog X.w) X.A (evalPairs (pairTrees [some k] [v] X.env pos)) P X.xe { s with heap := s.heap.push { cls := .type "dict", data := .dict #[] } } := fun {P} f =>
    pairTrees_cons_walk (thn (use_e (N := ⟨upd N.B s.heap.objs.size (.dK []), N.m0, fun _ _ _ _ => False⟩) (P := fun x μ' c' H' => x = .d kd ∧ c' = c1) (hk _ _) I1 R1 (by
      unfold RunAt
      rw [e1]
      exact fun _ _ _ _ _ => ⟨rfl, rfl⟩)) fun kv s2 ⟨tk, x, μ2, c', H2, I2, r2, d2, R2, a2, b2, ex, ec⟩ => by
      subst ex ec
      refine thn (use_e (N := ⟨upd N.B s.heap.objs.size (.dK []), N.m0, fun _ _ _ _ => False⟩) (P := fun x μ' c' H' => x = .d zd ∧ c' = c2) (hv _ _) I2 R2 (by
        unfold RunAt
        rw [e2]
        exact fun _ _ _ _ _ => ⟨rfl, rfl⟩)) fun vv s3 ⟨tv, x, μ3, c', H3, I3, r3, d3, R3, a3, b3, ex, ec⟩ => ?_
      subst ex ec
      exact pairTrees_nil_walk (f kv vv s3 H3 μ3 tk tv I3 R3 (a2.trans a3) (b2.trans b3) (Den.mono b3 _ _ d2) r2 d3 r3))
  -- the end
  have fin : ∀ {s3 : Shared} {H3 : Hp} {μ3 : List Addr} {ho : HO}, Rel (gh X ⟨upd N.B s.heap.objs.size (.dK []), N.m0, fun _ _ _ _ => False⟩) μ3 c2 σ H3 → μ <+: μ3 → Fz (upd H s.heap.objs.size (.dK [])) H3 → (∀ H4, Fz H3 H4 → DicP (kwOf X) H4 (Den (kwOf X) H4) [(kd, zd)] s.heap.objs.size ho) →
      Inv X pins σ (upd H3 s.heap.objs.size ho) s3 → EP X pins σ Q (.ref s.heap.objs.size) s3 := fun {s3 H3 μ3 ho} R3 a3 b3 dp J => by
    obtain ⟨hD, R4⟩ := R3.offO (u1 := .dK []) trivial Dm BD
    have q := p μ3 _ a3 ((f1.trans b3).trans (offO_fz (u1 := .dK []) trivial hD)) R4 s.heap.objs.size ho offD_same (dp _ (offO_fz (u1 := .dK []) trivial hD))
    have e : upd (Cl.offD H3 s.heap.objs.size) s.heap.objs.size ho = upd H3 s.heap.objs.size ho := by
      funext b
      by_cases hb : b = s.heap.objs.size
      · rw [hb, upd_same, upd_same]
      · rw [upd_ne hb, upd_ne hb, offD_ne hb]
    rw [e] at q
    exact ⟨.ref _, _, J, rfl, q⟩
  rw [Bool.or_eq_true] at ok
  by_cases sc : isSc kd = true
  · refine wpAny_Dict_walk (knd := mixKind X.prog X.w) rfl rfl (by simp) (by simp) (run fun kv vv s3 H3 μ3 tk tv I3 R3 a3 b3 dk rk dv rv => ?_)
    obtain ⟨key, rfl, rfl⟩ := isSc_key sc dk
    obtain ⟨hD, R4⟩ := R3.offO (u1 := .dK []) trivial Dm BD
    obtain ⟨z, hd, vs0, r0, dd⟩ := dk_of I3.hok hD
    cases r0
    refine ⟨[(key, vv)], ?_, dd, fun h' dd' hs => fin (ho := .dK [(key, tv)]) R3 a3 b3 (fun H4 f4 => .inl ⟨_, rfl, .cons ⟨rfl, Den.mono f4 _ _ dv⟩ .nil⟩) ?_⟩
    · first
        | exact ⟨kV_is rk, rfl, trivial⟩
        | exact ⟨rfl, kV_is rk, trivial⟩
        | exact .cons (kV_is rk) .nil
        | exact ⟨kV_is rk, trivial⟩
    · obtain ⟨o, es, ep, g, _⟩ := id dd'
      exact d_write I3 (by rw [hD]; trivial) hs ⟨o, g⟩ (dk_new (by show 1 ≤ sizeLine; decide) hd (.cons ⟨rfl, rv⟩ .nil) dd')
  · have kk : keyOk kd = true := ok.resolve_left sc
    rw [arm_eval_Dict, zip_pairTrees _ _ _ _ rfl rfl, dictDisplay_pairs _ (by simp [pairTrees]) (by simp [pairTrees])]
    refine wpAny_bind (wpAny_standAt (wpAny_bind (wpAny_subDictH (knd := nestedKind X.prog X.w) (Q := fun d s' => wpAny (model X.prog X.w) X.A (pure (Value.ref d)) (EP X pins σ Q) X.xe s') (by show X.A.units + 8 < cLine; omega) (by simp [pairTrees]) (run fun kv vv s3 H3 μ3 tk tv I3 R3 a3 b3 dk rk dv rv => ?_))))
    obtain ⟨b, rfl⟩ := keyOk_ref kk dk
    obtain rfl : kv = Value.ref b := rk
    obtain ⟨hD, R4⟩ := R3.offO (u1 := .dK []) trivial Dm BD
    obtain ⟨hs0, _, kws0, p0, xs0, dd0, pr0⟩ := view_n (R := fun (_ : PyData) (_ : V) => True) (kvs := []) I3 (.inl ⟨[], rfl, .nil⟩) (.inl hD) rfl
    have := paired_nil p0
    subst this
    have := paired_nil pr0
    subst this
    refine ⟨[(nk kd, b, vv)], ⟨rfl, rfl, keyOk_is I3 kk dk, trivial⟩, dd0, fun h' tk' dd' hs => wpAny_pure (fin (ho := DKy X.w s.heap.objs.size [(nk kd, b, tv)]) R3 a3 b3 (fun H4 f4 => .inr ⟨_, rfl, .cons ⟨⟨rfl, kk, Den.mono f4 _ _ dk⟩, Den.mono f4 _ _ dv⟩ .nil⟩) ?_)⟩
    have dd2 : h'.DictOfH (nestedKind X.prog X.w) s.heap.objs.size [(nk kd, b, vv)] := dd'
    obtain ⟨o, es, ep, g, _⟩ := id dd'
    exact d_write I3 (by rw [hD]; trivial) hs ⟨o, g⟩ (dky_new (by show 1 ≤ sizeLine; decide) hs0 dd2 (.cons ⟨rfl, rfl, rv⟩ .nil))
end
end Cl

set_option Elab.async false
set_option maxRecDepth 100000
set_option maxHeartbeats 2000000
/-! Dict comprehensions with ints and texts as keys. -/
namespace Cl
open PySem PySem.Spec PyProof.Rows L2
def compD (g : CV → CS → Option CS) (tt : Mo Bool) (tk tv : Mo CV) (vs : List Nat) : List PyData → List (PyData × PyData) → Mo (List (PyData × PyData))
  | [], acc, c => .ok acc c
  | x :: xs, acc, c => match g (.d x) (wipeC vs c) with
    | none => .no
    | some c1 => match tt c1 with
      | .ok true c2 => match tk c2 with
        | .ok (.d k) c3 => match tv c3 with
          | .ok (.d y) c4 => if isSc k = true ∧ acc.length < 16777216 then compD g tt tk tv vs xs (putD acc k y) c4 else .no
          | _ => .no
        | _ => .no
      | .ok false c2 => compD g tt tk tv vs xs acc c2
      | _ => .no
def mDc (mi : Mo (List PyData)) (g : Tg) (tt : Mo Bool) (tk tv : Mo CV) (vs : List Nat) : Mo (List (PyData × PyData)) := mBind mi fun xs c0 => match compD g.f tt tk tv vs xs [] c0 with
  | .ok acc c => .ok acc (restC vs c0 (wipeC vs c))
  | _ => .no
abbrev DcP (K : KW) (H : Hp) (ys : List (PyData × PyData)) (ws : List (Key × V)) : Prop := Paired (fun p q => p.1 = keyD q.1 ∧ Den K H p.2 q.2) ys ws
theorem DcP.mono {K : KW} {H H' : Hp} {ys : List (PyData × PyData)} {ws : List (Key × V)} (h : DcP K H ys ws) (f : Fz H H') : DcP K H' ys ws := Paired.mapP h fun _ _ q => ⟨q.1, Den.mono f _ _ q.2⟩
section
variable {X : Cx} {N : Wn} {kx vx tg iter e : Expr} {ifs : List Expr} {scope : Scope} {own : List (Str × Nat)} {pos p : Pos} {mi : Mo (List PyData)} {g : Tg} {tt : Mo Bool} {tk tv : Mo CV}
theorem dc_tm {vs : List Nat} (hix : ∀ i, i ∈ g.ix → i ∈ vs) {σ : LSt} {H : Hp} {Q : VK} (h : tD (gh X N) N.W (mDc mi g tt tk tv vs) σ H Q) :
    tDc (tI (gh X N) N.W mi) (tG (kwOf X) X.mg g) (tTx (kwOf X) X.mg tt) (tMx (kwOf X) X.mg tk) (tMx (kwOf X) X.mg tv) vs σ H Q := by
  obtain ⟨μ, c, R, p⟩ := h
  refine ⟨μ, c, R, (RunAt.bind p).imp fun xs μ1 c1 H1 a b r q J ok D hD => ?_⟩
  obtain ⟨rD, Dm⟩ := r.onO (u1 := .dK []) trivial hD
  have BD : N.B D = none := (r.fresh hD).2
  obtain ⟨acc, c9, e9, q⟩ : ∃ acc c9, compD g.f tt tk tv vs xs [] c1 = .ok acc c9 ∧ ∀ μ2 H2, μ1 <+: μ2 → Fz H1 H2 → Rel (gh X N) μ2 (restC vs c1 (wipeC vs c9)) σ H2 → ∀ p ho, H2 p = none → DicP (kwOf X) H2 (Den (kwOf X) H2) acc p ho → Q (.ref p) (upd H2 p ho) := by
    unfold RunAt at q
    dsimp only at q
    cases e : compD g.f tt tk tv vs xs [] c1 with
    | ok acc c9 =>
      rw [e] at q
      exact ⟨acc, c9, rfl, q⟩
    | ex _ _ =>
      rw [e] at q
      exact q.elim
    | no =>
      rw [e] at q
      exact q.elim
  refine ⟨fun i m H' => ∃ ys ws μ' c', i + m = xs.length ∧ Rel ⟨kwOf X, X.mg, upd N.B D (.dK ws), N.m0⟩ μ' (wipeC vs c') (wipe σ vs) H' ∧ μ1 <+: μ' ∧ Fz H1 H' ∧ DcP (kwOf X) H' ys ws ∧ compD g.f tt tk tv vs (xs.drop i) ys c' = .ok acc c9,
    ⟨xs.length, [], [], μ1, c1, by omega, rD.wiped vs, List.prefix_refl _, Fz.same (same_new hD), .nil, e9⟩, ?_⟩
  rintro i m H' ⟨ys, ws, μ', c', em, R', p', f', dl, e'⟩
  by_cases hi : i < xs.length
  · rw [show xs.drop i = xs[i] :: xs.drop (i + 1) from List.drop_eq_getElem_cons hi] at e'
    refine .inr ⟨ok.go i H' hi f', fun H2 => ∃ ys ws μ' c', Rel ⟨kwOf X, X.mg, upd N.B D (.dK ws), N.m0⟩ μ' (wipeC vs c') (wipe σ vs) H2 ∧ μ1 <+: μ' ∧ Fz H1 H2 ∧ DcP (kwOf X) H2 ys ws ∧ compD g.f tt tk tv vs (xs.drop (i + 1)) ys c' = .ok acc c9, ?_, fun x H2 y => ?_⟩
    · rintro H2 ⟨ys, ws, μ2, c2, R2, p2, f2, d2, e2⟩
      exact ⟨m - 1, by omega, ys, ws, μ2, c2, by omega, R2, p2, f2, d2, e2⟩
    · obtain ⟨sm, z, hz, dz⟩ := ok.yld i H' x H2 hi f' y
      cases (List.getElem?_eq_getElem hi).symm.trans hz
      have R2 := R'.same sm
      have f2 := f'.trans (Fz.same sm)
      have dl2 := dl.mono (Fz.same sm)
      unfold compD at e'
      cases hg1 : g.f (.d xs[i]) (wipeC vs c') with
      | none =>
        rw [hg1] at e'
        cases e'
      | some c1' =>
        rw [hg1] at e'
        dsimp only at e'
        refine ⟨upd N.B D (.dK ws), N.m0, μ', wipeC vs c', .d xs[i], c1', R2, dz, hg1, fun σ3 o3 R3 => ?_⟩
        have hw := wipe_out' o3 hix
        refine ⟨hw, upd N.B D (.dK ws), N.m0, μ', c1', R3, ?_⟩
        unfold RunAt
        cases ht : tt c1' with
        | ex _ _ =>
          rw [ht] at e'
          cases e'
        | no =>
          rw [ht] at e'
          cases e'
        | ok k c2 =>
          rw [ht] at e'
          intro μ4 H4 a4 b4 R4
          have dl4 := dl2.mono b4
          cases k with
          | false => exact iteF ⟨ys, ws, μ4, c2, R4.rewipe hw, p'.trans a4, f2.trans b4, dl4, e'⟩
          | true =>
            refine iteT ⟨upd N.B D (.dK ws), N.m0, μ4, c2, R4, ?_⟩
            unfold RunAt
            dsimp only at e'
            cases h5 : tk c2 with
            | ex _ _ =>
              rw [h5] at e'
              cases e'
            | no =>
              rw [h5] at e'
              cases e'
            | ok k5 c5 =>
              rw [h5] at e'
              intro μ5 H5 a5 b5 R5 v5 d5
              cases k5 with
              | r _ => cases e'
              | o _ => cases e'
              | d k5 =>
                dsimp only at e'
                refine ⟨upd N.B D (.dK ws), N.m0, μ5, c5, R5, ?_⟩
                unfold RunAt
                cases h6 : tv c5 with
                | ex _ _ =>
                  rw [h6] at e'
                  cases e'
                | no =>
                  rw [h6] at e'
                  cases e'
                | ok y6 c6 =>
                  rw [h6] at e'
                  intro μ6 H6 a6 b6 R6 v6 d6
                  cases y6 with
                  | r _ => cases e'
                  | o _ => cases e'
                  | d y6 =>
                    dsimp only at e'
                    by_cases hl : isSc k5 = true ∧ ys.length < 16777216
                    · rw [if_pos hl] at e'
                      obtain ⟨key, rfl, rfl⟩ := isSc_key hl.1 d5
                      have dl6 := (dl4.mono b5).mono b6
                      obtain ⟨hD6, R7, f7⟩ := R6.chO (u1 := .dK ws) (u2 := .dK (putK ws key v6)) trivial Dm
                      refine ⟨ws, key, rfl, hD6, by rw [← Paired.length dl6, sizeLine_eq]; exact hl.2, putD ys (keyD key) y6, putK ws key v6, μ6, c6, R7.rewipe hw, p'.trans (a4.trans (a5.trans a6)), ((f2.trans b4).trans (b5.trans b6)).trans f7, ?_, e'⟩
                      exact put_k (dl6.mono f7) key (Den.mono f7 _ _ d6)
                    · rw [if_neg hl] at e'
                      cases e'
  · rw [show xs.drop i = [] from List.drop_eq_nil_of_le (by omega)] at e'
    cases e'
    refine .inl ⟨ok.stop i H' (by omega) f', ?_⟩
    obtain ⟨hD', R2⟩ := R'.offO (u1 := .dK ws) trivial Dm BD
    have fo := offO_fz (u1 := .dK ws) trivial hD'
    have f0 : Fz H1 (Cl.offD H' D) := f'.trans fo
    have R3 : Rel (gh X N) μ' (restC vs c1 (wipeC vs c9)) σ (Cl.offD H' D) := R2.back r.len fun i x e => by
      obtain ⟨v, h1, h2⟩ := r.vl i x e
      exact ⟨v, h1, h2.mono f0 p'⟩
    have fin := q μ' (Cl.offD H' D) p' f0 R3 D (.dK ws) offD_same (.inl ⟨ws, rfl, dl.mono fo⟩)
    rw [offD_upd hD'] at fin
    exact fin
theorem cd_dc (hc : X.calm = true) (hN : X.N.Nodup) (hi : CI X N tg iter mi) (ok : BlkOk X.N X.env.scope scope own) (hix : ∀ i, i ∈ g.ix → i ∈ own.map (·.2))
    (hg : ∀ (s : Shared) (H : Hp) (C : Addr) (cl : List (Str × Addr)) (fp : List Addr), CG (X.blk s H scope (compEnvC scope cl C X.env) fp) tg g)
    (ht : ∀ (s : Shared) (H : Hp) (C : Addr) (cl : List (Str × Addr)) (fp : List Addr), PTs (X.blk s H scope (compEnvC scope cl C X.env) fp) ifs (tTx (kwOf X) X.mg tt))
    (hk : ∀ (s : Shared) (H : Hp) (C : Addr) (cl : List (Str × Addr)) (fp : List Addr), CEx (X.blk s H scope (compEnvC scope cl C X.env) fp) kx tk)
    (hv : ∀ (s : Shared) (H : Hp) (C : Addr) (cl : List (Str × Addr)) (fp : List Addr), CEx (X.blk s H scope (compEnvC scope cl C X.env) fp) vx tv)
    (hs : ∀ x, foldedSetIterable iter X.env x = pure x := by intro _; rfl) : CD X N (.DictComp kx vx [⟨tg, iter, ifs, 0⟩] scope pos) (mDc mi g tt tk tv (own.map (·.2))) :=
  PE.tm (pe_dc hc hN hi ok hg ht (fun s H C cl fp => cex_pe (hk s H C cl fp)) (fun s H C cl fp => cex_pe (hv s H C cl fp)) hs) fun σ H Q => dc_tm hix
/-! ### list(d) -/
theorem keysL {K : KW} {H : Hp} {α : Type} {kvs : List (PyData × α)} {kws : List (Key × V)} {R : α → V → Prop} (h : Paired (fun p q => p.1 = keyD q.1 ∧ R p.2 q.2) kvs kws) : DenL K H (kvs.map (·.1)) (kws.map fun q => kV q.1) := by
  induction h with
  | nil => exact .nil
  | @cons p q _ _ h _ ih => exact .cons (show Den K H p.1 (kV q.1) by rw [h.1]; exact den_key _) ih
theorem keysN {K : KW} {H : Hp} {α : Type} {kvs : List (PyData × α)} {kws : List (NestedKey × Addr × V)} {R : α → V → Prop} (h : Paired (fun p q => (q.1 = nk p.1 ∧ keyOk p.1 = true ∧ Den K H p.1 (.ref q.2.1)) ∧ R p.2 q.2.2) kvs kws) : DenL K H (kvs.map (·.1)) (kws.map fun q => V.ref q.2.1) := by
  induction h with
  | nil => exact .nil
  | @cons p q _ _ h _ ih => exact .cons h.1.2.2 ih
def rListC (K : KW) : List V → Hp → VK → Prop := fun xs H Q => ∃ (d : Addr) (ho : HO) (kvs : List (PyData × CV)) (R : CV → V → Prop), xs = [V.ref d] ∧ Rd H d ho ∧ DicP K H R kvs d ho ∧ ∀ q us, H q = none → DenL K H (kvs.map (·.1)) us → Q (.ref q) (upd H q (.lst us))
theorem cr_listC (hc : X.calm = true) : CallR X (.type "list") (rListC (kwOf X)) := by
  intro pins s σ H xs us Q I r h
  obtain ⟨d, ho, kvs, R, rfl, hr, dp, q⟩ := h
  rw [Vals.ref1 r]
  have fin : ∀ (h' : Heap) (tk : Nat) (acc : Array Value) (c' : Nat) (ws : List V), Vals ws acc.toList → ws.length ≤ sizeLine → DenL (kwOf X) H (kvs.map (·.1)) ws → (∀ b o, s.heap.get? b = some o → h'.get? b = some o) → h'.get? s.heap.objs.size = some { cls := .type "list", data := .seq acc c' } →
      EP X pins σ Q (.ref s.heap.objs.size) { s with heap := h', toks := tk } := fun h' tk acc c' ws v hz dl kp e =>
    ⟨.ref _, _, I.laid kp (Nat.le_refl _) (show ObjOk X.prog X.w _ h' _ (.lst ws) from ⟨hz, acc.toList, c', v, by rw [Array.toArray_toList]; exact e⟩), rfl, q _ ws (I.hok.fresh (Nat.le_refl _)) dl⟩
  have raw : ∀ {es : Array DictEntry} {ep : Nat} {o : Obj} (ws : List V), (d == sysModules) = false → s.heap.get? d = some o → o.ExactDict → o.data = .dict es ep → es.size = ws.length → ws.length ≤ sizeLine → (∀ (i : Nat) (w : V) (en : DictEntry), ws[i]? = some w → es[i]? = some en → RelV w en.key) → DenL (kwOf X) H (kvs.map (·.1)) ws →
      wpAny (model X.prog X.w) X.A (call (.type "list") [.ref d]) (EP X pins σ Q) X.xe s := fun {es ep o} ws hs g ex dt hsz hl rel dl => by
    refine PySem.W.kdl_call (kdl_raw hs ex dt) (I.ok.hd hc) g (by omega) fun h' tk acc c' kp e it => fin h' tk acc c' ws (vals_of_at (by have h1 := it.1; have h2 := Array.length_toList (xs := acc); omega) fun j x u h1 h2 => ?_) hl dl kp e
    obtain ⟨en, hen, hv⟩ := it.2 j u (by rw [← Array.getElem?_toList]; exact h2)
    rw [hv]
    exact rel j x en h1 hen
  rcases dp with ⟨kws, rfl, pp⟩ | ⟨kws, rfl, pp⟩
  · obtain ⟨z, hs, vs, kv, o, es, ep, g, ex, dt, _, pr, _⟩ := dk_rd I.hok hr
    have l1 : kws.length = vs.length := Paired.length kv
    have l2 : es.size = vs.length := by
      have := pr.length
      rw [Array.length_toList] at this
      exact this
    refine raw (kws.map fun q => kV q.1) hs g ex dt (by rw [List.length_map]; omega) (by rw [List.length_map]; exact z) (fun i w en h1 h2 => ?_) (keysL pp)
    rw [List.getElem?_map] at h1
    cases hq : kws[i]? with
    | none =>
      rw [hq] at h1
      cases h1
    | some q =>
      rw [hq] at h1
      cases h1
      obtain ⟨y, hy, e1, _⟩ := pair_at kv hq
      have := (pr.get? (e := en) (by rw [Array.getElem?_toList]; exact h2) hy).1
      show RelV (kV q.1) en.key
      rw [e1]
      exact keyIs_rel this
  · obtain ⟨z, hs, _, xs, o, es, ep, pr, g, ex, dt, he⟩ := rd_rows I hr
    have l1 := Paired.length pr
    have l2 : es.size = xs.length := by rw [← Array.length_toList, he, List.length_map]
    refine raw (kws.map fun q => V.ref q.2.1) hs g ex dt (by rw [List.length_map]; omega) (by rw [List.length_map]; exact z) (fun i w en h1 h2 => ?_) (keysN pp)
    rw [List.getElem?_map] at h1
    cases hq : kws[i]? with
    | none =>
      rw [hq] at h1
      cases h1
    | some q =>
      rw [hq] at h1
      cases h1
      obtain ⟨y, hy, _, e2, _⟩ := pair_at pr hq
      rw [← Array.getElem?_toList, he, List.getElem?_map, hy] at h2
      cases h2
      show Value.ref y.2.1 = Value.ref q.2.1
      rw [e2]
/-- list(x): of a list, a tuple, a dict's keys -/
def bSeqD (y : BV) (hp : List CO) : Option (List PyData) := match bDic y hp with
  | some kvs => some (kvs.map (·.1))
  | none => bSeq y hp
def gLstD : BV → Mo (List PyData) := gO bSeqD id
theorem ans_lstD : AnsF X N (fun xs H Q => (∃ p ys, xs = [.ref p] ∧ (SqL X.K H p ys ∨ SqT X.K H p ys) ∧ ∀ l, H l = none → Q (.ref l) (upd H l (.lst ys))) ∨ rListC (kwOf X) xs H Q) gLstD := by
  intro y v μ c σ H Q R d p
  obtain ⟨xs, e, q⟩ := gO_ok p
  unfold bSeqD at e
  cases hb : bDic y c.hp with
  | none =>
    rw [hb] at e
    obtain ⟨l, vs, rfl, s, dl⟩ := bSeq_ok R d e
    exact .inl ⟨l, vs, rfl, s, fun t ht => q H (Fz.refl _) R t vs ht dl⟩
  | some kvs =>
    rw [hb] at e
    cases e
    obtain ⟨l, ho, rfl, hr, dp⟩ := bDic_ok R d hb
    exact .inr ⟨l, ho, kvs, _, rfl, hr, dp, fun t us ht dl => q H (Fz.refl _) R t us ht dl⟩
theorem cf_lstd {m : Mo BV} (hc : X.calm = true) (hb : CB X N e m) (hm : X.mg "list" = none) (hg : Gl X "list" := by rfl) (hs : starEach [e] X.env = (false, eval e X.env) :: starEach [] X.env := by rfl) :
    CF X N (.Call (.Name "list" p) [e] [] pos) (mBind m gLstD) :=
  call1f (fun ha => pe_callTy (CallR.or call_list_of (cr_listC hc)) hg hm (by rfl) ha (he := hs)) hb ans_lstD hs
end
end Cl

set_option Elab.async false
set_option maxRecDepth 100000
set_option maxHeartbeats 2000000
/-! raise; index; * of lists and tuples; == of what is read on the spot. -/
namespace Cl
open PySem PySem.Spec PyProof.Rows L2
section
variable {X : Cx} {N : Wn} {e a b : Expr} {pos : Pos}
/-! ### raise C('..') -/
/-- what must be known of an own exception class without own __init__ -/
structure ExcK (K : PySem.W.Frag) (mg : Str → Option Value) (x : Str) (C : Addr) : Prop where
  gC : mg x = some (.ref C)
  kC : PySem.W.keepIn K (.ref C) = true
  xF : PySem.W.excIn K C [.type "Exception", .type "BaseException", .type "object"] "Exception.__new__" = true
  bF : PySem.W.subIn K (.ref C) (.type "BaseException") = some true
  tF : PySem.W.typeIn K (.ref C) = some (.type "type")
def sRaise (x : Str) : MS := fun c => .ex ⟨x, []⟩ c
theorem cs_raise {x m : Str} {C : Addr} {j : Nat} {p p2 pos2 : Pos} (hc : X.calm = true) (tk : L2N.Takes X N.W) (h : ExcK X.K X.mg x C) (hg : Gl X x := by rfl) (hdb : (x == ("__debug__" : Str)) = false := by decide) :
    CS1 X N (.Raise (some (.Call (.Name x p) [.Constant (.str m) j p2] [] pos2)) none pos) (sRaise x) :=
  PS.tm (L2N.ps_raise hc tk (L2N.pmk_own PySem.F.excBase_Exception h.xF h.gC h.kC (raises_own h.bF h.tF) hg hdb)) fun D σ H ⟨μ, c, R, p⟩ =>
    p μ σ (.ref C) none H (List.prefix_refl _) (Fz.refl _) R ⟨h.gC, .inl ⟨rfl, rfl⟩⟩
/-! ### xs.index(x) -/
def rIndexC (K : KW) : V → List V → Hp → VK → Prop := fun x xs H Q => ∃ (l : Addr) (y : V) (ds : List PyData) (ws : List V) (d : PyData) (j : Nat), x = .ref l ∧ xs = [y] ∧ SqL K.K H l ws ∧ DenL K H ds ws ∧ Den K H d y ∧ PyData.plainAll ds = true ∧ d.plain = true ∧ min (PyData.depthAll ds) d.depth ≤ 60 ∧
  SeqAt.dataPlace ds d = some j ∧ Q (.int (j : Nat)) H
theorem mt_indexC (hu : X.A.units + 100 < cLine) : MtR X "list.index" (rIndexC (kwOf X)) := by
  intro pins s σ H x xs v us Q I rx rxs h
  obtain ⟨l, y, ds, ws, d, j, rfl, rfl, hs, dl, dy, p1, p2, p3, hj, q⟩ := h
  obtain rfl : v = Value.ref l := rx
  obtain ⟨u, rfl, ru⟩ := rxs.one
  obtain ⟨its, rv, ⟨⟨cls, dd, data, sl⟩, n, ho, hc, _, hd⟩, hz⟩ := I.list hs
  simp only at hc hd
  subst hc hd
  obtain ⟨as, ra⟩ := DenL.reads I ds ws its p1 dl rv
  obtain ⟨bs, rb⟩ := dy.reads I _ _ _ p2 ru
  obtain ⟨h1, h2, h3⟩ := SeqAt.hit_at (vs := its.toArray) (show ReadsAll s.heap its.toArray.toList ds as from ra) p1 hj
  have hlen : its.length ≤ sizeLine := by rw [← rv.length]; exact hz
  have hsl := sizeLine_eq
  refine call_meets PySem.F.slot_list_index ⟨_, ho, rfl⟩ PySem.F.entry_list_index (PySem.F.args_list_index_2 _ _)
    (SeqAt.list_indexAt l its.toArray n dd sl u (fun z => PyData.eqv (SeqAt.readOf s.heap z) d) j h1 (by rw [List.size_toArray] at h1; omega) h2 h3)
    ⟨ho, SeqAt.items_plain (vs := its.toArray) (show ReadsAll s.heap its.toArray.toList ds as from ra) rb p1 p2 (by omega), ⟨.int (j : Nat), H, I.tok _, ⟨_, rfl⟩, q⟩⟩
def bIndex (y : BV) (d : PyData) (hp : List CO) : Option Nat := match bLst y hp with
  | some xs => if PyData.plainAll xs = true ∧ d.plain = true ∧ min (PyData.depthAll xs) d.depth ≤ 60 then SeqAt.dataPlace xs d else none
  | none => none
def gIndex (y : BV) (x : CV) : Mo CV := match x with
  | .d d => gO (fun z hp => bIndex z d hp) (fun j => .d (.int (j : Nat))) y
  | _ => fun _ => .no
theorem index_ok {y : BV} {x : CV} {v w : V} {μ : List Addr} {c : CS} {σ : LSt} {H : Hp} {Q : VK} (R : Rel (gh X N) μ c σ H) (d1 : BDen (kwOf X) H μ y v) (d2 : VDen (kwOf X) H μ x w) (p : RunAt (gh X N) N.W (gIndex y x) μ c σ H fun z μ1 _ H1 => ∀ t, VDen (kwOf X) H1 μ1 z t → Q t H1) :
    rIndexC (kwOf X) v [w] H Q := by
  cases x with
  | r _ => exact p.elim
  | o _ => exact p.elim
  | d d =>
    obtain ⟨j, e, q⟩ := gO_ok (f := fun z hp => bIndex z d hp) (g := fun j : Nat => CV.d (.int (j : Nat))) p
    unfold bIndex at e
    cases h : bLst y c.hp with
    | none =>
      rw [h] at e
      cases e
    | some xs =>
      rw [h] at e
      dsimp only at e
      by_cases hp : PyData.plainAll xs = true ∧ d.plain = true ∧ min (PyData.depthAll xs) d.depth ≤ 60
      · rw [if_pos hp] at e
        obtain ⟨l, ws, rfl, s, dl⟩ := bLst_ok R d1 h
        exact ⟨l, w, xs, ws, d, j, rfl, rfl, s, dl, d2, hp.1, hp.2.1, hp.2.2, e, q H (Fz.refl _) R _ (vden_int _)⟩
      · rw [if_neg hp] at e
        cases e
/-- the name holds a list -/
def chkLst (y : BV) : Mo Unit := fun c => match bLst y c.hp with
  | some _ => .ok () c
  | none => .no
theorem chkLst_ok {α : Type} {y : BV} {f : Unit → Mo α} {μ : List Addr} {c : CS} {σ : LSt} {H : Hp} {v : V} {P : α → List Addr → CS → Hp → Prop} (R : Rel (gh X N) μ c σ H) (d : BDen (kwOf X) H μ y v) (p : RunAt (gh X N) N.W (mBind (chkLst y) f) μ c σ H P) :
    tyV X.K "list" v H ∧ RunAt (gh X N) N.W (f ()) μ c σ H P := by
  have q := p.bind
  unfold RunAt chkLst at q
  cases h : bLst y c.hp with
  | none =>
    rw [h] at q
    exact q.elim
  | some xs =>
    rw [h] at q
    obtain ⟨l, ws, rfl, s, dl⟩ := bLst_ok R d h
    exact ⟨.inl ⟨rfl, _, s⟩, q μ H (List.prefix_refl _) (Fz.refl _) R⟩
def mIndexN (i : Nat) (ma : Mo CV) : Mo CV := mBind (mPeek i) fun y => mBind (chkLst y) fun _ => mBind ma fun x => mBind (mPeek i) fun y => gIndex y x
theorem ce_indexN (i : Nat) {x : Str} {p1 apos : Pos} {ma : Mo CV} (hu : X.A.units + 100 < cLine) (ha : CE X N a ma) (hN : X.N[i]? = some x := by rfl) (hv : Vis X.env.scope x := by first | exact Or.inl rfl | exact Or.inr (Or.inl rfl) | exact Or.inr (Or.inr rfl)) (hd : (x == ("__debug__" : Str)) = false := by decide)
    (hcd : (x == ("__classdict__" : Str)) = false := by decide)
    (hbase : attributeBase (.Name x p1) "index" X.env (eval (.Name x p1) X.env) = eval (.Name x p1) X.env := by rfl)
    (hfew : ((backTo pos (starEach (a :: []) X.env)).all (fun x => !x.1) && (backToKw pos (keywordEach [] X.env)).all (fun x => x.1.isSome)
      && decide ((a :: []).length + ([] : List Keyword).length + (if ([] : List Keyword).isEmpty then 0 else 1) < 30)) = true := by rfl)
    (hline : (apos.endLine == pos.line) = true := by rfl) (hs : starEach (a :: []) X.env = (false, eval a X.env) :: starEach [] X.env := by rfl) :
    CE X N (.Call (.Attribute (.Name x p1) "index" apos) [a] [] pos) (mIndexN i ma) := by
  refine PE.tm (pe_bm PySem.F.plainAttrs_list PySem.F.slot_list_index PySem.F.type_list_index (mt_indexC hu) (pe_var (X := X) (i := i) hN hv hd hcd) (pa_cons ha pa_nil hs) hbase hfew hline hs) fun σ H Q ⟨μ, c, R, p⟩ => ?_
  obtain ⟨v, y, hv0, db, p⟩ := peek_there R p
  obtain ⟨ty, p⟩ := chkLst_ok R db p
  refine ⟨v, hv0, ty, μ, c, R, (RunAt.bind p).imp fun z μ1 c1 H1 a1 b1 r1 q w d => ?_⟩
  obtain ⟨v2, y2, hv2, db2, q⟩ := peek_there r1 q
  cases hv0.symm.trans hv2
  exact index_ok r1 db2 d q
/-! ### lists and tuples times n -/
def pMulT (x y : PyData) : Option PyData := match x, y with
  | .tuple xs, .int k => if xs ≠ [] ∧ 2 ≤ k ∧ k ≤ 1000 ∧ xs.length ≤ 1000 then some (.tuple (List.replicate k.toNat xs).flatten) else none
  | x, y => pMul x y
theorem denL_flat {K : KW} {H : Hp} {xs : List PyData} {vs : List V} (d : DenL K H xs vs) : ∀ n : Nat, DenL K H (List.replicate n xs).flatten (List.replicate n vs).flatten
  | 0 => .nil
  | n + 1 => by
    rw [List.replicate_succ, List.replicate_succ, List.flatten_cons, List.flatten_cons]
    exact DenL.append d (denL_flat d n)
theorem opp_mulT : OpP X (binaryOp .Mult) pMulT := by
  intro pins s σ H x y z v w v' w' Q I d1 d2 r1 r2 e q
  by_cases h : ∃ xs k, x = .tuple xs ∧ y = .int k
  · obtain ⟨xs, k, rfl, rfl⟩ := h
    unfold pMulT at e
    dsimp only at e
    by_cases hh : xs ≠ [] ∧ 2 ≤ k ∧ k ≤ 1000 ∧ xs.length ≤ 1000
    · rw [if_pos hh] at e
      cases e
      simp only [Den] at d1 d2
      obtain ⟨l, vs, rfl, sq, dl⟩ := d1
      subst d2
      refine op_repT pins s σ H _ _ v' w' Q I r1 r2 ⟨l, k, vs, rfl, rfl, sq, ?_, hh.2.1, hh.2.2.1, by rw [dl.length]; exact hh.2.2.2, fun p hp => ?_⟩
      · intro z
        apply hh.1
        have := dl.length
        rw [z] at this
        exact List.length_eq_zero_iff.mp this.symm
      · have sm : Same H (upd H p (.tup (List.replicate k.toNat vs).flatten)) := same_new hp
        exact q _ _ sm (den_tup (denL_flat (DenL.mono (Fz.same sm) _ _ dl) _) (SqT.of upd_same))
    · rw [if_neg hh] at e
      cases e
  · refine opp_mul pins s σ H x y z v w v' w' Q I d1 d2 r1 r2 ?_ q
    unfold pMulT at e
    cases x with
    | tuple xs =>
      cases y with
      | int k => exact absurd ⟨xs, k, rfl, rfl⟩ h
      | _ => exact e
    | _ => exact e
def gRepL (k : Int) (xs : List PyData) : Mo (List PyData) := fun c => if 0 ≤ k ∧ k ≤ 1000 ∧ xs.length ≤ 1000 then .ok (List.replicate k.toNat xs).flatten c else .no
/-- [..] * k -/
theorem cf_mul {m : Mo (List PyData)} {k : Int} {j : Nat} {p2 : Pos} (ha : CF X N a m) : CF X N (.BinOp a .Mult (.Constant (.int k) j p2) pos) (mBind m (gRepL k)) :=
  PE.tm (pe_op op_rep ha pe_int) fun σ H Q ⟨μ, c, R, p⟩ => ⟨μ, c, R, (RunAt.bind p).imp fun xs μ1 c1 H1 a1 b1 r1 q t vs ht dl => by
    unfold RunAt gRepL at q
    by_cases hk : 0 ≤ k ∧ k ≤ 1000 ∧ xs.length ≤ 1000
    · rw [if_pos hk] at q
      have sm : Same H1 (upd H1 t (.lst vs)) := same_new ht
      refine ⟨t, k, vs, rfl, rfl, upd_same, by omega, by omega, ?_, fun z hz => ?_⟩
      · rw [dl.length, sizeLine_eq]
        have h1 : k.toNat ≤ 1000 := by omega
        have h2 := Nat.mul_le_mul hk.2.2 h1
        omega
      · exact q μ1 _ (List.prefix_refl _) (Fz.same sm) (r1.same sm) z _ hz (denL_flat (DenL.mono (Fz.same sm) _ _ dl) _)
    · rw [if_neg hk] at q
      exact q.elim⟩
end
end Cl

set_option Elab.async false
set_option maxRecDepth 100000
set_option maxHeartbeats 2000000
/-! Within an except suite: lists are walked to their end, summed; [int(one) for one in bools]. -/
namespace Cl
open PySem PySem.Spec PyProof.Rows L2
section
variable {prog : Program} {w : World} {A : Around} {E : Value → Shared → Prop} {s : Shared}
theorem list_end_hot {it l x1 : Addr} {i : Nat} {items : Array Value} {Q : Option Value → Shared → Prop} (hot : HotX.HotAt A x1 s.heap) (hit : s.heap.IsListIter it l i) (hl : s.heap.IsList l items) (hx : items[i]? = none) (hne : x1 ≠ it)
    (hQ : ∀ h' tk, (∀ b o, b ≠ it → s.heap.get? b = some o → h'.get? b = some o) → Q none { s with heap := h', toks := tk }) : wpAny (model prog w) A (pyNext (.ref it)) Q E s := by
  have ty := hit.typeIs
  obtain ⟨o, ho, hc, hd⟩ := hit
  obtain ⟨ol, hol, _, nl, hdl⟩ := hl
  obtain ⟨hh, o1, vs1, g1, d1, c1⟩ := hot
  unfold pyNext
  refine wpAny_bind (wpAny_attempt (wpAny_callSpecial?_slot (name := Str.ofString "__next__") ty slot_listiter_next (wpAny_call_entry slot_listiter_next ty entry_listiter_next ?_ (args_listiter_next _))))
  show wpAny _ _ (field (.ref it) 0 >>= _) _ _ s
  refine wpAny_bind (wpAny_field ho hd (x := .ref l) rfl ?_)
  show wpAny _ _ (if (Value.ref l == Value.none) = true then _ else _) _ _ s
  rw [if_neg (show ¬ ((Value.ref l == Value.none) = true) from Bool.false_ne_true)]
  show wpAny _ _ (field (.ref it) 1 >>= _) _ _ s
  refine wpAny_bind (wpAny_field ho hd (x := .int i 0) rfl ?_)
  show wpAny _ _ (seqItems? (.ref l) >>= _) _ _ s
  refine wpAny_bind (wpAny_seqItems hol hdl ?_)
  simp only [Int.toNat_natCast, hx]
  refine wpAny_bind (wpAny_rule (wpAny_bind (wpAny_setField ho hd (by simp) ?_)))
  have up : ∀ b o, b ≠ it → s.heap.get? b = some o → (s.heap.update it (Obj.mapFields (·.setIfInBounds 0 Value.none))).get? b = some o := fun b o hb e => (Heap.get?_update_other _ _ (Ne.symm hb)).trans e
  show wpAny _ _ (newExc (.type "StopIteration") [] >>= _) _ _ _
  refine wpAny_bind ?_
  simp only [newExc, newTuple]
  refine wpAny_bind (wpAny_newObj_type ?_ (by size_fits))
  refine wpAny_bind (m := firstArgMember _ _) (wpAny_of_eq (a := Value.none) (by first | rfl | (simp only [firstArgMember]; rfl)) ?_)
  refine wpAny_newObj_type ?_ (by size_fits)
  have g2 := Heap.get?_push_of_some { cls := .type "tuple", data := .seq #[] } (up x1 o1 hne g1)
  refine HotX.raiseNew_hot ⟨hh, o1, vs1, Heap.get?_push_of_some _ g2, d1, c1⟩ (Nat.ne_of_lt (Heap.lt_size g2)) (Heap.get?_push_size _ rfl) rfl (by first | (simp; done) | (simp; omega) | (simp only [Array.size_append]; simp; omega)) ?_
  refine wpAny_bind (wpAny_isInstance (T := "StopIteration") (b := true) ⟨_, Heap.get?_update_self _ (Heap.get?_push_size _ rfl) rfl, rfl⟩ isSubtype_stop ?_)
  refine wpAny_pure (hQ _ _ fun b o hb e => ?_)
  have e2 := Heap.get?_push_of_some { cls := .type "tuple", data := .seq #[] } (up b o hb e)
  rw [Heap.get?_update_other _ _ (Nat.ne_of_gt (Heap.lt_size e2))]
  exact Heap.get?_push_of_some _ e2
/-- a list is walked -/
theorem walksH {I l x1 : Addr} {items : Array Value} {o1 : Obj} {vs1 : Array Value} (hh : A.handled = some (.ref x1)) (d1 : o1.data = .fields vs1) (c1 : vs1[2]? = some .none) (hne : l ≠ I) (hx : x1 ≠ I) :
    Walks prog w A I [I, l, x1] [I] items.size (fun i v => items[i]? = some v) (fun i h => h.IsListIter I l i ∧ h.IsList l items ∧ h.get? x1 = some o1) where
  sub := fun b hb => by
    rw [List.mem_singleton.mp hb]
    exact .head _
  frame := fun _ _ _ st hk => ⟨st.1.at fun o e => hk I (by simp) o e, st.2.1.at fun o e => hk l (by simp) o e, hk x1 (by simp) _ st.2.2⟩
  item := fun i s Q E hi st hQ => by
    refine wpAny_pyNext_list_item st.1 st.2.1 (x := items[i]) (by simp [hi]) fun h' hit' hs' => ?_
    exact hQ _ h' s.toks (by simp [hi]) ⟨hit', st.2.1.extBut hs'.extBut hne, (hs'.extBut x1 _ hx st.2.2)⟩ fun b o hb e => hs'.extBut b o (fun h => hb (by simp [h])) e
  done := fun s Q E st hQ => list_end_hot ⟨hh, o1, vs1, st.2.2, d1, c1⟩ st.1 st.2.1 (by simp) hx fun h' tk k => hQ h' tk fun b o hb e => k b o (fun h => hb (by simp [h])) e
  self := fun _ _ _ _ st hQ => wpAny_pyIter_listiter st.1 hQ
end
/-- the context bears a handled exception whose own context is None -/
structure Hot (X : Cx) (a : Addr) (oe : Obj) : Prop where
  hd : X.A.handled = some (.ref a)
  pin : (a, oe) ∈ X.pn
  cx : ∃ vs : Array Value, oe.data = .fields vs ∧ vs[2]? = some .none
section
variable {X : Cx} {a : Addr} {oe : Obj} {pins : List (Addr × Obj)} {σ : LSt} {H : Hp} {s : Shared}
theorem Hot.get (h : Hot X a oe) (I : Inv X pins σ H s) : s.heap.get? a = some oe := (I.pin (a, oe) (List.mem_append_left _ h.pin)).1
/-- iter(l), then the walk -/
theorem iterH (h : Hot X a oe) (I : Inv X pins σ H s) {A : Around} (eA : A.handled = X.A.handled) {l : Addr} {items : Array Value} {Q : Value → Shared → Prop} {E : Value → Shared → Prop} (hl : s.heap.IsList l items)
    (k : ∀ s2 : Shared, s2 = { s with heap := s.heap.push { cls := .type "list_iterator", data := .fields #[.ref l, .int 0 0] } } → Walks X.prog X.w A s.heap.objs.size [s.heap.objs.size, l, a] [s.heap.objs.size] items.size (fun i v => items[i]? = some v) (fun i h => h.IsListIter s.heap.objs.size l i ∧ h.IsList l items ∧ h.get? a = some oe) →
      (s2.heap.IsListIter s.heap.objs.size l 0 ∧ s2.heap.IsList l items ∧ s2.heap.get? a = some oe) → (∀ b ∈ [s.heap.objs.size, l, a], b < s2.heap.objs.size) → Q (.ref s.heap.objs.size) s2) : wpAny (model X.prog X.w) A (pyIter (.ref l)) Q E s := by
  have ha := h.get I
  have lt : l < s.heap.objs.size := by
    obtain ⟨_, e, _⟩ := hl
    exact Heap.lt_size e
  have la := Heap.lt_size ha
  obtain ⟨vs, d1, c1⟩ := h.cx
  refine wpAny_pyIter_list hl (k _ rfl (walksH (by rw [eA]; exact h.hd) d1 c1 (Nat.ne_of_lt lt) (Nat.ne_of_lt la)) ⟨⟨_, Heap.get?_push_size _ rfl, rfl, rfl⟩, hl.push _, Heap.get?_push_of_some _ ha⟩ fun b hb => ?_)
  show b < (s.heap.push _).objs.size
  rw [Heap.size_push]
  rcases List.mem_cons.mp hb with q | hb
  · rw [q]
    exact Nat.lt_succ_self _
  · rcases List.mem_cons.mp hb with q | hb
    · rw [q]
      exact Nat.lt_succ_of_lt lt
    · rw [List.mem_singleton.mp hb]
      exact Nat.lt_succ_of_lt la
theorem cr_sumH (h : Hot X a oe) : CallR X (.builtin "sum") (rSum X.K) := by
  intro pins s σ H vs us Q I r hq
  obtain ⟨l, ns, rfl, hs, q⟩ := hq
  obtain ⟨its, rv, hl, _⟩ := I.list hs
  rw [Vals.ref1 r]
  have hi := rv.ints
  obtain ⟨xs, e⟩ := hi.allInts.items
  have hn : numsOf (intItems xs).toList = ns := by rw [← e]; exact hi.numsOf
  rw [nums_intItems] at hn
  have hl2 : s.heap.IsList l (intItems xs) := by rw [← e]; exact hl.isList
  refine call_sum_walkG (iterH h I (A := X.A.in1) rfl hl2 fun s2 e2 W st fp => ⟨_, _, _, _, _, _, numAt xs, rfl, W, st, fp, (fun _ _ => intItems_at), fun h' tk t' hk => ?_⟩)
  subst e2
  have ez : preSum (numAt xs) (intItems xs).size = ns.sum := by
    have : (intItems xs).size = xs.size := by simp [intItems]
    rw [this, preSum_eq, List.take_of_length_le (by simp), hn]
  rw [ez]
  refine ⟨.int ns.sum, H, I.kept fun b o eo => hk b o (fun hm => ?_) (Heap.get?_push_of_some _ eo), ⟨_, rfl⟩, q⟩
  rw [List.mem_singleton.mp hm] at eo
  exact absurd (Heap.lt_size eo) (Nat.lt_irrefl _)
end
end Cl

set_option Elab.async false
set_option maxRecDepth 100000
set_option maxHeartbeats 2000000
namespace Cl
open PySem PySem.Spec PyProof.Rows L2
def b2z (b : Bool) : Int := if b then 1 else 0
def tLcH (K : PySem.W.Frag) (t : TE) : TE := fun σ H Q => t σ H fun v H1 => ∃ (l : Addr) (bs : List Bool), v = .ref l ∧ SqL K H1 l (bs.map V.bl) ∧ ∀ q, H1 q = none → Q (.ref q) (upd H1 q (.lst (bs.map fun b => V.int (b2z b))))
section
variable {X : Cx} {a : Addr} {oe : Obj}
theorem bools_at {bs : List Bool} {its : List Value} (e : its = bs.map Value.bool) {i : Nat} {v : Value} (h : its.toArray[i]? = some v) : ∃ b, v = .bool b := by
  rw [List.getElem?_toArray, e, List.getElem?_map] at h
  cases hb : bs[i]? with
  | none =>
    rw [hb] at h
    cases h
  | some b =>
    rw [hb] at h
    cases h
    exact ⟨b, rfl⟩
theorem pe_lcH {iter : Expr} {one : Str} {t : TE} {scope : Scope} {p1 p2 p3 p4 pos : Pos} (h : Hot X a oe) (hi : PE X iter t) (hm : X.mg "int" = none) (hfree : ∀ y ∈ scope.names, y.2 ≠ .free) (hcell : ∀ y ∈ scope.names, y.2 ≠ .cell) (hkind : scope.kind = .function)
    (hnames : ∀ y ∈ scope.names, y.2 = .local → scope.names.lookup y.1 = some .local) (hx : scope.names.lookup one = some .local) (hg : ∀ C, (compEnvC scope [] C X.env).kindOf "int" = some .globalImplicit) (hd : (one == ("__debug__" : Str)) = false := by decide)
    (hs : ∀ x, foldedSetIterable iter X.env x = pure x := by intro _; rfl) :
    PE X (.ListComp (.Call (.Name "int" p1) [.Name one p2] [] p3) [⟨.Name one p4, iter, [], 0⟩] scope pos) (tLcH X.K t) := by
  refine ⟨fun pins s σ H Q I hq => ?_⟩
  refine wpAny_ListComp_free (cl := []) (fun _ => true) (fun v y => ∃ b k, v = Value.bool b ∧ y = Value.int (b2z b) k) (closureFor_none hfree) hcell hkind hnames hx (thn (hi.run pins s σ H _ I hq) fun xv s1 ⟨v, H1, I1, r1, l, bs, ev, sq, q⟩ => ?_) hs
  subst ev
  obtain rfl : xv = Value.ref l := r1
  obtain ⟨its, rv, pl, hz⟩ := I1.list sq
  have eb := rv.bls
  have hz' : its.toArray.size ≤ sizeLine := by
    rw [List.size_toArray, ← rv.length]
    exact hz
  refine iterH h I1 (A := X.A) rfl pl.isList fun s2 e2 W st fp => ⟨_, _, _, _, _, _, rfl, W, hz', st, fp, ⟨fun C i v s3 m3 E' hC hv hn hm3 hk ht => wpAny_tests_nil ⟨rfl, s3.heap, s3.toks, rfl, fun _ _ e => e⟩, fun C i v s3 m3 E' hC hv _ hn hm3 hk ht => ?_⟩, fun D h' tk ys vs hD hl hp hlen hP hF hk => ?_⟩
  · -- int(one)
    obtain ⟨b, rfl⟩ := bools_at eb hv
    subst e2
    have old : ∀ c o, X.base.get? c = some o → s3.heap.get? c = some o := fun c o e => by
      have e1 := (I1.bs c o e).1
      refine hk c o (fun hm => ?_) (Heap.get?_push_of_some _ e1)
      rw [List.mem_singleton.mp hm] at e1
      exact absurd (Heap.lt_size e1) (Nat.lt_irrefl _)
    obtain ⟨mb, h1, h2⟩ := I1.mod.blt
    refine wpAny_Call_Name_kw (Calls.Name_function_global (env := compEnvC scope [] C X.env) hkind (hg C) (Calls.loadGlobal_builtin (by rw [show (compEnvC scope [] C X.env).globals = mainGlobals from I1.ok.glob]; exact I1.mod.glob.keeps old) hm (by rw [show (compEnvC scope [] C X.env).builtins = builtinsNs from I1.ok.blt]; exact h1.keeps old) ((h2 "int" (by decide)).trans (by rfl)) ?_) (by decide))
    refine PyProof.Rows.callWith_type1 (T := "int") (PyProof.Rows.args_cons (wpAny_Name (wpAny_loadName_local (env := compEnvC scope [] C X.env) hkind (lookup_relabel_local hx) hn hm3 ?_) hd) rfl) rfl rfl
    refine PyProof.Rows.args_nil (call_int_bool ⟨⟨b, _, rfl, rfl⟩, s3.heap, _, rfl, fun _ _ e => e⟩)
  · -- the new list
    have ev : vs = its := by
      have := list_of_places (items := its.toArray) hlen hP
      simpa using this
    subst e2 ev
    have hF : Paired (fun v y => ∃ b k, v = Value.bool b ∧ y = Value.int (b2z b) k) vs ys.toList := by
      have : vs.filter (fun _ => true) = vs := List.filter_eq_self.mpr fun _ _ => rfl
      rw [this] at hF
      exact hF
    have hv : Vals (bs.map fun b => V.int (b2z b)) ys.toList := by
      rw [eb] at hF
      clear eb rv q sq hP hlen hp hl hk hz hz'
      revert hF
      generalize ys.toList = us
      intro hF
      induction bs generalizing us with
      | nil =>
        cases hF
        exact .nil
      | cons b bs ih =>
        cases hF with
        | cons h1 h2 =>
          obtain ⟨b', k, e1, e2⟩ := h1
          cases e1
          exact .cons ⟨k, e2⟩ (ih _ h2)
    have kp : ∀ c o, s1.heap.get? c = some o → h'.get? c = some o := fun c o e => hk c o (fun hm => by
      rw [List.mem_singleton.mp hm] at e
      exact absurd (Heap.lt_size e) (Nat.lt_irrefl _)) (Heap.get?_push_of_some _ e)
    have hD1 : s1.heap.get? D = none := by
      cases e : s1.heap.get? D with
      | none => rfl
      | some o =>
        have := Heap.get?_push_of_some { cls := .type "list_iterator", data := .fields #[.ref l, .int 0 0] } e
        rw [hD] at this
        cases this
    have hD2 : H1 D = none := I1.hok.gone hD1
    obtain ⟨n, hn⟩ := hp
    have hz2 : (bs.map fun b => V.int (b2z b)).length ≤ sizeLine := by
      rw [List.length_map]
      have := rv.length
      rw [List.length_map] at this
      rw [this]
      simpa using hz'
    exact ⟨.ref D, _, I1.laidN kp hD1 hD2 (show ObjOk X.prog X.w _ h' D (.lst (bs.map fun b => V.int (b2z b))) from ⟨hz2, ys.toList, n, hv, by rw [Array.toArray_toList]; exact hn⟩), rfl, q D hD2⟩
end
end Cl

set_option Elab.async false
set_option maxRecDepth 100000
set_option maxHeartbeats 2000000
/-! A def that tells the name of the exception that is handled; try: .. except W as e: return f(e). -/
namespace Cl
open PySem PySem.Spec PyProof.Rows L2
/-- the def at f, called with the exception that is handled, of the class named nm: a text -/
structure FnX (P : Program) (w : World) (K : PySem.W.Frag) (mg : Str → Option Value) (base : Heap) (k : Nat) (f : Addr) (fd : FuncData) (x : Str) (F : Str → Option Str) : Prop where
  run : ∀ (A : Around) (oo : List Env) (s : Shared) (H : Hp) (gv : Args) (a C : Addr) (oe : Obj) (nm t : Str), L2H.RoomH k A → A.handled = some (.ref a) → L2H.PinOk oo H s (a, oe) → L2N.Zn (.ref C) none oe → (∃ vs : Array Value, oe.data = .fields vs ∧ vs[2]? = some .none) →
    mg nm = some (.ref C) → F nm = some t → Env0 P w K mg base A oo s H → BindsTo s fd gv [(x, .ref a)] → codeAny (model P w) A (.call (.ref f) gv) (CR (L2N.CX P w) oo P w H s (fun v H' => v = .str t ∧ Same H H') fun _ _ _ => False) s
section
variable {P : Program} {w : World} {K : PySem.W.Frag} {mg : Str → Option Value} {base : Heap} {k : Nat} {f : Addr} {x : Str} {F : Str → Option Str}
/-- the def rule -/
theorem fnX_of {nm qual : Str} {pa : Arguments} {body : List Stmt} {scope : Scope} {dV kV doc pm cdv ct oc : Value} {an od : Option Addr} {osl : Array (Option Value)} {N : List Str}
    (lk : K.lookup f = some ⟨oc, od, .func (PySem.W.fnOf nm qual pa body scope dV kV doc pm an cdv ct), osl⟩) (hcd : PySem.W.codeIn K cdv qual = true) (S : FnScope N [x] scope)
    (hbody : ∀ (A : Around) (oo : List Env) (s : Shared) (H : Hp) (a C : Addr) (oe : Obj) (en t : Str), L2H.RoomH k (A.deeper (envOfC qual scope s.heap.objs.size f cdv)) → A.handled = some (.ref a) → L2N.Zn (.ref C) none oe → (∃ vs : Array Value, oe.data = .fields vs ∧ vs[2]? = some .none) → mg en = some (.ref C) → F en = some t →
      ∃ m c', CSs (L2H.cxH (L2N.CX P w) P w K mg base N qual scope f cdv A oo s H (fun _ _ _ => False) (a, oe)) ⟨H, [], fun _ _ _ _ => False⟩ body m ∧ m ⟨Sl.v (.o (.ref a)) :: List.replicate (N.length - 1) .un, []⟩ = .rt (.d (.str t)) c') :
    FnX P w K mg base (k + 1) f (PySem.W.fnOf nm qual pa body scope dV kV doc pm an cdv ct) x F where
  run A oo s H gv a C oe en t rg hh pin zn fl hm hF e0 hb := by
    have at0 : ∀ b o, base.get? b = some o → s.heap.get? b = some o := fun b o e => (e0.bs b o e).1
    have kin := e0.mod.kin.keeps at0
    refine codeAny_call_function rg.depth (kin _ _ lk) rfl S.co S.gen rfl (PySem.W.codeRec_of kin hcd) (hb _ _ _ _ (wpAny_newFunctionEnv_cells S.kind (fun y hy => ?_) fun env he s1 y => ?_))
    · have hy1 : y.1 ∈ [x] := by
        rw [List.mem_singleton] at hy
        rw [hy]
        exact .head _
      exact (S.par y.1 hy1).imp id fun c => ⟨c, PySem.W.cellsFrom_some _ _ _ (.inl c)⟩
    · subst he
      obtain ⟨m, c', hm', e⟩ := hbody A oo s H a C oe en t (rg.deeper _) hh zn fl hm hF
      refine ⟨(e0.mod.nolimit.keeps at0).keeps y.toInCall.keep, codeAny_func ?_⟩
      have I := L2H.inv_startH (CX := L2N.CX P w) (E := fun _ _ _ => False) (us := [.ref a]) (vs := [V.ref a]) S pin e0 rfl (.cons rfl .nil) y
      have R : Rel ⟨⟨K, w⟩, mg, H, []⟩ [] ⟨Sl.v (.o (.ref a)) :: List.replicate (N.length - 1) .un, []⟩ (L2.start N [V.ref a]) H :=
        Rel.start (xs := [CV.o (.ref a)]) (K := ⟨K, w⟩) (mg := mg) (μ := []) (hp := []) ⟨rfl, fun m o h => by simp at h, List.nodup_nil⟩ (.cons rfl .nil) rfl
      refine wpAny_mono (hm'.run [] s1 _ H { nx := fun _ _ => False, rt := fun v H' => v = .str t ∧ Same H H' } I ⟨[], _, R, ?_⟩) (fun z s2 hz => ?_) fun _ _ hz => hz
      · rw [e]
        intro μ1 σ1 H1 v _ _ R1 d
        have d : Den ⟨K, w⟩ H1 (.str t) v := d
        simp only [Den] at d
        exact ⟨d, fun b o q => R1.fr b o q (by simp)⟩
      · cases z with
        | next =>
          obtain ⟨_, _, _, q⟩ := hz
          exact False.elim q
        | brk =>
          obtain ⟨_, _, _, q⟩ := hz
          exact False.elim q
        | cont =>
          obtain ⟨_, _, _, q⟩ := hz
          exact False.elim q
        | ret u =>
          obtain ⟨v, τ, G, J, rx, q⟩ := hz
          exact ⟨v, G, J.os, J.bare, J.base, J.hok, rx, q⟩
end
/-! ### isinstance(e, D) -/
section
variable {X : Cx} {N : Wn} {a C : Addr} {oe : Obj} {pos p p1 p2 : Pos}
theorem call_isP (hp : (a, oe) ∈ X.pn) (E : ExcC X.K C) (hz : Zc (.ref C) none oe) (hf : ∃ vs, oe.data = .fields vs) : CallR X (.builtin "isinstance") (rIsE X.K C a) := by
  intro pins s σ H xs us Q I r h
  obtain ⟨c, cv, b, rfl, hcv, e, q⟩ := h
  obtain ⟨u, v, rfl, rx, ry⟩ := vals2 r
  obtain rfl : u = Value.ref a := rx
  obtain rfl := hcv _ ry
  have hget := (I.pin (a, oe) (List.mem_append_left _ hp)).1
  have J : PySem.W.InstAt s.heap a oe C none := by
    obtain ⟨vs, hv⟩ := hf
    obtain ⟨oc, od, oda, osl⟩ := oe
    obtain ⟨h1, h2⟩ := hz
    dsimp only at h1 h2 hv
    subst h1 h2 hv
    exact ⟨hget, rfl, rfl, trivial⟩
  exact PySem.W.kia_one (PySem.W.handS_kitx_exc E.hg E.hk E.hs E.hd E.ha E.hn E.ht E.hm) I.kIn J e (fun z => nomatch z) fun tk => ⟨.bl b, H, I.kept (t' := tk) fun _ _ z => z, rfl, q⟩
def mIsE (a : Addr) (i : Nat) (b : Bool) : Mo CV := fun c => match c.sl[i]? with
  | some (.v (.o (.ref a'))) => if a' = a then .ok (.d (.bool b)) c else .no
  | _ => .no
theorem ce_isE (i : Nat) {x y : Str} {D : Addr} {b : Bool} (hp : (a, oe) ∈ X.pn) (E : ExcC X.K C) (hz : Zc (.ref C) none oe) (hf : ∃ vs, oe.data = .fields vs) (hy : X.mg y = some (.ref D)) (hb : PySem.W.kitOne X.K (.ref C) (.ref D) = some b) (hm : X.mg "isinstance" = none)
    (hN : X.N[i]? = some x := by rfl) (hv : Vis X.env.scope x := by first | exact Or.inl rfl | exact Or.inr (Or.inl rfl) | exact Or.inr (Or.inr rfl)) (hd : (x == ("__debug__" : Str)) = false := by decide)
    (hcd : (x == ("__classdict__" : Str)) = false := by decide) (hg : Gl X "isinstance" := by rfl) (hgy : Gl X y := by rfl) (hdy : (y == ("__debug__" : Str)) = false := by decide) :
    CE X N (.Call (.Name "isinstance" p) [.Name x p1, .Name y p2] [] pos) (mIsE a i b) :=
  PE.tm (pe_callB (call_isP hp E hz hf) hg hm (by rfl) (pa_cons (pe_var (X := X) (i := i) hN hv hd hcd) (pa_cons (pe_glob (v := .ref D) hgy hy rfl hdy) pa_nil))) fun σ H Q ⟨μ, c, R, p⟩ => by
    unfold RunAt mIsE at p
    cases e : c.sl[i]? with
    | none =>
      rw [e] at p
      exact p.elim
    | some sl =>
      rw [e] at p
      cases sl with
      | un => exact p.elim
      | ol _ => exact p.elim
      | od _ => exact p.elim
      | v z =>
        cases z with
        | d _ => exact p.elim
        | r _ => exact p.elim
        | o w =>
          cases w with
          | ref a' =>
            dsimp only at p
            by_cases h : a' = a
            · rw [if_pos h] at p
              subst h
              obtain ⟨v, ev, d⟩ := R.vl i _ e
              cases d
              exact ⟨_, ev, .ref D, .ref D, b, rfl, (fun u h => h), hb, p μ H (List.prefix_refl _) (Fz.refl _) R _ (vden_bool _)⟩
            · rw [if_neg h] at p
              exact p.elim
          | _ => exact p.elim
/-! ### sum([int(one) for one in bools]) -/
def gSumB : BV → Mo CV := gO bBs fun bs => .d (.int (bs.map b2z).sum)
theorem ce_sumB {iter : Expr} {one : Str} {scope : Scope} {m : Mo BV} {q1 q2 q3 q4 q5 : Pos} (h : Hot X a oe) (hi : CB X N iter m) (hm : X.mg "int" = none) (hms : X.mg "sum" = none) (hfree : ∀ y ∈ scope.names, y.2 ≠ .free) (hcell : ∀ y ∈ scope.names, y.2 ≠ .cell) (hkind : scope.kind = .function)
    (hnames : ∀ y ∈ scope.names, y.2 = .local → scope.names.lookup y.1 = some .local) (hx : scope.names.lookup one = some .local) (hg : ∀ C, (compEnvC scope [] C X.env).kindOf "int" = some .globalImplicit) (hd : (one == ("__debug__" : Str)) = false := by decide) (hgs : Gl X "sum" := by rfl)
    (hs : ∀ x, foldedSetIterable iter X.env x = pure x := by intro _; rfl)
    (hst : starEach [Expr.ListComp (.Call (.Name "int" q1) [.Name one q2] [] q3) [⟨.Name one q4, iter, [], 0⟩] scope q5] X.env = (false, eval (.ListComp (.Call (.Name "int" q1) [.Name one q2] [] q3) [⟨.Name one q4, iter, [], 0⟩] scope q5) X.env) :: starEach [] X.env := by rfl) :
    CE X N (.Call (.Name "sum" p) [.ListComp (.Call (.Name "int" q1) [.Name one q2] [] q3) [⟨.Name one q4, iter, [], 0⟩] scope q5] [] pos) (mBind m gSumB) :=
  PE.tm (pe_callB (cr_sumH h) hgs hms (by rfl) (pa_cons (pe_lcH h hi hm hfree hcell hkind hnames hx hg hd hs) pa_nil hst) (he := hst)) fun σ H Q ⟨μ, c, R, p⟩ => ⟨μ, c, R, (RunAt.bind p).imp fun y μ1 c1 H1 a1 b1 r1 q v d => by
    obtain ⟨bs, e, q⟩ := gO_ok q
    obtain ⟨l, rfl, sq⟩ := bBs_ok r1 d e
    refine ⟨l, bs, rfl, sq, fun t ht => ?_⟩
    have sm : Same H1 (upd H1 t (.lst (bs.map fun b => V.int (b2z b)))) := same_new ht
    refine ⟨t, bs.map b2z, rfl, SqL.of (by rw [upd_same, List.map_map]; rfl), q _ (Fz.same sm) (r1.same sm) _ (vden_int _)⟩⟩
/-! ### try: .. except W as e: return f(e) -/
/-- in the suite -/
def tX (i : Nat) (a : Addr) (cls : Value) (d : Option Addr) (mg : Str → Option Value) (F : Str → Option Str) : TS := fun D σ H => ∃ (nm t : Str) (C : Addr), cls = .ref C ∧ d = none ∧ mg nm = some (.ref C) ∧ F nm = some t ∧ σ[i]? = some (some (.ref a)) ∧ ∀ H', Same H H' → D.rt (.str t) H'
theorem ps_retX {k : Nat} {f : Addr} {fd : FuncData} {x n y : Str} {F : Str → Option Str} {i : Nat} {pn : List (Addr × Obj)} {cls : Value} {d : Option Addr} {r1 r2 r3 r4 : Pos} (G : FnX X.prog X.w X.K X.mg X.base k f fd x F) (hr : L2H.RoomH k X.A) (hm : X.mg y = some (.ref f)) (hk : PySem.W.keepIn X.K (.ref f) = true)
    (hb : Binds X.K fd [x] []) (zn : L2N.Zn cls d oe) (fl : ∃ vs, oe.data = .fields vs) (hN : X.N[i]? = some n) (hv : Vis X.env.scope n) (hd : (n == ("__debug__" : Str)) = false) (hcd : (n == ("__classdict__" : Str)) = false) (hgy : Gl X y) (hdy : (y == ("__debug__" : Str)) = false) :
    PS (X.suite a ((a, oe) :: pn)) (.Return (some (.Call (.Name y r1) [.Name n r2] [] r3)) r4) (tX i a cls d X.mg F) := by
  refine PS.tm (t := tRet fun σ H Q => ∃ (nm t : Str) (C : Addr), cls = .ref C ∧ d = none ∧ X.mg nm = some (.ref C) ∧ F nm = some t ∧ σ[i]? = some (some (.ref a)) ∧ ∀ H', Same H H' → Q (.str t) H') (ps_ret ⟨fun pins s σ H Q I ⟨nm, t, C, e1, e2, e3, e4, e5, q⟩ => ?_⟩) fun D σ H h => h
  subst e1 e2
  refine wpAny_Call_Name_kw (ld_glob I hgy hm (PySem.W.callWith_K (h₀ := X.base) I.ok.mod.kin hk
    (thn ((pa_cons (pe_var (X := X.suite a ((a, oe) :: pn)) (i := i) hN hv hd hcd) pa_nil).run r3 pins s σ H (fun vs H1 => vs = [V.ref a] ∧ H1 = H) I ⟨.ref a, e5, rfl, rfl⟩) fun us s1 ⟨vs, H1, I1, rv, ev, eH⟩ => ?_) rfl rfl) hdy)
  subst ev eH
  rw [Vals.ref1 rv]
  have P1 := I1.pin (a, oe) (List.mem_append_left _ (.head _))
  have pin : L2H.PinOk X.stack H1 s1 (a, oe) := ⟨P1.1, P1.2.1, fun hm => (List.mem_cons.mp (I1.stkSub a hm)).elim P1.2.2.1 P1.2.2.2.1, P1.2.2.2.2⟩
  have bd := hb s1 [.ref a] I1.kIn rfl
  refine ⟨I1.kIn, wpAny_call (codeAny_mono (G.run (X.A.mark (some (.ref a))) X.stack s1 H1 ⟨[.ref a], []⟩ a C oe nm t ⟨hr.dp, hr.un⟩ rfl pin zn (fl.imp fun vs h => ⟨h, zn.2.2 vs h⟩) e3 e4 I1.env0 bd) fun u z hz => ?_)⟩
  match u, hz with
  | .error e, hz =>
    obtain ⟨_, _, _, _, _, _, _, _, _, _, _, _, h⟩ := hz
    exact h.elim
  | .ok (.ret u), hz =>
    obtain ⟨v, G', os, bare, un, ok, rv, ev, sm⟩ := hz
    subst ev
    exact I1.after ⟨.str t, G', os, bare, un, ok, rv, q G' sm⟩
/-- the mirror -/
def sTryE (i : Nat) (F : Str → Option Str) (mb : MS) : MS := fun c => match mb c with
  | .ex e c1 => match F e.cls with
    | some t => if e.fs = [] ∧ i < c1.sl.length then .rt (.d (.str t)) c1 else .no
    | none => .no
  | r => r
theorem cs_tryE {k : Nat} {f : Addr} {fd : FuncData} {x n y wn : Str} {F : Str → Option Str} {i : Nat} {W : Value} {body : List Stmt} {mb : MS} {r1 r2 r3 r4 np hp tp : Pos} (G : FnX X.prog X.w X.K X.mg X.base k f fd x F) (hr : L2H.RoomH k X.A) (hm : X.mg y = some (.ref f)) (hk : PySem.W.keepIn X.K (.ref f) = true)
    (hb : Binds X.K fd [x] []) (hst : X.stack = X.env :: X.outer) (hfr : X.env.frame = some X.env.locals) (hNN : X.N.Nodup) (hW : Names X wn W) (tk : L2N.Takes X N.W)
    (hF : ∀ nm t C, F nm = some t → X.mg nm = some (.ref C) → PySem.W.exmOne X.K (.ref C) W = some true) (hcl : ∀ nm t, F nm = some t → ∃ C, X.mg nm = some (.ref C))
    (hbody : ∀ (W' : WX) (pn : List (Addr × Obj)) (xe : Value → Shared → Prop), L2N.Takes (X.tr pn xe) W' → PassesOwn (model X.prog X.w) X.A X.env xe → CSs (X.tr pn xe) ⟨N.B, N.m0, W'⟩ body mb)
    (hN : X.N[i]? = some n := by rfl) (hln : X.env.kindOf n = some .local := by rfl) (hd : (n == ("__debug__" : Str)) = false := by decide) (hcd : (n == ("__classdict__" : Str)) = false := by decide) (hgy : Gl X y := by rfl) (hdy : (y == ("__debug__" : Str)) = false := by decide) :
    CS1 X N (.Try body [.ExceptHandler (some (.Name wn np)) (some n) [.Return (some (.Call (.Name y r1) [.Name n r2] [] r3)) r4] hp] [] [] tp) (sTryE i F mb) := by
  refine PS.tm (L2N.ps_try_as (i := i) (tb := fun W' => tSt (gh X ⟨N.B, N.m0, W'⟩) W' mb) (ts := fun a cls d => tX i a cls d X.mg F) (Wout := N.W) hst hfr hNN hN hln hW tk (fun W' pn xe tk' po => hbody W' pn xe tk' po)
    (fun a oe cls d pn zn fl => pss_one (ps_retX G hr hm hk hb zn fl hN (.inl hln) hd hcd hgy hdy))) fun D σ H ⟨μ, c, R, p⟩ => ⟨μ, c, R, ?_⟩
  unfold RunS sTryE at p
  unfold RunS
  cases e : mb c with
  | nx c1 =>
    rw [e] at p
    exact p
  | rt z c1 =>
    rw [e] at p
    exact p
  | bk c1 =>
    rw [e] at p
    exact p
  | ct c1 =>
    rw [e] at p
    exact p
  | no =>
    rw [e] at p
    exact p
  | ex z c1 =>
    rw [e] at p
    dsimp only at p
    cases hz : F z.cls with
    | none =>
      rw [hz] at p
      exact p.elim
    | some t =>
      rw [hz] at p
      dsimp only at p
      by_cases hl : z.fs = [] ∧ i < c1.sl.length
      · rw [if_pos hl] at p
        intro μ1 σ1 cls d H1 a1 f1 R1 xd
        obtain ⟨C, hC⟩ := hcl _ _ hz
        obtain ⟨x1, x2⟩ := xd
        cases hC.symm.trans x1
        have hd : d = none := by
          rcases x2 with ⟨_, h⟩ | ⟨ne, _⟩
          · exact h
          · exact absurd hl.1 ne
        refine ⟨true, hF _ _ _ hz hC, fun _ b hb => ⟨z.cls, t, C, rfl, hd, hC, hz, ?_, fun H' sm => ?_⟩, fun h => by cases h⟩
        · rw [List.getElem?_set_self (by rw [← R1.len]; exact hl.2)]
        · exact p μ1 σ1 H' _ a1 (f1.trans (Fz.same sm)) (R1.same sm) (vden_str _)
      · rw [if_neg hl] at p
        exact p.elim
end
end Cl

set_option Elab.async false
set_option maxRecDepth 100000
set_option maxHeartbeats 2000000
namespace Cl
open PySem PySem.Spec PyProof.Rows L2
section
variable {X : Cx} {N : Wn} {a : Expr} {pos : Pos}
def gNeg (x : CV) : Mo CV := match x with
  | .d (.int i) => mRet (.d (.int (-i)))
  | _ => fun _ => .no
theorem ce_neg {m : Mo CV} (h : CE X N a m) : CE X N (.UnaryOp .USub a pos) (mBind m gNeg) :=
  PE.tm (pe_un un_neg h) fun σ H Q ⟨μ, c, R, p⟩ => ⟨μ, c, R, (RunAt.bind p).imp fun y μ1 c1 H1 a1 b1 r1 q v d => by
    cases y with
    | r _ => exact q.elim
    | o _ => exact q.elim
    | d y =>
      cases y with
      | int i => exact ⟨i, vden_i d, RunAt.ret (a := CV.d (.int (-i))) q H1 (Fz.refl _) r1 _ (vden_int _)⟩
      | none => exact q.elim
      | bool _ => exact q.elim
      | str _ => exact q.elim
      | list _ => exact q.elim
      | tuple _ => exact q.elim
      | dict _ => exact q.elim⟩
end
end Cl

set_option Elab.async false
set_option maxRecDepth 100000
set_option maxHeartbeats 2000000
namespace Cl
open PySem PySem.Spec PyProof.Rows L2
theorem isE_at (a : Addr) (b : Bool) (r : List Sl) (hp : List CO) : mIsE a 0 b ⟨.v (.o (.ref a)) :: r, hp⟩ = .ok (.d (.bool b)) ⟨.v (.o (.ref a)) :: r, hp⟩ := if_pos rfl
theorem cons_at {ma : Mo CV} {mr : Mo (List CV)} {c c1 c2 : CS} {x : CV} {xs : List CV} (h1 : ma c = .ok x c1) (h2 : mr c1 = .ok xs c2) : mCons ma mr c = .ok (x :: xs) c2 := by
  unfold mCons mBind
  rw [h1]
  dsimp only
  rw [h2]
  rfl
theorem lst_at {m : Mo (List CV)} {c c1 : CS} {xs : List CV} {ys : List PyData} (h : m c = .ok xs c1) (k : mkL xs = some ys) : mLst m c = .ok ys c1 := by
  unfold mLst mBind
  rw [h]
  show mOpt (mkL xs) c1 = _
  rw [k]
  rfl
theorem own_at {m : Mo (List PyData)} {f : MS} {i : Nat} {c c1 : CS} {xs : List PyData} (h : m c = .ok xs c1) : sSeq (sOwn i m) f c = f (cSet i (.ol xs) c1) := by
  unfold sSeq sOwn sBind
  rw [h]
end Cl

set_option Elab.async false
set_option maxRecDepth 100000
/-! The end of a law: what its mirror says of a script is what the law's own call does. -/
namespace Cl
open PySem PySem.Spec PyProof.Rows L2
theorem denL_ints {K : KW} {H : Hp} : ∀ ns : List Int, DenL K H (ns.map .int) (ns.map V.int)
  | [] => .nil
  | n :: r => .cons (by simp only [Den]) (denL_ints r)
/-- a mirror that answers True on every script of n cells keeps the law's promise -/
theorem sp_law {K : KW} {mg : Str → Option Value} {F : Fn} {n : Nat} (h : ∀ ns : List Int, ns.length ≤ n → ∃ hp, F [.d (.list (ns.map .int))] [] = .ok (.d (.bool true)) hp) {H : Hp} {a : Addr} {ns : List Int} (hl : ns.length ≤ n) (hf : FzL K.K H a (ns.map V.int)) :
    spC K mg F 1 [.ref a] H (fun v _ => v = .bl true) fun _ _ _ => False := by
  obtain ⟨hp, e⟩ := h ns hl
  refine ⟨rfl, [], [.d (.list (ns.map .int))], [], ⟨rfl, fun n o q => ?_, .nil⟩, .cons ?_ .nil, ?_⟩
  · cases q
  · show Den K H (.list (ns.map .int)) (.ref a)
    simp only [Den]
    exact ⟨a, _, rfl, hf, denL_ints ns⟩
  · rw [e]
    intro μ1 v H1 _ d
    have d : Den K H1 (.bool true) v := d
    simpa only [Den] using d
section
variable {K : PySem.W.Frag} {C D : Addr} {b : Bool}
theorem kitCls_of (h2 : PySem.W.isClsIn K D = true) (h3 : PySem.W.typeIn K (.ref D) = some (.type "type")) (h4 : PySem.W.subIn K (.ref C) (.ref D) = some b) : PySem.W.kitCls K (.ref C) (.ref D) = some b := by
  have e2 : ((PySem.W.clsIn K D).isSome && PySem.W.typeIn K (.ref D) == some (.type "type")) = true := by
    have h2' : (PySem.W.clsIn K D).isSome = true := h2
    rw [h2', h3] <;> rfl
  show (if ((PySem.W.clsIn K D).isSome && PySem.W.typeIn K (.ref D) == some (.type "type")) = true then PySem.W.subIn K (.ref C) (.ref D) else none) = some b
  rw [if_pos e2]
  exact h4
theorem exm_of (h1 : PySem.W.subIn K (.ref D) (.type "BaseException") = some true) (h2 : PySem.W.isClsIn K D = true) (h3 : PySem.W.typeIn K (.ref D) = some (.type "type")) (h4 : PySem.W.subIn K (.ref C) (.ref D) = some b) : PySem.W.exmOne K (.ref C) (.ref D) = some b := by
  have e1 : (PySem.W.subIn K (.ref D) (.type "BaseException") == some true) = true := by rw [h1] <;> rfl
  unfold PySem.W.exmOne
  rw [if_pos e1]
  exact kitCls_of h2 h3 h4
theorem kit_of (h2 : PySem.W.isClsIn K D = true) (h3 : PySem.W.typeIn K (.ref D) = some (.type "type")) (h4 : PySem.W.subIn K (.ref C) (.ref D) = some b) (h : b = true ∨ ((Value.ref C) == (Value.ref D)) = false) : PySem.W.kitOne K (.ref C) (.ref D) = some b := by
  unfold PySem.W.kitOne
  by_cases e : ((Value.ref C) == (Value.ref D)) = true
  · rw [if_pos e]
    rcases h with rfl | h
    · rfl
    · rw [h] at e
      cases e
  · rw [if_neg e]
    exact kitCls_of h2 h3 h4
end
/-- for the goal that k_head leaves: the law's def does what its mirror says, and the mirror answers True -/
theorem walk_mirror {l : PySem.W.OpenLaw} {n k : Nat} {q : Program} {loose : List Str} {XP : (Str → Option Value) → Heap → Prop} {YP : World → Heap → Prop} {d : DefRec} {K : Params → PySem.W.Frag} {F : Fn} {x : Str}
    (hn : l.most = some n) (hn2 : n ≤ sizeLine) (hdf : d.params.defaults = []) (hr : RoomG k callerA) (hY : ∀ (w : World) (h : Heap), YP w h → (K w.params).In h)
    (hF : ∀ (w : World) (mg : Str → Option Value) (fa : Addr) (h : Heap), (K w.params).In h → h.Ns mainGlobals mg → mg d.name = some (.ref fa) → ∃ fd : FuncData, (∀ (s : Shared) (u : Value), BindsTo s fd ⟨[u], []⟩ [(x, u)]) ∧
      ∀ base : Heap, (K w.params).In base → base.Ns mainGlobals mg → FnG l.prog w (K w.params) mg base (L2N.CX l.prog w) k fa fd [x] (spC ⟨K w.params, w⟩ mg F 1))
    (h : ∀ ns : List Int, ns.length ≤ n → ∃ hp, F [.d (.list (ns.map .int))] [] = .ok (.d (.bool true)) hp) : PySem.W.WalkO q loose XP YP l.row.toRowW d [] (fun f vs => PySem.call f vs) :=
  walk_ofG hn hn2 hdf hr hY hF (fun _ _ _ _ _ hl _ hf => sp_law h hl hf) fun _ _ _ _ _ ⟨_, _, _, _, _, _, _, _, _, _, _, _, q⟩ => q
end Cl

set_option Elab.async false
set_option maxRecDepth 100000
set_option maxHeartbeats 2000000
/-! How a mirror is worked out: one equation for each word, at a state. -/
namespace Cl
open PySem PySem.Spec PyProof.Rows
section
variable {α β : Type}
def Res.bind (r : Res α) (f : α → Mo β) : Res β := match r with
  | .ok a c => f a c
  | .ex e c => .ex e c
  | .no => .no
def Res.sbind (r : Res α) (f : α → MS) : RS := match r with
  | .ok a c => f a c
  | .ex e c => .ex e c
  | .no => .no
def RS.seq (r : RS) (b : MS) : RS := match r with
  | .nx c1 => b c1
  | .rt x c1 => .rt x c1
  | .bk c1 => .bk c1
  | .ct c1 => .ct c1
  | .ex e c1 => .ex e c1
  | .no => .no
@[simp] theorem rb_ok {a : α} {c : CS} {f : α → Mo β} : Res.bind (.ok a c) f = f a c := rfl
@[simp] theorem rb_ex {e : XC} {c : CS} {f : α → Mo β} : Res.bind (.ex e c) f = .ex e c := rfl
@[simp] theorem rs_ok {a : α} {c : CS} {f : α → MS} : Res.sbind (.ok a c) f = f a c := rfl
@[simp] theorem rs_ex {e : XC} {c : CS} {f : α → MS} : Res.sbind (.ex e c) f = .ex e c := rfl
@[simp] theorem sq_nx {c : CS} {b : MS} : RS.seq (.nx c) b = b c := rfl
@[simp] theorem sq_rt {x : CV} {c : CS} {b : MS} : RS.seq (.rt x c) b = .rt x c := rfl
@[simp] theorem sq_bk {c : CS} {b : MS} : RS.seq (.bk c) b = .bk c := rfl
@[simp] theorem sq_ct {c : CS} {b : MS} : RS.seq (.ct c) b = .ct c := rfl
@[simp] theorem sq_ex {e : XC} {c : CS} {b : MS} : RS.seq (.ex e c) b = .ex e c := rfl
@[simp] theorem mBind_ap {m : Mo α} {f : α → Mo β} {c : CS} : mBind m f c = (m c).bind f := rfl
@[simp] theorem sBind_ap {m : Mo α} {f : α → MS} {c : CS} : sBind m f c = (m c).sbind f := rfl
@[simp] theorem sSeq_ap {a b : MS} {c : CS} : sSeq a b c = (a c).seq b := rfl
@[simp] theorem mRet_ap {a : α} {c : CS} : mRet a c = .ok a c := rfl
@[simp] theorem mOpt_some {a : α} {c : CS} : mOpt (some a) c = .ok a c := rfl
@[simp] theorem sNx_ap {c : CS} : sNx c = .nx c := rfl
@[simp] theorem sBk_ap {c : CS} : sBk c = .bk c := rfl
@[simp] theorem sCt_ap {c : CS} : sCt c = .ct c := rfl
@[simp] theorem sRetN_ap {c : CS} : sRetN c = .rt (.d .none) c := rfl
@[simp] theorem sDrop_ap {m : Mo CV} {c : CS} : sDrop m c = (m c).sbind fun _ => sNx := rfl
@[simp] theorem sRet_ap {m : Mo CV} {c : CS} : sRet m c = (m c).sbind fun x c => .rt x c := rfl
@[simp] theorem sIf_ap {m : Mo Bool} {a b : MS} {c : CS} : sIf m a b c = (m c).sbind fun k => if k then a else b := rfl
@[simp] theorem sSet_ap {i : Nat} {m : Mo CV} {c : CS} : sSet i m c = (m c).sbind fun x c => .nx (cSet i (.v x) c) := rfl
@[simp] theorem sOwn_ap {i : Nat} {m : Mo (List PyData)} {c : CS} : sOwn i m c = (m c).sbind fun x c => .nx (cSet i (.ol x) c) := rfl
@[simp] theorem sOwnD_ap {i : Nat} {m : Mo (List (PyData × PyData))} {c : CS} : sOwnD i m c = (m c).sbind fun x c => .nx (cSet i (.od x) c) := rfl
@[simp] theorem sRaise_ap {x : Str} {c : CS} : sRaise x c = .ex ⟨x, []⟩ c := rfl
@[simp] theorem cSet_mk {i : Nat} {x : Sl} {sl : List Sl} {hp : List CO} : cSet i x ⟨sl, hp⟩ = ⟨sl.set i x, hp⟩ := rfl
@[simp] theorem cNew_mk {o : CO} {sl : List Sl} {hp : List CO} : cNew o ⟨sl, hp⟩ = ⟨sl, hp ++ [o]⟩ := rfl
def rdV (s : Option Sl) (i : Nat) (c : CS) : Res CV := match s with
  | some (.v x) => .ok x c
  | some (.ol xs) => .ok (.d (.list xs)) { c with sl := c.sl.set i (.v (.d (.list xs))) }
  | some (.od kvs) => .ok (.d (.dict kvs)) { c with sl := c.sl.set i (.v (.d (.dict kvs))) }
  | _ => .no
@[simp] theorem mVar_ap {i : Nat} {sl : List Sl} {hp : List CO} : mVar i ⟨sl, hp⟩ = rdV sl[i]? i ⟨sl, hp⟩ := rfl
@[simp] theorem rdV_v {x : CV} {i : Nat} {c : CS} : rdV (some (.v x)) i c = .ok x c := rfl
@[simp] theorem rdV_ol {xs : List PyData} {i : Nat} {sl : List Sl} {hp : List CO} : rdV (some (.ol xs)) i ⟨sl, hp⟩ = .ok (.d (.list xs)) ⟨sl.set i (.v (.d (.list xs))), hp⟩ := rfl
@[simp] theorem rdV_od {xs : List (PyData × PyData)} {i : Nat} {sl : List Sl} {hp : List CO} : rdV (some (.od xs)) i ⟨sl, hp⟩ = .ok (.d (.dict xs)) ⟨sl.set i (.v (.d (.dict xs))), hp⟩ := rfl
def rdP (s : Option Sl) (c : CS) : Res BV := match s with
  | some (.v x) => .ok (.c x) c
  | some (.ol xs) => .ok (.l xs) c
  | some (.od kvs) => .ok (.k kvs) c
  | _ => .no
@[simp] theorem mPeek_ap {i : Nat} {sl : List Sl} {hp : List CO} : mPeek i ⟨sl, hp⟩ = rdP sl[i]? ⟨sl, hp⟩ := rfl
@[simp] theorem rdP_v {x : CV} {c : CS} : rdP (some (.v x)) c = .ok (.c x) c := rfl
@[simp] theorem rdP_ol {xs : List PyData} {c : CS} : rdP (some (.ol xs)) c = .ok (.l xs) c := rfl
@[simp] theorem rdP_od {xs : List (PyData × PyData)} {c : CS} : rdP (some (.od xs)) c = .ok (.k xs) c := rfl
@[simp] theorem mC_ap {x : PyData} {c : CS} : mC x c = .ok (.d x) c := rfl
@[simp] theorem mBo_ap {m : Mo CV} {c : CS} : mBo m c = (m c).bind fun x => mRet (.c x) := rfl
@[simp] theorem mBf_ap {m : Mo (List PyData)} {c : CS} : mBf m c = (m c).bind fun x => mRet (.l x) := rfl
@[simp] theorem mBd_ap {m : Mo (List (PyData × PyData))} {c : CS} : mBd m c = (m c).bind fun x => mRet (.k x) := rfl
@[simp] theorem mFz_ap {m : Mo (List PyData)} {c : CS} : mFz m c = (m c).bind fun x => mRet (.d (.list x)) := rfl
@[simp] theorem mFd_ap {m : Mo (List (PyData × PyData))} {c : CS} : mFd m c = (m c).bind fun x => mRet (.d (.dict x)) := rfl
@[simp] theorem lift2_ap {g : PyData → PyData → Option PyData} {x y : PyData} {c : CS} : lift2 g (.d x) (.d y) c = mOpt ((g x y).map .d) c := rfl
@[simp] theorem m2_ap {g : CV → CV → Mo CV} {a b : Mo CV} {c : CS} : m2 g a b c = (a c).bind fun x => mBind b fun y => g x y := rfl
@[simp] theorem m2b_ap {g : CV → BV → Mo CV} {a : Mo CV} {b : Mo BV} {c : CS} : m2b g a b c = (a c).bind fun x => mBind b fun y => g x y := rfl
@[simp] theorem asB_ap {b : Bool} {c : CS} : asB (.d (.bool b)) c = .ok b c := rfl
@[simp] theorem asI_ap {b : Int} {c : CS} : asI (.d (.int b)) c = .ok b c := rfl
@[simp] theorem mTru_ap {m : Mo CV} {c : CS} : mTru m c = (m c).bind asB := rfl
@[simp] theorem mChain_ap {g g' : CV → CV → Mo CV} {a b d : Mo CV} {c : CS} : mChain g g' a b d c = (a c).bind fun x => mBind b fun y => mBind (mTru (g x y)) fun k => if k then mBind d fun z => g' y z else mRet (.d (.bool false)) := rfl
@[simp] theorem mAnd_ap {a b : Mo Bool} {c : CS} : mAnd a b c = (a c).bind fun k => if k then b else mRet false := rfl
@[simp] theorem mOr_ap {a b : Mo Bool} {c : CS} : mOr a b c = (a c).bind fun k => if k then mRet true else b := rfl
@[simp] theorem mNot_ap {a : Mo Bool} {c : CS} : mNot a c = (a c).bind fun k => mRet (!k) := rfl
@[simp] theorem mAndV_ap {a b : Mo CV} {c : CS} : mAndV a b c = (mTru a c).bind fun k => if k then b else mRet (.d (.bool false)) := rfl
@[simp] theorem mOrV_ap {a b : Mo CV} {c : CS} : mOrV a b c = (mTru a c).bind fun k => if k then mRet (.d (.bool true)) else b := rfl
@[simp] theorem mNotV_ap {a : Mo CV} {c : CS} : mNotV a c = (mTru a c).bind fun k => mRet (.d (.bool (!k))) := rfl
@[simp] theorem mIf_ap {m : Mo Bool} {a b : Mo α} {c : CS} : mIf m a b c = (m c).bind fun k => if k then a else b := rfl
@[simp] theorem mNil_ap {c : CS} : mNil c = .ok [] c := rfl
@[simp] theorem mCons_ap {a : Mo CV} {r : Mo (List CV)} {c : CS} : mCons a r c = (a c).bind fun x => mBind r fun xs => mRet (x :: xs) := rfl
@[simp] theorem mStar_ap {a : Mo BV} {r : Mo (List CV)} {c : CS} : mStar a r c = (a c).bind fun y => mBind (itemsOf y) fun xs => mBind r fun ys => mRet (xs ++ ys) := rfl
@[simp] theorem itemsOf_t {xs : List PyData} {c : CS} : itemsOf (.c (.d (.tuple xs))) c = .ok (xs.map .d) c := rfl
@[simp] theorem itemsOf_d {xs : List PyData} {c : CS} : itemsOf (.c (.d (.list xs))) c = .ok (xs.map .d) c := rfl
@[simp] theorem itemsOf_l {xs : List PyData} {c : CS} : itemsOf (.l xs) c = .ok (xs.map .d) c := rfl
@[simp] theorem mTup_ap {m : Mo (List CV)} {c : CS} : mTup m c = (m c).bind fun xs => mOpt (mkT xs) := rfl
@[simp] theorem mLst_ap {m : Mo (List CV)} {c : CS} : mLst m c = (m c).bind fun xs => mOpt (mkL xs) := rfl
@[simp] theorem mNewL_ap {m : Mo (List PyData)} {c : CS} : mNewL m c = (m c).bind fun xs c => .ok (.r c.hp.length) (cNew (.lst (xs.map .d)) c) := rfl
@[simp] theorem mNewD_ap {m : Mo (List CV)} {c : CS} : mNewD m c = (m c).bind fun xs c => if xs.length ≤ 1000 then .ok (.r c.hp.length) (cNew (.lst xs) c) else .no := rfl
@[simp] theorem mIxG_ap {a b : Mo CV} {c : CS} : mIxG a b c = (a c).bind fun x => mBind b fun y => gIxG (.c x) y := rfl
@[simp] theorem mIxNG_ap {i : Nat} {b : Mo CV} {c : CS} : mIxNG i b c = (mPeek i c).bind fun _ => mBind b fun y => mBind (mPeek i) fun x => gIxG x y := rfl
@[simp] theorem mPart_ap {m : Mo CV} {c : CS} {i : Int} {c1 : CS} (h : m c = .ok (.d (.int i)) c1) : mPart m c = .ok (some i) c1 := by
  show Res.bind (m c) _ = _
  rw [h]
  rfl
@[simp] theorem mSl_ap {a : Mo CV} {l h : Mo (Option Int)} {c : CS} : mSl a l h c = (a c).bind fun x => mBind l fun lo => mBind h fun hi => mOpt ((pSl x lo hi).map .d) := rfl
@[simp] theorem mItems_ap {m : Mo CV} {c : CS} : mItems m c = (m c).bind fun x => mOpt (vItems x) := rfl
@[simp] theorem mRg1_ap {m : Mo CV} {c : CS} : mRg1 m c = (m c).bind fun x => mBind (asI x) fun j => if okRg j then mRet (rgL 0 j.toNat) else fun _ => .no := rfl
@[simp] theorem mRg2_ap {a b : Mo CV} {c : CS} : mRg2 a b c = (a c).bind fun x => mBind b fun y => mBind (asI x) fun i => mBind (asI y) fun j => if okRg i && okRg j then mRet (rgL i (j - i).toNat) else fun _ => .no := rfl
@[simp] theorem sFor_ap {m : Mo (List PyData)} {g : Tg} {b : MS} {c : CS} : sFor m g b c = (m c).sbind fun xs => forL g.f b xs := rfl
@[simp] theorem mCall_ap {n : Nat} {F : Fn} {m : Mo (List CV)} {c : CS} : mCall n F m c = (m c).bind (runF n F) := rfl
def FR.back (r : FR) (c : CS) : Res CV := match r with
  | .ok x hp => .ok x { c with hp := hp }
  | .ex e hp => .ex e { c with hp := hp }
  | .no => .no
theorem runF_ap {n : Nat} {F : Fn} {xs : List CV} {c : CS} (h : xs.length = n) : runF n F xs c = (F xs c.hp).back c := by
  unfold runF
  rw [if_pos h]
  rfl
@[simp] theorem back_ok {x : CV} {hp hp' : List CO} {sl : List Sl} : FR.back (.ok x hp) ⟨sl, hp'⟩ = .ok x ⟨sl, hp⟩ := rfl
@[simp] theorem back_ex {e : XC} {hp hp' : List CO} {sl : List Sl} : FR.back (.ex e hp) ⟨sl, hp'⟩ = .ex e ⟨sl, hp⟩ := rfl
@[simp] theorem gNeg_ap {i : Int} {c : CS} : gNeg (.d (.int i)) c = .ok (.d (.int (-i))) c := rfl
@[simp] theorem mApp_ap {i : Nat} {m : Mo CV} {c : CS} : mApp i m c = (chkL i c).bind fun _ => mBind m fun y => onList i (apD y) (apC y) := rfl
@[simp] theorem mExt_ap {i : Nat} {m : Mo BV} {c : CS} : mExt i m c = (chkL i c).bind fun _ => mBind m fun y => onList i (exD y) (exC y) := rfl
@[simp] theorem mPopO_ap {m a : Mo CV} {c : CS} : mPopO m a c = (m c).bind fun x => mBind (chkO x) fun _ => mBind a fun y => mBind (asI y) fun k => onObj x (ppC k) := rfl
@[simp] theorem sPutG_ap {i : Nat} {k m : Mo CV} {c : CS} : sPutG i k m c = (m c).sbind fun y => sBind (mPeek i) fun _ => sBind k fun k => sBind (gPutG i k y) fun _ => sNx := rfl
@[simp] theorem gO_ap {f : BV → List CO → Option α} {g : α → β} {y : BV} {sl : List Sl} {hp : List CO} : gO f g y ⟨sl, hp⟩ = mOpt ((f y hp).map g) ⟨sl, hp⟩ := by
  show (match f y hp with
    | some z => Res.ok (g z) _
    | none => .no) = _
  cases f y hp <;> rfl
end
@[simp] theorem pAdd_int {i j : Int} : pAdd (.int i) (.int j) = some (.int (i + j)) := rfl
@[simp] theorem pSub_int {i j : Int} : pSub (.int i) (.int j) = some (.int (i - j)) := rfl
@[simp] theorem pLt_int {i j : Int} : pLt (.int i) (.int j) = some (.bool (decide (i < j))) := rfl
@[simp] theorem pGt_int {i j : Int} : pGt (.int i) (.int j) = some (.bool (decide (j < i))) := rfl
@[simp] theorem pLe_int {i j : Int} : pLe (.int i) (.int j) = some (.bool (decide (i ≤ j))) := rfl
@[simp] theorem pGe_int {i j : Int} : pGe (.int i) (.int j) = some (.bool (decide (j ≤ i))) := rfl
theorem pI2_ap {C : Int → Int → Bool} {f : Int → Int → PyData} {i j : Int} (h : C i j = true) : pI2 C f (.int i) (.int j) = some (f i j) := by
  show (if C i j then some (f i j) else none) = _
  rw [if_pos h]
@[simp] theorem pMod_int {i j : Int} (h : 0 < j) : pMod (.int i) (.int j) = some (.int (i % j)) := pI2_ap (decide_eq_true h)
@[simp] theorem pDiv_int {i j : Int} (h : 0 < j) (h2 : j < 1073741824) : pDiv (.int i) (.int j) = some (.int (i / j)) := pI2_ap (by rw [decide_eq_true h, decide_eq_true h2]; rfl)
theorem pMul_int {i j : Int} (h : (-(2 ^ 64) < j ∧ j < 2 ^ 64) ∨ (-(2 ^ 64) < i ∧ i < 2 ^ 64)) : pMul (.int i) (.int j) = some (.int (i * j)) := pI2_ap (by
  rcases h with ⟨h1, h2⟩ | ⟨h1, h2⟩
  · rw [decide_eq_true h1, decide_eq_true h2, Bool.and_self, Bool.or_true]
  · rw [decide_eq_true h1, decide_eq_true h2, Bool.and_self, Bool.true_or])
theorem pMulT_int {i j : Int} (h : (-(2 ^ 64) < j ∧ j < 2 ^ 64) ∨ (-(2 ^ 64) < i ∧ i < 2 ^ 64)) : pMulT (.int i) (.int j) = some (.int (i * j)) := pMul_int h
@[simp] theorem pEq_int {i j : Int} : pEq (.int i) (.int j) = some (.bool (decide (i = j))) := by
  unfold pEq
  rw [if_pos ⟨rfl, rfl, by exact Nat.le_trans (Nat.min_le_left _ _) (by show (0 : Nat) ≤ 60; decide)⟩]
  congr 2
@[simp] theorem pNe_int {i j : Int} : pNe (.int i) (.int j) = some (.bool (!decide (i = j))) := by
  unfold pNe
  rw [if_pos ⟨rfl, rfl, by exact Nat.le_trans (Nat.min_le_left _ _) (by show (0 : Nat) ≤ 60; decide)⟩]
  congr 2
theorem ixg_list {xs : List PyData} {i : Int} {c : CS} {x : PyData} (h : L2.atI xs i = some x) : gIxG (.c (.d (.list xs))) (.d (.int i)) c = .ok (.d x) c := by
  show (match (L2.atI xs i).map CV.d with
    | some z => Res.ok z c
    | none => .no) = _
  rw [h]
  rfl
theorem ixg_ref {n : Nat} {xs : List CV} {i : Int} {sl : List Sl} {hp : List CO} {x : CV} (e : hp[n]? = some (.lst xs)) (h : L2.atI xs i = some x) : gIxG (.c (.r n)) (.d (.int i)) ⟨sl, hp⟩ = .ok x ⟨sl, hp⟩ := by
  have e1 : bDic (.c (.r n)) hp = none := by
    show (match hp[n]? with
      | some (.dic kvs) => some kvs
      | _ => none) = none
    rw [e]
  have e2 : pIx (.c (.r n)) i hp = some x := by
    show (match hp[n]? with
      | some (.lst xs) => L2.atI xs i
      | _ => none) = _
    rw [e]
    exact h
  show (match bDic (.c (.r n)) hp with
    | some kvs => _
    | none => gIx (.c (.r n)) (.d (.int i)) ⟨sl, hp⟩) = _
  rw [e1]
  show (match pIx (.c (.r n)) i hp with
    | some z => Res.ok z _
    | none => .no) = _
  rw [e2]
theorem putg_ref {n i : Nat} {xs ys : List CV} {k : Int} {y : CV} {sl : List Sl} {hp : List CO} (hi : sl[i]? = some (.v (.r n))) (e : hp[n]? = some (.lst xs)) (h : stC k y xs = some (ys, .d .none)) :
    gPutG i (.d (.int k)) y ⟨sl, hp⟩ = .ok (.d .none) ⟨sl, hp.set n (.lst ys)⟩ := by
  unfold gPutG
  simp only [hi, e]
  unfold onList
  simp only [hi, e, h]
def m_next : MS :=
  (sSeq (sPutG 0 (mC (.int 1)) (m2 (lift2 pAdd) (mIxNG 0 (mC (.int 1))) (mC (.int 1))))
  (sSeq (sSet 2 (m2 (lift2 pDiv) (mIxNG 0 (mC (.int 1))) (mBind (mBo (mIxNG 0 (mC (.int 0)))) gLen)))
  (sRet (m2 (lift2 pMod) (mBind (mBo (m2 (lift2 pAdd) (m2 (lift2 pAdd) (mIxG (mIxNG 0 (mC (.int 0))) (m2 (lift2 pMod) (mIxNG 0 (mC (.int 1))) (mBind (mBo (mIxNG 0 (mC (.int 0)))) gLen))) (m2 (lift2 pMulT) (mVar 2) (mC (.int 389)))) (m2 (lift2 pMulT) (m2 (lift2 pMulT) (mIxNG 0 (mC (.int 1))) (mVar 2)) (mC (.int 17))))) gInt) (mVar 1)))))
def F_next : Fn := fnOf m_next 3
def m_stream : MS :=
  (sSeq (sOwn 1 (mLst mNil))
  (sSeq (sFor (mItems (mFz (mSlL (mVar 0) (mRet none) (mPart (mC (.int 63)))))) (gN 2)
  (sSeq (sSet 3 (mBind (mBo (mBind (mPeek 2) gInt)) gAbs))
  (sIf (mTru (m2 (lift2 pGe) (mVar 3) (m2 (lift2 pPow) (mC (.int 10)) (mC (.int 18))))) (sFor (mRg1 (mC (.int 60))) (gN 4)
  (sSeq (sDrop (mApp 1 (m2 (lift2 pMod) (mBind (mPeek 3) gInt) (mC (.int 1009)))))
  (sSeq (sSet 3 (m2 (lift2 pDiv) (mVar 3) (mC (.int 1009))))
  (sIf (mTru (m2 (lift2 pEq) (mVar 3) (mC (.int 0)))) sBk sNx)))) (sSeq (sSet 5 (m2 (lift2 pMod) (mBind (mPeek 3) gInt) (mC (.int 2147483647))))
  (sFor (mRg1 (mC (.int 10))) (gN 4)
  (sSeq (sSet 5 (m2 (lift2 pMod) (mBind (mBo (m2 (lift2 pAdd) (m2 (lift2 pAdd) (m2 (lift2 pMulT) (mVar 5) (mC (.int 48271))) (m2 (lift2 pMulT) (mC (.int 7)) (mVar 4))) (mC (.int 11)))) gInt) (mC (.int 2147483647))))
  (sDrop (mApp 1 (m2 (lift2 pMod) (m2 (lift2 pMod) (mBind (mBo (m2 (lift2 pAdd) (m2 (lift2 pMulT) (mVar 5) (mC (.int 69621))) (mVar 4))) gInt) (mC (.int 2147483629))) (mC (.int 1009)))))))))))
  (sSeq (sIf (mTru (m2 (lift2 pEq) (mBind (mPeek 1) gLen) (mC (.int 0)))) (sDrop (mApp 1 (mC (.int 0)))) sNx)
  (sRet (mVar 1)))))
def F_stream : Fn := fnOf m_stream 6
def stO (nums : List Int) (c : Int) : CO := .lst [.d (.list (nums.map .int)), .d (.int c)]
/-- the number that the stream gives at a place -/
def nextV (nums : List Int) (c m : Int) : Int := (nums.getD ((c + 1) % nums.length).toNat 0 + (c + 1) / nums.length * 389 + (c + 1) * ((c + 1) / nums.length) * 17) % m
theorem next_eq {hp : List CO} {n : Nat} {nums : List Int} {c m : Int} (hn : nums ≠ []) (hl : nums.length ≤ 4000) (hc : 0 ≤ c) (hc2 : c ≤ 1000000) (hm : 0 < m) (h : hp[n]? = some (stO nums c)) :
    F_next [.r n, .d (.int m)] hp = .ok (.d (.int (nextV nums c m))) (hp.set n (stO nums (c + 1))) := by
  have hlt : n < hp.length := by
    rcases Nat.lt_or_ge n hp.length with h1 | h1
    · exact h1
    · rw [List.getElem?_eq_none h1] at h
      cases h
  have h2 : (hp.set n (stO nums (c + 1)))[n]? = some (stO nums (c + 1)) := by rw [List.getElem?_set_self hlt]
  have a0 : ∀ c, L2.atI [CV.d (.list (nums.map .int)), .d (.int c)] 0 = some (.d (.list (nums.map .int))) := fun _ => rfl
  have a1 : ∀ c, L2.atI [CV.d (.list (nums.map .int)), .d (.int c)] 1 = some (.d (.int c)) := fun _ => rfl
  have p1 : stC 1 (.d (.int (c + 1))) [CV.d (.list (nums.map .int)), .d (.int c)] = some ([CV.d (.list (nums.map .int)), .d (.int (c + 1))], .d .none) := rfl
  have hL : 0 < (nums.length : Int) := by
    cases nums with
    | nil => exact absurd rfl hn
    | cons _ _ => exact Int.natCast_pos.mpr (Nat.succ_pos _)
  have hL2 : (nums.length : Int) < 1073741824 := by omega
  have q0 : 0 ≤ (c + 1) / (nums.length : Int) := Int.ediv_nonneg (by omega) (by omega)
  have q1 : (c + 1) / (nums.length : Int) ≤ c + 1 := Int.ediv_le_self _ (by omega)
  have r0 := Int.emod_nonneg (c + 1) (b := (nums.length : Int)) (by omega)
  have r1 := Int.emod_lt_of_pos (c + 1) hL
  have at1 : L2.atI (nums.map PyData.int) ((c + 1) % (nums.length : Int)) = some (.int (nums.getD ((c + 1) % nums.length).toNat 0)) := by
    unfold L2.atI L2.ixN
    rw [List.length_map, if_pos r0, if_pos r1]
    show (nums.map PyData.int)[((c + 1) % (nums.length : Int)).toNat]? = _
    rw [List.getElem?_map, List.getD_eq_getElem?_getD]
    have : ((c + 1) % (nums.length : Int)).toNat < nums.length := by omega
    rw [List.getElem?_eq_getElem this]
    rfl
  have m1 : pMulT (.int ((c + 1) / (nums.length : Int))) (.int 389) = some (.int ((c + 1) / (nums.length : Int) * 389)) := pMulT_int (.inl (by decide))
  have m2 : pMulT (.int (c + 1)) (.int ((c + 1) / (nums.length : Int))) = some (.int ((c + 1) * ((c + 1) / (nums.length : Int)))) := pMulT_int (.inl (by omega))
  have m3 : pMulT (.int ((c + 1) * ((c + 1) / (nums.length : Int)))) (.int 17) = some (.int ((c + 1) * ((c + 1) / (nums.length : Int)) * 17)) := pMulT_int (.inl (by decide))
  unfold F_next fnOf m_next
  have pt : ∀ sl : List Sl, sl[0]? = some (.v (.r n)) → gPutG 0 (.d (.int 1)) (.d (.int (c + 1))) ⟨sl, hp⟩ = .ok (.d .none) ⟨sl, hp.set n (stO nums (c + 1))⟩ := fun sl e => putg_ref e h p1
  have d1 : pDiv (.int (c + 1)) (.int (nums.length : Int)) = _ := pDiv_int hL hL2
  have d2 : pMod (.int (c + 1)) (.int (nums.length : Int)) = _ := pMod_int hL
  simp [d1, d2, nextV, ixg_ref h (a1 _), pt, ixg_ref h2 (a1 _), ixg_ref h2 (a0 _), lenB, bIntB, hL, hL2, gLen, gInt, m1, m2, m3, ixg_list at1, hm]
/-! ### loops -/
/-- a loop's outcome: I holds behind each turn; R tells what the loop's end is -/
theorem forL_inv {g : CV → CS → Option CS} {body : MS} {xs : List PyData} {c : CS} (I : List PyData → CS → Prop) (R : RS → Prop) (h0 : I [] c)
    (h : ∀ pre x post c, xs = pre ++ x :: post → I pre c → ∃ c1, g (.d x) c = some c1 ∧ match body c1 with
      | .nx c2 => I (pre ++ [x]) c2
      | .ct c2 => I (pre ++ [x]) c2
      | .bk c2 => R (.nx c2)
      | .rt y c2 => R (.rt y c2)
      | .ex e c2 => R (.ex e c2)
      | .no => False)
    (he : ∀ c, I xs c → R (.nx c)) : R (forL g body xs c) := by
  suffices ∀ (post pre : List PyData) (c : CS), xs = pre ++ post → I pre c → R (forL g body post c) from this xs [] c rfl h0
  intro post
  induction post with
  | nil =>
    intro pre c e i
    rw [List.append_nil] at e
    subst e
    exact he c i
  | cons x post ih =>
    intro pre c e i
    obtain ⟨c1, e1, q⟩ := h pre x post c e i
    have e' : xs = (pre ++ [x]) ++ post := by rw [e, List.append_assoc]; rfl
    unfold forL
    rw [e1]
    show R (match body c1 with
      | .nx c2 => forL g body post c2
      | .ct c2 => forL g body post c2
      | .bk c2 => .nx c2
      | .rt y c2 => .rt y c2
      | .ex e c2 => .ex e c2
      | .no => .no)
    cases eb : body c1 with
    | nx c2 => rw [eb] at q; exact ih _ _ e' q
    | ct c2 => rw [eb] at q; exact ih _ _ e' q
    | bk c2 => rw [eb] at q; exact q
    | rt y c2 => rw [eb] at q; exact q
    | ex y c2 => rw [eb] at q; exact q
    | no => rw [eb] at q; exact q.elim
@[simp] theorem gN_f {i : Nat} {x : CV} {c : CS} : (gN i).f x c = some (cSet i (.v x) c) := rfl
def chkS (s : Option Sl) (c : CS) : Res Unit := match s with
  | some (.ol _) => .ok () c
  | some (.v (.r n)) => match c.hp[n]? with
    | some (.lst _) => .ok () c
    | _ => .no
  | _ => .no
@[simp] theorem chkL_ap {i : Nat} {sl : List Sl} {hp : List CO} : chkL i ⟨sl, hp⟩ = chkS sl[i]? ⟨sl, hp⟩ := rfl
@[simp] theorem chkS_ol {xs : List PyData} {c : CS} : chkS (some (.ol xs)) c = .ok () c := rfl
def onSl (s : Option Sl) (i : Nat) (f : List PyData → Option (List PyData × PyData)) (g : List CV → Option (List CV × CV)) (c : CS) : Res CV := match s with
  | some (.ol xs) => match f xs with
    | some (ys, z) => .ok (.d z) (cSet i (.ol ys) c)
    | none => .no
  | some (.v (.r n)) => match c.hp[n]? with
    | some (.lst xs) => match g xs with
      | some (ys, z) => .ok z { c with hp := c.hp.set n (.lst ys) }
      | none => .no
    | _ => .no
  | _ => .no
@[simp] theorem onList_ap {i : Nat} {f : List PyData → Option (List PyData × PyData)} {g : List CV → Option (List CV × CV)} {sl : List Sl} {hp : List CO} : onList i f g ⟨sl, hp⟩ = onSl sl[i]? i f g ⟨sl, hp⟩ := rfl
theorem onSl_app {i : Nat} {sl : List Sl} {hp : List CO} {xs : List PyData} {y : PyData} {g : List CV → Option (List CV × CV)} (hl : xs.length < 16777216) : onSl (some (.ol xs)) i (apD (.d y)) g ⟨sl, hp⟩ = .ok (.d .none) ⟨sl.set i (.ol (xs ++ [y])), hp⟩ := by
  unfold onSl
  simp only [apD, if_pos hl]
  rfl
theorem onSl_ext {i : Nat} {sl : List Sl} {hp : List CO} {xs ys : List PyData} {g : List CV → Option (List CV × CV)} (hl : xs.length + ys.length ≤ 16777216) : onSl (some (.ol xs)) i (exD (.l ys)) g ⟨sl, hp⟩ = .ok (.d .none) ⟨sl.set i (.ol (xs ++ ys)), hp⟩ := by
  unfold onSl
  simp only [exD, if_pos hl]
  rfl
/-! ### a statement's run, read against what is wanted of its end -/
structure Wp (D : RS → Prop) (m : MS) (c : CS) : Prop where
  out : D (m c)
/-- behind a: b -/
def aft (D : RS → Prop) (b : MS) : RS → Prop := fun r => match r with
  | .nx c => Wp D b c
  | r => D r
section
variable {D : RS → Prop} {c c1 : CS} {a b : MS} {i : Nat}
theorem go (h : Wp D b c) : aft D b (.nx c) := h
theorem Wp.seq (h : Wp (aft D b) a c) : Wp D (sSeq a b) c := by
  have h := h.out
  refine ⟨?_⟩
  rw [sSeq_ap]
  cases e : a c <;> (rw [e] at h; first | exact h | exact Wp.out h)
theorem Wp.set {m : Mo CV} {x : CV} (e : m c = .ok x c1) (h : D (.nx (cSet i (.v x) c1))) : Wp D (sSet i m) c := by
  refine ⟨?_⟩
  rw [sSet_ap, e]
  exact h
theorem Wp.own {m : Mo (List PyData)} {x : List PyData} (e : m c = .ok x c1) (h : D (.nx (cSet i (.ol x) c1))) : Wp D (sOwn i m) c := by
  refine ⟨?_⟩
  rw [sOwn_ap, e]
  exact h
theorem Wp.drop {m : Mo CV} {x : CV} (e : m c = .ok x c1) (h : D (.nx c1)) : Wp D (sDrop m) c := by
  refine ⟨?_⟩
  rw [sDrop_ap, e]
  exact h
theorem Wp.ret {m : Mo CV} {x : CV} (e : m c = .ok x c1) (h : D (.rt x c1)) : Wp D (sRet m) c := by
  refine ⟨?_⟩
  rw [sRet_ap, e]
  exact h
theorem Wp.retX {m : Mo CV} {x : XC} (e : m c = .ex x c1) (h : D (.ex x c1)) : Wp D (sRet m) c := by
  refine ⟨?_⟩
  rw [sRet_ap, e]
  exact h
theorem Wp.dropX {m : Mo CV} {x : XC} (e : m c = .ex x c1) (h : D (.ex x c1)) : Wp D (sDrop m) c := by
  refine ⟨?_⟩
  rw [sDrop_ap, e]
  exact h
theorem Wp.ift {m : Mo Bool} (e : m c = .ok true c1) (h : Wp D a c1) : Wp D (sIf m a b) c := by
  refine ⟨?_⟩
  rw [sIf_ap, e]
  exact h.out
theorem Wp.iff {m : Mo Bool} (e : m c = .ok false c1) (h : Wp D b c1) : Wp D (sIf m a b) c := by
  refine ⟨?_⟩
  rw [sIf_ap, e]
  exact h.out
theorem Wp.ite {m : Mo Bool} {k : Bool} (e : m c = .ok k c1) (h : k = true → Wp D a c1) (h' : k = false → Wp D b c1) : Wp D (sIf m a b) c := by
  cases k with
  | true => exact .ift e (h rfl)
  | false => exact .iff e (h' rfl)
theorem Wp.nx (h : D (.nx c)) : Wp D sNx c := ⟨h⟩
theorem Wp.bk (h : D (.bk c)) : Wp D sBk c := ⟨h⟩
theorem Wp.raise {x : Str} (h : D (.ex ⟨x, []⟩ c)) : Wp D (sRaise x) c := ⟨h⟩
theorem Wp.put {k m : Mo CV} {x y : CV} {c2 c3 : CS} {z : CV} {q : BV} {c1' : CS} (e1 : m c = .ok x c1) (e2 : mPeek i c1 = .ok q c1') (e3 : k c1' = .ok y c2) (e4 : gPutG i y x c2 = .ok z c3) (h : D (.nx c3)) : Wp D (sPutG i k m) c := by
  refine ⟨?_⟩
  rw [sPutG_ap, e1, rs_ok, sBind_ap, e2, rs_ok, sBind_ap, e3, rs_ok, sBind_ap, e4]
  exact h
/-- what a turn of a loop must do -/
def trn (I : CS → Prop) (D : RS → Prop) : RS → Prop := fun r => match r with
  | .nx c2 => I c2
  | .ct c2 => I c2
  | .bk c2 => D (.nx c2)
  | .rt y c2 => D (.rt y c2)
  | .ex e c2 => D (.ex e c2)
  | .no => False
theorem Wp.for {m : Mo (List PyData)} {g : Tg} {xs : List PyData} (e : m c = .ok xs c1) (I : List PyData → CS → Prop) (h0 : I [] c1)
    (h : ∀ pre x post c, xs = pre ++ x :: post → I pre c → ∃ c1, g.f (.d x) c = some c1 ∧ Wp (trn (I (pre ++ [x])) D) a c1) (he : ∀ c, I xs c → D (.nx c)) : Wp D (sFor m g a) c := by
  refine ⟨?_⟩
  rw [sFor_ap, e]
  refine forL_inv I D h0 (fun pre x post c q i => ?_) he
  obtain ⟨c1, e1, w⟩ := h pre x post c q i
  refine ⟨c1, e1, ?_⟩
  have w := w.out
  unfold trn at w
  exact w
end
/-- how a def's run ends -/
def fin (r : RS) : FR := match r with
  | .nx c => .ok (.d .none) c.hp
  | .rt x c => .ok x c.hp
  | .ex e c => .ex e c.hp
  | _ => .no
theorem fn_wp {m : MS} {n : Nat} {xs : List CV} {hp : List CO} {P : FR → Prop} (h : Wp (fun r => P (fin r)) m ⟨xs.map .v ++ List.replicate (n - xs.length) .un, hp⟩) : P (fnOf m n xs hp) := h.out
end Cl

set_option Elab.async false
set_option maxRecDepth 100000
set_option maxHeartbeats 2000000
namespace Cl
open PySem PySem.Spec PyProof.Rows
/-- numbers as the stream has them -/
def Small (xs : List Int) : Prop := ∀ x ∈ xs, 0 ≤ x ∧ x < 1009
theorem Small.add {xs : List Int} (h : Small xs) (y : Int) : Small (xs ++ [y % 1009]) := fun x m => by
  rcases List.mem_append.mp m with m | m
  · exact h x m
  · have := List.mem_singleton.mp m
    omega
theorem mem_rgL {a : Int} {n : Nat} {x : PyData} (h : x ∈ rgL a n) : ∃ i : Int, x = .int i := by
  unfold rgL at h
  obtain ⟨i, _, rfl⟩ := List.mem_map.mp h
  exact ⟨_, rfl⟩
theorem len_rgL {a : Int} {n : Nat} : (rgL a n).length = n := by
  unfold rgL
  rw [List.length_map, List.length_range]

/-- the stream's numbers so far, in slot 1 of 6 -/
def StI (scr : CV) (hp : List CO) (k : Nat) (c : CS) : Prop := ∃ (nums : List Int) (s2 s3 s4 s5 : Sl), c = ⟨[.v scr, .ol (nums.map .int), s2, s3, s4, s5], hp⟩ ∧ nums.length ≤ k ∧ Small nums
theorem pAdd_mod {y : Int} {nums : List Int} : (nums.map PyData.int) ++ [.int y] = (nums ++ [y]).map PyData.int := by
  rw [List.map_append]
  rfl
theorem StI.more {scr : CV} {hp : List CO} {k : Nat} {nums : List Int} {r : Int} {s2 s3 s4 s5 : Sl} (hl : nums.length + 1 ≤ k) (hs : Small nums) : StI scr hp k ⟨[.v scr, .ol (nums.map .int ++ [.int (r % 1009)]), s2, s3, s4, s5], hp⟩ :=
  ⟨nums ++ [r % 1009], s2, s3, s4, s5, by rw [← pAdd_mod], by rw [List.length_append]; exact hl, hs.add r⟩
theorem stream_eq {ns : List Int} (hl : ns.length ≤ 63) (hp : List CO) : ∃ nums : List Int, nums ≠ [] ∧ nums.length ≤ 4000 ∧ F_stream [.d (.list (ns.map .int))] hp = .ok (.d (.list (nums.map .int))) hp := by
  refine fn_wp (m := m_stream) (n := 6) (P := fun r => ∃ nums : List Int, nums ≠ [] ∧ nums.length ≤ 4000 ∧ r = .ok (.d (.list (nums.map .int))) hp) ?_
  refine .seq (.own rfl (go (.seq (.for (xs := ns.map .int) ?_ (fun pre c => StI (.d (.list (ns.map .int))) hp (60 * pre.length) c) ⟨[], .un, .un, .un, .un, rfl, by decide, fun x m => by cases m⟩ ?_ ?_))))
  · show Res.ok (cutP (ns.map .int) none (some 63)) _ = _
    have : cutP (ns.map PyData.int) none (some 63) = ns.map .int := by
      unfold cutP
      rw [show HT.sIx (ns.map PyData.int).length 0 none = 0 from rfl, show HT.sIx (ns.map PyData.int).length (ns.map PyData.int).length (some 63) = min 63 (ns.map PyData.int).length from rfl, List.length_map, Nat.min_eq_right hl, List.drop_zero]
      exact List.take_of_length_le (by rw [List.length_map]; exact Nat.le_refl _)
    rw [this]
    rfl
  · rintro pre x post c hx ⟨nums, s2, s3, s4, s5, rfl, hlen, hs⟩
    obtain ⟨z, rfl⟩ : ∃ z : Int, x = .int z := by
      have : x ∈ ns.map PyData.int := by
        rw [hx]
        exact List.mem_append.mpr (.inr (.head _))
      obtain ⟨z, _, e⟩ := List.mem_map.mp this
      exact ⟨z, e.symm⟩
    refine ⟨_, rfl, .seq (.set rfl (go (.ite rfl (fun _ => ?_) fun _ => ?_)))⟩
    · refine .for (xs := rgL 0 60) rfl (fun p c => StI (.d (.list (ns.map .int))) hp (60 * pre.length + p.length) c ∧ ∃ r : Int, c.sl[3]? = some (.v (.d (.int r)))) ⟨⟨nums, _, _, _, _, rfl, by simpa using hlen, hs⟩, _, rfl⟩ ?_ ?_
      · rintro p y post c hp' ⟨⟨nums, s2, s3, s4, s5, rfl, hlen, hs⟩, r, hr⟩
        cases (show some s3 = _ from hr)
        have hpl : p.length + 1 ≤ 60 := by
          have := congrArg List.length hp'
          rw [len_rgL, List.length_append, List.length_cons] at this
          omega
        have small : (nums.map PyData.int).length < 16777216 := by
          have : pre.length ≤ 63 := by
            have := congrArg List.length hx
            rw [List.length_map, List.length_append] at this
            omega
          have h2 : p.length ≤ 60 := by
            have := congrArg List.length hp'
            rw [len_rgL, List.length_append] at this
            omega
          rw [List.length_map]
          omega
        refine ⟨_, rfl, .seq (.drop (x := .d .none) (c1 := ⟨[.v (.d (.list (ns.map .int))), .ol ((nums ++ [r % 1009]).map .int), s2, .v (.d (.int r)), .v (.d y), s5], hp⟩) ?_ (go ?_))⟩
        · simp only [rs_ok, mApp_ap, gN_f, cSet_mk, chkL_ap]; simp [-List.map_append, gInt, bIntB, onSl_app small, pMod_int (i := r) (j := 1009) (by decide), pAdd_mod]
        · refine .seq (.set (x := .d (.int (r / 1009))) (c1 := _) (by simp; rfl) (go (.ite rfl (fun _ => ?_) fun _ => ?_)))
          · refine .bk ?_
            exact StI.more (by rw [List.length_append, List.length_singleton]; omega) hs
          · refine .nx ?_
            exact ⟨StI.more (by rw [List.length_append, List.length_singleton]; omega) hs, _, rfl⟩
      · rintro c ⟨⟨nums, s2, s3, s4, s5, rfl, hlen, hs⟩, _⟩
        exact ⟨nums, _, _, _, _, rfl, by rw [len_rgL] at hlen; simp; omega, hs⟩
    · refine .seq (.set (x := .d (.int ((if z < 0 then -z else z) % 2147483647))) (c1 := _) (by simp [gInt, bIntB, pMod_int (i := if z < 0 then -z else z) (j := 2147483647) (by decide)]; rfl) (go ?_))
      refine .for (xs := rgL 0 10) rfl (fun p c => StI (.d (.list (ns.map .int))) hp (60 * pre.length + p.length) c ∧ ∃ r : Int, c.sl[5]? = some (.v (.d (.int r))) ∧ 0 ≤ r ∧ r < 2147483647) ⟨⟨nums, _, _, _, _, rfl, by simpa using hlen, hs⟩, _, rfl, by omega, by omega⟩ ?_ ?_
      · rintro p y post c hp' ⟨⟨nums, s2, s3, s4, s5, rfl, hlen, hs⟩, r, hr, r0, r1⟩
        cases (show some s5 = _ from hr)
        obtain ⟨i, rfl⟩ : ∃ i : Int, y = .int i := mem_rgL (a := 0) (n := 10) (by rw [hp']; exact List.mem_append.mpr (.inr (.head _)))
        have hpl : p.length + 1 ≤ 10 := by
          have := congrArg List.length hp'
          rw [len_rgL, List.length_append, List.length_cons] at this
          omega
        have small : (nums.map PyData.int).length < 16777216 := by
          have : pre.length ≤ 63 := by
            have := congrArg List.length hx
            rw [List.length_map, List.length_append] at this
            omega
          rw [List.length_map]
          omega
        have w0 := Int.emod_nonneg (r * 48271 + 7 * i + 11) (b := 2147483647) (by decide)
        have w1 := Int.emod_lt_of_pos (r * 48271 + 7 * i + 11) (b := 2147483647) (by decide)
        refine ⟨_, rfl, .seq (.set (x := .d (.int ((r * 48271 + 7 * i + 11) % 2147483647))) (c1 := _) (by simp [gInt, bIntB, pMulT_int (i := r) (j := 48271) (.inl (by decide)), pMulT_int (i := 7) (j := i) (.inr (by decide)), pMod_int (i := r * 48271 + 7 * i + 11) (j := 2147483647) (by decide)]; rfl) (go ?_))⟩
        generalize (r * 48271 + 7 * i + 11) % 2147483647 = r' at w0 w1 ⊢
        refine .drop (x := .d .none) (c1 := ⟨[.v (.d (.list (ns.map .int))), .ol (nums.map .int ++ [.int ((r' * 69621 + i) % 2147483629 % 1009)]), s2, s3, .v (.d (.int i)), .v (.d (.int r'))], hp⟩) ?_ ?_
        · simp only [cSet_mk, mApp_ap, chkL_ap]
          simp [-List.map_append, gInt, bIntB, onSl_app small, pMulT_int (i := r') (j := 69621) (.inl (by decide)), pMod_int (i := r' * 69621 + i) (j := 2147483629) (by decide), pMod_int (i := (r' * 69621 + i) % 2147483629) (j := 1009) (by decide)]
        · exact ⟨StI.more (by rw [List.length_append, List.length_singleton]; omega) hs, _, rfl, w0, w1⟩
      · rintro c ⟨⟨nums, s2, s3, s4, s5, rfl, hlen, hs⟩, _⟩
        exact ⟨nums, _, _, _, _, rfl, by rw [len_rgL] at hlen; simp; omega, hs⟩
  · rintro c ⟨nums, s2, s3, s4, s5, rfl, hlen, hs⟩
    rw [List.length_map] at hlen
    refine go ?_
    cases nums with
    | nil =>
      refine .seq (.ift rfl (.drop (x := .d .none) (c1 := ⟨[.v (.d (.list (ns.map .int))), .ol ([0].map .int), s2, s3, s4, s5], hp⟩) rfl (go (.ret rfl ?_))))
      exact ⟨[0], by decide, by decide, rfl⟩
    | cons n nums =>
      refine .seq (.iff (c1 := ⟨[.v (.d (.list (ns.map .int))), .ol ((n :: nums).map .int), s2, s3, s4, s5], hp⟩) ?_ (.nx (go (.ret rfl ?_))))
      · simp [gLen, lenB]
        omega
      · exact ⟨n :: nums, by simp, by omega, rfl⟩
end Cl

set_option Elab.async false
set_option maxRecDepth 100000
set_option maxHeartbeats 2000000
/-! Comprehensions worked out. -/
namespace Cl
open PySem PySem.Spec PyProof.Rows
theorem lc_inv {mi : Mo (List PyData)} {g : Tg} {tt : Mo Bool} {te : Mo CV} {vs : List Nat} {xs : List PyData} {c c0 : CS} (e : mi c = .ok xs c0) (hl : xs.length ≤ 16777216) (I : List PyData → List PyData → CS → Prop) (h0 : I [] [] (wipeC vs c0))
    (h : ∀ pre x post acc w, xs = pre ++ x :: post → I pre acc w → ∃ c1 b c2, g.f (.d x) w = some c1 ∧ tt c1 = .ok b c2 ∧ (b = false → I (pre ++ [x]) acc (wipeC vs c2)) ∧ (b = true → ∃ y c3, te c2 = .ok (.d y) c3 ∧ I (pre ++ [x]) (acc ++ [y]) (wipeC vs c3))) :
    ∃ acc w, I xs acc w ∧ mLc mi g tt te vs c = .ok acc (restC vs c0 w) := by
  suffices ∀ (post pre acc : List PyData) (c1 : CS), xs = pre ++ post → acc.length ≤ pre.length → I pre acc (wipeC vs c1) → ∃ acc1 c2, compL g.f tt te vs post acc c1 = .ok acc1 c2 ∧ I xs acc1 (wipeC vs c2) by
    obtain ⟨acc, c2, e2, i2⟩ := this xs [] [] c0 rfl (Nat.le_refl _) h0
    refine ⟨acc, _, i2, ?_⟩
    unfold mLc
    rw [mBind_ap, e, rb_ok, e2]
  intro post
  induction post with
  | nil =>
    intro pre acc c1 e1 _ i
    rw [List.append_nil] at e1
    subst e1
    exact ⟨acc, c1, rfl, i⟩
  | cons x post ih =>
    intro pre acc c1 e1 la i
    have e' : xs = (pre ++ [x]) ++ post := by rw [e1, List.append_assoc]; rfl
    have lx : pre.length < xs.length := by
      rw [e1, List.length_append, List.length_cons]
      omega
    obtain ⟨c2, b, c3, q1, q2, q3, q4⟩ := h pre x post acc _ e1 i
    unfold compL
    rw [q1]
    cases b with
    | false =>
      obtain ⟨acc1, c4, r1, r2⟩ := ih (pre ++ [x]) acc c3 e' (by rw [List.length_append]; omega) (q3 rfl)
      refine ⟨acc1, c4, ?_, r2⟩
      show (match tt c2 with
        | .ok true c2 => _
        | .ok false c2 => compL g.f tt te vs post acc c2
        | _ => .no) = _
      rw [q2]
      exact r1
    | true =>
      obtain ⟨y, c4, q5, q6⟩ := q4 rfl
      obtain ⟨acc1, c5, r1, r2⟩ := ih (pre ++ [x]) (acc ++ [y]) c4 e' (by rw [List.length_append, List.length_append]; exact Nat.add_le_add_right la 1) q6
      refine ⟨acc1, c5, ?_, r2⟩
      show (match tt c2 with
        | .ok true c2 => match te c2 with
          | .ok (.d y) c3 => if acc.length < 16777216 then compL g.f tt te vs post (acc ++ [y]) c3 else .no
          | _ => .no
        | .ok false c2 => compL g.f tt te vs post acc c2
        | _ => .no) = _
      rw [q2]
      show (match te c3 with
          | .ok (.d y) c3 => if acc.length < 16777216 then compL g.f tt te vs post (acc ++ [y]) c3 else .no
          | _ => .no) = _
      rw [q5]
      show (if acc.length < 16777216 then compL g.f tt te vs post (acc ++ [y]) c4 else .no) = _
      rw [if_pos (by omega)]
      exact r1
/-- elements that leave the state as it was -/
theorem lc_pure {mi : Mo (List PyData)} {g : Tg} {tt : Mo Bool} {te : Mo CV} {vs : List Nat} {xs : List PyData} {c c0 w : CS} (k : PyData → Bool) (f : PyData → PyData) (e : mi c = .ok xs c0) (hl : xs.length ≤ 16777216) (hw : wipeC vs c0 = w)
    (h : ∀ x ∈ xs, ∃ c1 c2, g.f (.d x) w = some c1 ∧ tt c1 = .ok (k x) c2 ∧ (k x = false → wipeC vs c2 = w) ∧ (k x = true → ∃ c3, te c2 = .ok (.d (f x)) c3 ∧ wipeC vs c3 = w)) :
    mLc mi g tt te vs c = .ok ((xs.filter k).map f) (restC vs c0 w) := by
  obtain ⟨acc, w', ⟨i1, i2⟩, i3⟩ := lc_inv (mi := mi) (g := g) (tt := tt) (te := te) (vs := vs) e hl (fun pre acc v => acc = (pre.filter k).map f ∧ v = w) ⟨rfl, hw⟩ fun pre x post acc v ex ⟨e1, e2⟩ => by
    subst e2
    obtain ⟨c1, c2, q1, q2, q3, q4⟩ := h x (by rw [ex]; exact List.mem_append.mpr (.inr (.head _)))
    refine ⟨c1, k x, c2, q1, q2, fun hk => ⟨?_, q3 hk⟩, fun hk => ?_⟩
    · rw [List.filter_append, List.map_append, e1]
      simp [hk]
    · obtain ⟨c3, q5, q6⟩ := q4 hk
      refine ⟨_, c3, q5, ?_, q6⟩
      rw [List.filter_append, List.map_append, e1]
      simp [hk]
  rw [i3, i1, i2]
/-- without a test -/
theorem lc_map {mi : Mo (List PyData)} {g : Tg} {te : Mo CV} {vs : List Nat} {xs : List PyData} {c c0 w : CS} (f : PyData → PyData) (e : mi c = .ok xs c0) (hl : xs.length ≤ 16777216) (hw : wipeC vs c0 = w)
    (h : ∀ x ∈ xs, ∃ c1 c3, g.f (.d x) w = some c1 ∧ te c1 = .ok (.d (f x)) c3 ∧ wipeC vs c3 = w) :
    mLc mi g mYes te vs c = .ok (xs.map f) (restC vs c0 w) := by
  have := lc_pure (tt := mYes) (te := te) (fun _ => true) f e hl hw fun x m => by
    obtain ⟨c1, c3, q1, q2, q3⟩ := h x m
    exact ⟨c1, c1, q1, rfl, fun q => Bool.noConfusion q, fun _ => ⟨c3, q2, q3⟩⟩
  rwa [List.filter_eq_self.mpr fun _ _ => rfl] at this
end Cl

set_option Elab.async false
set_option maxRecDepth 100000
set_option maxHeartbeats 2000000
/-! Data: sizes, order. -/
namespace Cl
open PySem PySem.Spec PyProof.Rows
theorem plainAll_of {xs : List PyData} (h : ∀ x ∈ xs, x.plain = true) : PyData.plainAll xs = true := by
  induction xs with
  | nil => rfl
  | cons x xs ih => simp [PyData.plainAll, h x (.head _), ih fun y m => h y (.tail _ m)]
theorem showAll_of {xs : List PyData} (h : ∀ x ∈ xs, x.showable = true) : PyData.showableAll xs = true := by
  induction xs with
  | nil => simp [PyData.showableAll]
  | cons x xs ih => simp [PyData.showableAll, h x (.head _), ih fun y m => h y (.tail _ m)]
theorem depthAll_of {xs : List PyData} {n : Nat} (h : ∀ x ∈ xs, x.depth ≤ n) : PyData.depthAll xs ≤ n := by
  induction xs with
  | nil => simp [PyData.depthAll]
  | cons x xs ih =>
    simp only [PyData.depthAll]
    exact Nat.max_le.mpr ⟨h x (.head _), ih fun y m => h y (.tail _ m)⟩
theorem sumLen_of {xs : List PyData} {n : Nat} (h : ∀ x ∈ xs, x.shown.length ≤ n) : ((PyData.shownAll xs).map (·.length)).sum ≤ xs.length * n ∧ (PyData.shownAll xs).length = xs.length := by
  induction xs with
  | nil => simp [PyData.shownAll]
  | cons x xs ih =>
    obtain ⟨i1, i2⟩ := ih fun y m => h y (.tail _ m)
    have := h x (.head _)
    simp only [PyData.shownAll, List.map_cons, List.sum_cons, List.length_cons, Nat.add_mul, Nat.one_mul]
    omega
/-- a datum that can be compared and shown -/
structure Fine (d s : Nat) (x : PyData) : Prop where
  pl : x.plain = true
  sh : x.showable = true
  dp : x.depth ≤ d
  le : x.shown.length ≤ s
theorem Fine.up {d s d' s' : Nat} {x : PyData} (h : Fine d s x) (h1 : d ≤ d') (h2 : s ≤ s') : Fine d' s' x := ⟨h.pl, h.sh, Nat.le_trans h.dp h1, Nat.le_trans h.le h2⟩
theorem Fine.tuple {d s k : Nat} {xs : List PyData} (h : ∀ x ∈ xs, Fine d s x) (hk : xs.length ≤ k) : Fine (d + 1) (k * (s + 2) + 3) (.tuple xs) where
  pl := by
    simp only [PyData.plain]
    exact plainAll_of fun x m => (h x m).pl
  sh := by
    simp only [PyData.showable]
    exact showAll_of fun x m => (h x m).sh
  dp := by
    simp only [PyData.depth]
    exact Nat.succ_le_succ (depthAll_of fun x m => (h x m).dp)
  le := by
    simp only [PyData.shown]
    obtain ⟨a, b⟩ := sumLen_of fun x m => (h x m).le
    have := tupleText_len_le (PyData.shownAll xs)
    rw [b] at this
    have e := Nat.mul_le_mul_right (s + 2) hk
    rw [Nat.mul_add] at e
    omega
theorem Fine.list {d s k : Nat} {xs : List PyData} (h : ∀ x ∈ xs, Fine d s x) (hk : xs.length ≤ k) : Fine (d + 1) (k * (s + 2) + 3) (.list xs) where
  pl := by
    simp only [PyData.plain]
    exact plainAll_of fun x m => (h x m).pl
  sh := by
    simp only [PyData.showable]
    exact showAll_of fun x m => (h x m).sh
  dp := by
    simp only [PyData.depth]
    exact Nat.succ_le_succ (depthAll_of fun x m => (h x m).dp)
  le := by
    simp only [PyData.shown]
    obtain ⟨a, b⟩ := sumLen_of fun x m => (h x m).le
    have := listText_len_le (PyData.shownAll xs)
    rw [b] at this
    have e := Nat.mul_le_mul_right (s + 2) hk
    rw [Nat.mul_add] at e
    omega
theorem Fine.eq {d s : Nat} {x : PyData} (h : Fine d s x) (hd : d ≤ 60) : pEq x x = some (.bool true) := by
  unfold pEq
  rw [if_pos ⟨h.pl, h.pl, by have := h.dp; omega⟩, SeqAt.eqv_refl_plain x h.pl]
theorem Fine.ne {d s : Nat} {x : PyData} (h : Fine d s x) (hd : d ≤ 60) : pNe x x = some (.bool false) := by
  unfold pNe
  rw [if_pos ⟨h.pl, h.pl, by have := h.dp; omega⟩, SeqAt.eqv_refl_plain x h.pl]
  rfl
theorem Fine.rep {d s : Nat} {x : PyData} {hp : List CO} (h : Fine d s x) (hd : d ≤ 60) (hs : s ≤ 16777216) : bRep (.c (.d x)) hp = some x.shown := by
  show (if x.plain = true ∧ x.showable = true ∧ x.depth ≤ 60 ∧ x.shown.length ≤ 16777216 then some x.shown else none) = _
  rw [if_pos ⟨h.pl, h.sh, by have := h.dp; omega, by have := h.le; omega⟩]
theorem Fine.repL {d s : Nat} {xs : List PyData} {hp : List CO} (h : Fine d s (.list xs)) (hd : d ≤ 60) (hs : s ≤ 16777216) : bRep (.l xs) hp = some (PyData.list xs).shown := by
  have h1 := h.pl
  have h2 := h.sh
  have h3 := h.dp
  have h4 := h.le
  simp only [PyData.plain] at h1
  simp only [PyData.showable] at h2
  simp only [PyData.depth] at h3
  show (if PyData.plainAll xs = true ∧ PyData.showableAll xs = true ∧ PyData.depthAll xs ≤ 59 ∧ (PyData.list xs).shown.length ≤ 16777216 then some (PyData.list xs).shown else none) = _
  rw [if_pos ⟨h1, h2, by omega, by omega⟩]
theorem fine_str {s : Str} {n : Nat} (h : (PyData.str s).shown.length ≤ n) : Fine 0 n (.str s) := ⟨rfl, by simp [PyData.showable], by simp [PyData.depth], h⟩
theorem pEq_str {x y : Str} : pEq (.str x) (.str y) = some (.bool (x == y)) := rfl
theorem pNe_str {x y : Str} : pNe (.str x) (.str y) = some (.bool (!(x == y))) := rfl
/-! ### order -/
theorem dLe_tot : PySem.W.TotalLe dLe := dLe_total
theorem dLe_tok {a b : PyData} (h1 : dLe a b = true) (h2 : dLe b a = true) : PySem.W.keyToks a = PySem.W.keyToks b := by
  have e1 : (!PyProof.Rows.lexLt itemOrd (PySem.W.keyToks b) (PySem.W.keyToks a)) = true := h1
  have e2 : (!PyProof.Rows.lexLt itemOrd (PySem.W.keyToks a) (PySem.W.keyToks b)) = true := h2
  rw [Bool.not_eq_true'] at e1 e2
  exact lex_total _ _ e2 e1
theorem all_same_perm {α : Type} : ∀ {l m : List α}, l.Perm m → (∀ a ∈ l, ∀ b ∈ l, a = b) → l = m
  | [], m, p, _ => (List.nil_perm.mp p).symm
  | x :: l, m, p, h => by
    have e1 : x :: l = List.replicate (x :: l).length x := List.eq_replicate_iff.mpr ⟨rfl, fun y my => h y my x (.head _)⟩
    rw [e1] at p
    rw [e1]
    exact List.replicate_perm.mp p
theorem sort_perm {l m : List PyData} (p : l.Perm m) (h : ∀ a ∈ l, ∀ b ∈ l, PySem.W.keyToks a = PySem.W.keyToks b → a = b) : sortD l = sortD m := by
  refine PySem.W.sort_one dLe_tot _ _ (PySem.W.sort_pairwise dLe_tot l) (PySem.W.sort_pairwise dLe_tot m) fun c => ?_
  unfold sortD
  rw [PySem.W.sort_stable dLe_tot, PySem.W.sort_stable dLe_tot]
  refine all_same_perm (p.filter _) fun a ma b mb => ?_
  obtain ⟨a1, a2⟩ := List.mem_filter.mp ma
  obtain ⟨b1, b2⟩ := List.mem_filter.mp mb
  unfold PySem.W.sameRank at a2 b2
  rw [Bool.and_eq_true] at a2 b2
  exact h a a1 b b1 (dLe_tok (dLe_tot.trans _ _ _ a2.2 b2.1) (dLe_tot.trans _ _ _ b2.2 a2.1))
theorem sortD_prm (l : List PyData) : List.Perm (sortD l) l := List.mergeSort_perm l _
theorem sortD_mem {l : List PyData} {x : PyData} : x ∈ sortD l ↔ x ∈ l := (sortD_prm l).mem_iff
/-! ### logs -/
abbrev Log := List (Str × Int)
def evD (p : Str × Int) : PyData := .tuple [.str p.1, .int p.2]
def logD (l : Log) : PyData := .tuple (l.map evD)
theorem ev_toks (p : Str × Int) : PySem.W.keyToks (evD p) = [.inl 1, .inr p.1.cps.toList, .inl 1, .inl p.2, .inl 0] := by
  simp [evD, PySem.W.keyToks, PySem.W.keyToksAll]
theorem evD_inj {p q : Str × Int} (h : evD p = evD q) : p = q := by
  unfold evD at h
  injection h with h
  injection h with h1 h
  injection h with h2 h
  injection h1 with h1
  injection h2 with h2
  exact Prod.ext h1 h2
theorem logs_toks : ∀ {l m : Log}, PySem.W.keyToksAll (l.map evD) = PySem.W.keyToksAll (m.map evD) → l = m
  | [], [], _ => rfl
  | [], q :: m, h => by
    simp [PySem.W.keyToksAll] at h
  | p :: l, [], h => by
    simp [PySem.W.keyToksAll] at h
  | p :: l, q :: m, h => by
    simp only [List.map_cons, PySem.W.keyToksAll, ev_toks] at h
    simp only [List.cons_append, List.nil_append, List.cons.injEq, Sum.inl.injEq, Sum.inr.injEq, true_and] at h
    obtain ⟨h1, h2, h3⟩ := h
    have : p = q := Prod.ext (PySem.W.str_of_cps h1) h2
    rw [this, logs_toks h3]
theorem logD_toks {l m : Log} (h : PySem.W.keyToks (logD l) = PySem.W.keyToks (logD m)) : l = m := by
  unfold logD at h
  simp only [PySem.W.keyToks] at h
  exact logs_toks h
theorem logs_sort {l m : List Log} (p : l.Perm m) : sortD (l.map logD) = sortD (m.map logD) := by
  refine sort_perm (p.map _) fun a ma b mb e => ?_
  obtain ⟨x, _, rfl⟩ := List.mem_map.mp ma
  obtain ⟨y, _, rfl⟩ := List.mem_map.mp mb
  rw [logD_toks e]
theorem logs_sorted (l : List Log) : ∃ m : List Log, sortD (l.map logD) = m.map logD ∧ m.Perm l :=
  ⟨l.mergeSort fun a b => dLe (logD a) (logD b), (PySem.W.sort_maps logD fun _ _ _ _ => rfl).symm, List.mergeSort_perm _ _⟩
end Cl

set_option Elab.async false
set_option maxRecDepth 100000
set_option maxHeartbeats 2000000
/-! enumerate of lists and tuples; zip. -/
namespace ClE
open PySem PySem.Spec PyProof.Rows
open Sem (wp)
open AutoSeq1 (wpAny_loadPart')
theorem meets_enumerate_newT (l : Addr) (items : Array Value) (n : Nat) (dct : Option Addr) (sl : Array (Option Value)) :
    Meets (Builtin.«enumerate.__new__» ⟨[.type "enumerate", .ref l], []⟩) (fun _ R s => s.heap.get? l = some { cls := .type "tuple", dict := dct, data := .seq items n, slots := sl } ∧
      R (.ok (.ret (.ref (s.heap.push { cls := .type "tuple_iterator", data := .fields #[.ref l, .int 0 0] }).objs.size)))
        { s with heap := (s.heap.push { cls := .type "tuple_iterator", data := .fields #[.ref l, .int 0 0] }).push { cls := .type "enumerate", data := .fields #[.none, .bool false, .ref s.heap.objs.size, rawInt 0, .none, .none] } }) :=
  .of_wp fun prog w A R s h => by
    obtain ⟨hp, g, d, tk, os⟩ := s; obtain ⟨hl, h⟩ := h
    have hsub := sub_enumerate
    have hL : Heap.IsTuple (Shared.heap ⟨hp, g, d, tk, os⟩) l items := ⟨_, hl, rfl, n, rfl⟩
    wp_walk using wpAny_loadPart' hl
    refine wpAny_stack_any fun st => wpAny_pure ?_
    split
    · rename_i c _ _ _ _ _
      cases (c == Value.type "enumerate")
      · wp_walk using wpAny_loadPart' hl, wpAny_pyIter_tuple hL
        exact ⟨_, rfl, h⟩
      · wp_walk using wpAny_loadPart' hl, wpAny_pyIter_tuple hL
        exact ⟨_, rfl, h⟩
    · wp_walk using wpAny_loadPart' hl, wpAny_pyIter_tuple hL
      exact ⟨_, rfl, h⟩
section
variable {prog : Program} {w : World} {A : Around} {E : Value → Shared → Prop} {s : Shared}
theorem call_enumerate_tuple {l : Addr} {items : Array Value} {Q : Value → Shared → Prop} (hL : s.heap.IsTuple l items)
    (h : ∀ h', IsEnum h' (s.heap.objs.size + 1) s.heap.objs.size 0 .none → h'.IsTupleIter s.heap.objs.size l 0 → h'.objs.size = s.heap.objs.size + 2 →
      (∀ b o, s.heap.get? b = some o → h'.get? b = some o) → Q (.ref (s.heap.objs.size + 1)) { s with heap := h' }) :
    wpAny (model prog w) A (call (.type "enumerate") [.ref l]) Q E s := by
  obtain ⟨⟨c, dct, dt, sl⟩, hl, hc, n, hd⟩ := hL
  replace hc : c = .type "tuple" := hc
  replace hd : dt = .seq items n := hd
  subst hc hd
  refine callType_new F.called_enumerate (by decide) (F.typeCall_enumerate_1 _) (F.newCall_enumerate_1 _) (fun obj => F.args_object_init_2 obj _) F.entry_enumerate_new
    (meets_enumerate_newT l items n dct sl) ⟨hl, ?_⟩
  have hz : (s.heap.push { cls := .type "tuple_iterator", data := .fields #[.ref l, .int 0 0] }).objs.size = s.heap.objs.size + 1 := Heap.size_push ..
  show _ ∧ _
  rw [hz]
  have he : IsEnum ((s.heap.push { cls := .type "tuple_iterator", data := .fields #[.ref l, .int 0 0] }).push
      { cls := .type "enumerate", data := .fields #[.none, .bool false, .ref s.heap.objs.size, rawInt 0, .none, .none] }) (s.heap.objs.size + 1) s.heap.objs.size 0 .none := by
    have := Heap.get?_push_size (s.heap.push { cls := .type "tuple_iterator", data := .fields #[.ref l, .int 0 0] })
      (o := { cls := .type "enumerate", data := .fields #[.none, .bool false, .ref s.heap.objs.size, rawInt 0, .none, .none] }) rfl
    rw [hz] at this; exact this
  refine ⟨⟨_, he, rfl⟩, h _ he ⟨_, Heap.get?_push_of_some _ (Heap.get?_push_size _ rfl), rfl, rfl⟩ (by rw [Heap.size_push, hz]) fun b o x => Heap.get?_push_of_some _ (Heap.get?_push_of_some _ x)⟩
end
end ClE
namespace Cl
open PySem PySem.Spec PyProof.Rows L2 RZ
def IteT (K : PySem.W.Frag) (a : Addr) : It :=
  ⟨fun i H => ∃ (xs : List V) (x : V), SqT K H a xs ∧ xs[i]? = some x, fun i H v H' => ∃ T x, v = .ref T ∧ H T = none ∧ H' = upd H T (.tup [.int (i : Nat), x]) ∧ ∀ xs, SqT K H a xs → xs[i]? = some x, fun i H => ∃ xs : List V, SqT K H a xs ∧ xs.length ≤ i⟩
theorem turn_enumT {P : Program} {w : World} {K : PySem.W.Frag} {elts : List Expr} {kk : Nat} {tpos : Pos} (a e it : Addr) (hea : e ≠ a) (hia : a ≠ it) :
    Turn P w K (.Tuple elts kk tpos) (IteT K a) [e, it] e (fun i h => (∃ old, IsEnum h e it ((i : Nat) : Int) old) ∧ h.IsTupleIter it a i ∧ e ≠ it) where
  mem := by simp
  obj := fun i h st b hb => by
    obtain ⟨⟨old, he⟩, ⟨o, ho, hc, hd⟩, _⟩ := st
    have e' : b = e ∨ b = it := by simpa using hb
    rcases e' with z | z
    · rw [z]; exact ⟨_, he, fun v q => nomatch q⟩
    · rw [z]; exact ⟨o, ho, fun v q => by rw [hd] at q; cases q⟩
  keep := fun i h h' st k => let ⟨⟨old, he⟩, hi, hne⟩ := st; ⟨⟨old, k e (by simp) _ he⟩, hi.at fun o q => k it (by simp) o q, hne⟩
  item := by
    intro X hP hw hK hc i pins s σ H E I hf st hg
    subst hP hw hK
    obtain ⟨⟨old, he⟩, hit, hne⟩ := st
    obtain ⟨xs, x, hq, hx⟩ := hg
    obtain ⟨its, rv, p, hz⟩ := I.tuple hq
    obtain ⟨u, hu, ru⟩ := rv.get hx
    have hel : e < s.heap.objs.size := Heap.lt_size he
    have hil : it < s.heap.objs.size := by obtain ⟨_, q, _⟩ := hit; exact Heap.lt_size q
    have hlen : i < its.toArray.size := by
      have := (List.getElem?_eq_some_iff.mp hu).1
      simpa using this
    refine wpAny_pyNext_enum_itemD (n := its.toArray.size) (fp := [it, a]) (Draws.tuple (show X.A.in1.handled = none from I.ok.hd hc) it a hia its.toArray) he ⟨hit, p⟩ hlen hne (by simp [hne, hea]) fun x' h' tk hx' ho hst' hT hsz hk => ?_
    have ex : x' = u := by
      have hu' : its.toArray[i]? = some u := by simpa using hu
      rw [hu'] at hx'
      exact (Option.some.inj hx').symm
    subst ex
    obtain ⟨hit', p'⟩ := hst'
    refine ⟨_, rfl, wpAny_letOwnedTupleGo_enum (s := { s with heap := h', toks := tk + 1 }) ho fun h'' he' sb => ?_⟩
    have hT2 : h''.get? s.heap.objs.size = some { cls := .type "tuple", data := .seq #[.int i tk, x'] } := (sb.2 _ (Nat.ne_of_gt hel)).trans hT
    have new : ObjOk X.prog X.w (upd H s.heap.objs.size (.tup [.int (i : Nat), x])) h'' s.heap.objs.size (.tup [.int (i : Nat), x]) :=
      ⟨by show 2 ≤ sizeLine; decide, [.int i tk, x'], .cons ⟨_, rfl⟩ (.cons ru .nil), ⟨_, hT2, rfl, _, rfl⟩⟩
    have I1 : Inv X pins σ (upd H s.heap.objs.size (.tup [.int (i : Nat), x])) { s with heap := h'', toks := tk + 1 } :=
      I.turnedNew (ch := [e, it]) (fun b ob hb q => (sb.2 b (fun z => hb (by simp [z]))).trans (hk b ob (fun z => hb (by simp [z])) (fun z => hb (by simp [z])) q)) hf (Nat.le_refl _) new
    refine ⟨.ref s.heap.objs.size, _, I1, rfl, ⟨_, x, rfl, I.hok.fresh (Nat.le_refl _), rfl, fun ys hy => by rw [I.tuple_inj hy hq]; exact hx⟩, ⟨⟨x', ?_⟩, hit'.at fun o q => (sb.2 it (Ne.symm hne)).trans q, hne⟩, fun b hb => ?_⟩
    · have e1 : ((i + 1 : Nat) : Int) = (i : Int) + 1 := by omega
      rw [e1]; exact he'
    · have hb' : b < s.heap.objs.size := by
        have e' : b = e ∨ b = it := by simpa using hb
        rcases e' with z | z
        · rw [z]; exact hel
        · rw [z]; exact hil
      rw [upd_ne (Nat.ne_of_lt hb')]
      exact (hf b hb).1
  done := by
    intro X hP hw hK hc i pins s σ H E I hf st hg
    subst hP hw hK
    obtain ⟨⟨old, he⟩, hit, hne⟩ := st
    obtain ⟨xs, hq, hx⟩ := hg
    obtain ⟨its, rv, p, hz⟩ := I.tuple hq
    obtain ⟨f0, f1, f2, f3, f4, f5⟩ := hf it (by simp)
    have hl := rv.length
    have hnone : its.toArray[i]? = none := by simp; omega
    have hT : s.TypeIs (.ref e) "enumerate" := ⟨_, he, rfl⟩
    unfold pyNext
    refine wpAny_bind (wpAny_attempt (wpAny_callSpecial?_slot (name := Str.ofString "__next__") hT F.slot_enumerate_next
      (wpAny_call_entry F.slot_enumerate_next hT F.entry_enumerate_next ?_ (F.args_enumerate_next_1 _))))
    show wpAny _ _ (field (.ref e) 2 >>= _) _ _ _
    refine wpAny_bind (wpAny_field he rfl (x := .ref it) rfl ?_)
    refine wpAny_bind (wpAny_nextOf_tuple_end (show X.A.in1.handled = none from I.ok.hd hc) hit p hnone fun h' x eb hx' => ?_)
    obtain ⟨o, ho, hc'⟩ := hx'
    refine wpAny_bind (wpAny_isInstance (T := "StopIteration") (b := true) ⟨o, ho, hc'⟩ isSubtype_stop ?_)
    exact wpAny_pure ⟨rfl, I.turned (t' := s.toks) (fun b o hb q => eb b o hb q) f0 f1 f3 f4 f5⟩
  self := fun A i s Q E st h => let ⟨⟨_, he⟩, _⟩ := st; wpAny_pyIter_enum he h
/-! ### the walks -/
def enumL (xs : List PyData) : List PyData := (List.range xs.length).map fun i => .tuple [.int (i : Nat), xs.getD i .none]
theorem enumL_get {xs : List PyData} {i : Nat} (h : i < xs.length) : (enumL xs)[i]? = some (.tuple [.int (i : Nat), xs[i]]) := by
  unfold enumL
  rw [List.getElem?_map, List.getElem?_range h]
  show some (PyData.tuple [.int (i : Nat), xs.getD i .none]) = _
  rw [List.getD_eq_getElem?_getD, List.getElem?_eq_getElem h]
  rfl
theorem enumL_len {xs : List PyData} : (enumL xs).length = xs.length := by unfold enumL; rw [List.length_map, List.length_range]
def zipL (xs ys : List PyData) : List PyData := List.zipWith (fun x y => .tuple [x, y]) xs ys
theorem zipL_get {xs ys : List PyData} {i : Nat} (h : i < xs.length) (h' : i < ys.length) : (zipL xs ys)[i]? = some (.tuple [xs[i], ys[i]]) := by
  unfold zipL
  rw [List.getElem?_zipWith, List.getElem?_eq_getElem h, List.getElem?_eq_getElem h']
theorem zipL_len {xs ys : List PyData} : (zipL xs ys).length = min xs.length ys.length := List.length_zipWith ..
theorem den_pair {K : KW} {H : Hp} {T : Addr} {x y : PyData} {v w : V} (new : H T = none) (dx : Den K H x v) (dy : Den K H y w) : Den K (upd H T (.tup [v, w])) (.tuple [x, y]) (.ref T) :=
  den_tup (DenL.cons (Den.mono (Fz.same (same_new new)) _ _ dx) (DenL.cons (Den.mono (Fz.same (same_new new)) _ _ dy) DenL.nil)) (SqT.of (upd_same ..))
section
variable {K : KW} {H1 : Hp} {a b : Addr} {vs ws : List V} {xs ys : List PyData}
theorem itE_ok (fz : FzL K.K H1 a vs) (dl : DenL K H1 xs vs) : ItOk K H1 (enumL xs) (Ite K.K a) where
  go := fun i H' hi f => by
    rw [enumL_len] at hi
    obtain ⟨v, hv, _⟩ := DenL.get dl (List.getElem?_eq_getElem hi)
    exact ⟨vs, v, (f.fzL fz).sq, hv⟩
  yld := fun i H' x H2 hi f y => by
    rw [enumL_len] at hi
    obtain ⟨T, x0, rfl, new, rfl, g⟩ := y
    obtain ⟨y, hy, dy⟩ := DenL.get' dl (g vs (f.fzL fz).sq)
    rw [List.getElem?_eq_getElem hi] at hy
    cases hy
    exact ⟨same_new new, _, enumL_get hi, den_pair new (den_int _) (Den.mono f _ _ dy)⟩
  stop := fun i H' hi f => by
    rw [enumL_len] at hi
    exact ⟨vs, (f.fzL fz).sq, by rw [dl.length]; exact hi⟩
theorem itET_ok (sq : SqT K.K H1 a vs) (dl : DenL K H1 xs vs) : ItOk K H1 (enumL xs) (IteT K.K a) where
  go := fun i H' hi f => by
    rw [enumL_len] at hi
    obtain ⟨v, hv, _⟩ := DenL.get dl (List.getElem?_eq_getElem hi)
    exact ⟨vs, v, f.sqT sq, hv⟩
  yld := fun i H' x H2 hi f y => by
    rw [enumL_len] at hi
    obtain ⟨T, x0, rfl, new, rfl, g⟩ := y
    obtain ⟨y, hy, dy⟩ := DenL.get' dl (g vs (f.sqT sq))
    rw [List.getElem?_eq_getElem hi] at hy
    cases hy
    exact ⟨same_new new, _, enumL_get hi, den_pair new (den_int _) (Den.mono f _ _ dy)⟩
  stop := fun i H' hi f => by
    rw [enumL_len] at hi
    exact ⟨vs, f.sqT sq, by rw [dl.length]; exact hi⟩
theorem itZ_ok (fz : FzL K.K H1 a vs) (gz : FzL K.K H1 b ws) (dl : DenL K H1 xs vs) (el : DenL K H1 ys ws) : ItOk K H1 (zipL xs ys) (Itz K.K a b) where
  go := fun i H' hi f => by
    rw [zipL_len] at hi
    obtain ⟨v, hv, _⟩ := DenL.get dl (List.getElem?_eq_getElem (show i < xs.length by omega))
    obtain ⟨w, hw, _⟩ := DenL.get el (List.getElem?_eq_getElem (show i < ys.length by omega))
    exact ⟨vs, ws, v, w, (f.fzL fz).sq, (f.fzL gz).sq, hv, hw⟩
  yld := fun i H' x H2 hi f y => by
    rw [zipL_len] at hi
    obtain ⟨T, x0, y0, rfl, new, rfl, g, k⟩ := y
    obtain ⟨y1, hy, dy⟩ := DenL.get' dl (g vs (f.fzL fz).sq)
    obtain ⟨z1, hz, dz⟩ := DenL.get' el (k ws (f.fzL gz).sq)
    rw [List.getElem?_eq_getElem (show i < xs.length by omega)] at hy
    rw [List.getElem?_eq_getElem (show i < ys.length by omega)] at hz
    cases hy
    cases hz
    exact ⟨same_new new, _, zipL_get (by omega) (by omega), den_pair new (Den.mono f _ _ dy) (Den.mono f _ _ dz)⟩
  stop := fun i H' hi f => by
    rw [zipL_len] at hi
    exact ⟨vs, ws, (f.fzL fz).sq, (f.fzL gz).sq, by rw [dl.length, el.length]; omega⟩
theorem itZT_ok (fz : SqT K.K H1 a vs) (gz : SqT K.K H1 b ws) (dl : DenL K H1 xs vs) (el : DenL K H1 ys ws) : ItOk K H1 (zipL xs ys) (ItzT K.K a b) where
  go := fun i H' hi f => by
    rw [zipL_len] at hi
    obtain ⟨v, hv, _⟩ := DenL.get dl (List.getElem?_eq_getElem (show i < xs.length by omega))
    obtain ⟨w, hw, _⟩ := DenL.get el (List.getElem?_eq_getElem (show i < ys.length by omega))
    exact ⟨vs, ws, v, w, f.sqT fz, f.sqT gz, hv, hw⟩
  yld := fun i H' x H2 hi f y => by
    rw [zipL_len] at hi
    obtain ⟨T, x0, y0, rfl, new, rfl, g, k⟩ := y
    obtain ⟨y1, hy, dy⟩ := DenL.get' dl (g vs (f.sqT fz))
    obtain ⟨z1, hz, dz⟩ := DenL.get' el (k ws (f.sqT gz))
    rw [List.getElem?_eq_getElem (show i < xs.length by omega)] at hy
    rw [List.getElem?_eq_getElem (show i < ys.length by omega)] at hz
    cases hy
    cases hz
    exact ⟨same_new new, _, zipL_get (by omega) (by omega), den_pair new (Den.mono f _ _ dy) (Den.mono f _ _ dz)⟩
  stop := fun i H' hi f => by
    rw [zipL_len] at hi
    exact ⟨vs, ws, f.sqT fz, f.sqT gz, by rw [dl.length, el.length]; omega⟩
end
section
variable {X : Cx} {N : Wn} {e e2 : Expr} {pos p tpos : Pos} {elts : List Expr} {kk : Nat}
def iEnumT (K : PySem.W.Frag) (ta : TA) : TI := fun σ H R => ta σ H fun vs H1 => ∃ a xs, vs = [.ref a] ∧ ((SqL K H1 a xs ∧ R (Ite K a) H1) ∨ (SqT K H1 a xs ∧ R (IteT K a) H1))
theorem pi_enumA {ta : TA} (hg : Gl X "enumerate") (hm : X.mg "enumerate" = none) (ha : PA X [e] ta) (hs : starEach [e] X.env = [(false, eval e X.env)] := by rfl) :
    PI X (.Tuple elts kk tpos) (.Call (.Name "enumerate" p) [e] [] pos) (iEnumT X.K ta) := by
  refine ⟨fun pins s σ H R I h => ?_⟩
  refine Call_ (ld_blt I hg hm boot_enumerate (PyProof.Rows.callWith_type1 (thn (ha.run pos pins s σ H _ I h) fun us s1 ⟨vs, H1, I1, r1, q1⟩ => ?_) hs rfl))
  obtain ⟨a, xs, ex, q1⟩ := q1
  subst ex
  cases r1 with
  | cons r rr =>
    cases rr
    cases r
    have fr : ∀ b, b ∈ [s1.heap.objs.size + 1, s1.heap.objs.size] → FpOk X pins H1 b := fun b hb => by
      have e' : b = s1.heap.objs.size + 1 ∨ b = s1.heap.objs.size := by simpa using hb
      have hle : s1.heap.objs.size ≤ b := by
        rcases e' with z | z
        · rw [z]; exact Nat.le_add_right _ _
        · rw [z]; exact Nat.le_refl _
      exact I1.fpOk hle (I1.hok.fresh hle)
    rcases q1 with ⟨hq, q⟩ | ⟨hq, q⟩
    · obtain ⟨its, rv, p', hz⟩ := I1.list hq
      refine call_enumerate_list p'.isList fun h' he hit hsz hk => wpAny_pyIter_enum he ?_
      have I2 : Inv X pins σ H1 { s1 with heap := h' } := I1.kept (t' := s1.toks) hk
      exact ⟨s1.heap.objs.size + 1, [s1.heap.objs.size + 1, s1.heap.objs.size], _, _, H1, rfl, I2, turn_enum a (s1.heap.objs.size + 1) s1.heap.objs.size, ⟨⟨.none, he⟩, hit, Nat.succ_ne_self _⟩, fr, q⟩
    · obtain ⟨its, rv, p', hz⟩ := I1.tuple hq
      obtain ⟨o1, ho1, _⟩ := id p'
      have hlt : a < s1.heap.objs.size := Heap.lt_size ho1
      refine ClE.call_enumerate_tuple p' fun h' he hit hsz hk => wpAny_pyIter_enum he ?_
      have I2 : Inv X pins σ H1 { s1 with heap := h' } := I1.kept (t' := s1.toks) hk
      exact ⟨s1.heap.objs.size + 1, [s1.heap.objs.size + 1, s1.heap.objs.size], _, _, H1, rfl, I2, turn_enumT a (s1.heap.objs.size + 1) s1.heap.objs.size (Nat.ne_of_gt (Nat.lt_succ_of_lt hlt)) (Nat.ne_of_lt hlt), ⟨⟨.none, he⟩, hit, Nat.succ_ne_self _⟩, fr, q⟩
/-- a list or a tuple -/
def sItems (x : CV) : Option (List PyData) := match x with
  | .d (.list xs) => some xs
  | .d (.tuple xs) => some xs
  | _ => none
def mEnum (m : Mo CV) : Mo (List PyData) := mBind m fun x => mOpt ((sItems x).map enumL)
theorem ci_enum {m : Mo CV} (hm : X.mg "enumerate" = none) (h : CE X N e m) (hg : Gl X "enumerate" := by rfl) (hs : starEach [e] X.env = [(false, eval e X.env)] := by rfl) : CI X N (.Tuple elts kk tpos) (.Call (.Name "enumerate" p) [e] [] pos) (mEnum m) := by
  refine ⟨fun pins s σ H R I h1 => (pi_enumA hg hm (pa_cons h pa_nil hs) hs).run pins s σ H R I ?_⟩
  obtain ⟨μ, c, Rl, p⟩ := h1
  refine ⟨μ, c, Rl, (RunAt.bind p).imp fun x μ1 c1 H1 a b r q v d => ?_⟩
  obtain ⟨ys, ey, q⟩ := RunAt.opt q
  have q := q H1 (Fz.refl _) r
  cases x with
  | r _ => cases ey
  | o _ => cases ey
  | d x =>
    cases x with
    | list xs =>
      cases ey
      have d : Den (kwOf X) H1 (.list xs) v := d
      simp only [Den] at d
      obtain ⟨l, vs, rfl, sq, dl⟩ := d
      exact ⟨l, vs, rfl, .inl ⟨sq.sq, q _ (itE_ok sq dl)⟩⟩
    | tuple xs =>
      cases ey
      have d : Den (kwOf X) H1 (.tuple xs) v := d
      simp only [Den] at d
      obtain ⟨l, vs, rfl, sq, dl⟩ := d
      exact ⟨l, vs, rfl, .inr ⟨sq, q _ (itET_ok sq dl)⟩⟩
    | none => cases ey
    | bool _ => cases ey
    | int _ => cases ey
    | str _ => cases ey
    | dict _ => cases ey
def zItems (x y : CV) : Option (List PyData) := match x, y with
  | .d (.list xs), .d (.list ys) => some (zipL xs ys)
  | .d (.tuple xs), .d (.tuple ys) => some (zipL xs ys)
  | _, _ => none
def mZip (ma mb : Mo CV) : Mo (List PyData) := mBind ma fun x => mBind mb fun y => mOpt (zItems x y)
theorem zItems_some {x y : CV} {zs : List PyData} (h : zItems x y = some zs) : ∃ xs ys, zs = zipL xs ys ∧ ((x = .d (.list xs) ∧ y = .d (.list ys)) ∨ (x = .d (.tuple xs) ∧ y = .d (.tuple ys))) := by
  unfold zItems at h
  split at h
  · cases h
    exact ⟨_, _, rfl, .inl ⟨rfl, rfl⟩⟩
  · cases h
    exact ⟨_, _, rfl, .inr ⟨rfl, rfl⟩⟩
  · cases h
theorem ci_zip {ma mb : Mo CV} (hm : X.mg "zip" = none) (ha : CE X N e ma) (hb : CE X N e2 mb) (hg : Gl X "zip" := by rfl) (hs : starEach [e, e2] X.env = (false, eval e X.env) :: starEach [e2] X.env := by rfl) (hs2 : starEach [e2] X.env = [(false, eval e2 X.env)] := by rfl)
    (hpl : (backTo pos (starEach [e2] X.env)).any (·.1) = false := by rfl) : CI X N (.Tuple elts kk tpos) (.Call (.Name "zip" p) [e, e2] [] pos) (mZip ma mb) := by
  refine ⟨fun pins s σ H R I h1 => (pi_zipA hg hm (pa_cons ha (pa_cons hb pa_nil hs2) hs) hs hpl).run pins s σ H R I ?_⟩
  obtain ⟨μ, c, Rl, p⟩ := h1
  refine ⟨μ, c, Rl, (RunAt.bind p).imp fun x μ1 c1 H1 a1 b1 r1 q1 v d => ⟨μ1, c1, r1, (RunAt.bind q1).imp fun y μ2 c2 H2 a2 b2 r2 q2 w d2 => ?_⟩⟩
  obtain ⟨zs, ez, q⟩ := RunAt.opt q2
  have q := q H2 (Fz.refl _) r2
  have d := VDen.mono b2 a2 d
  obtain ⟨xs, ys, rfl, ⟨rfl, rfl⟩ | ⟨rfl, rfl⟩⟩ := zItems_some ez
  · have d : Den (kwOf X) H2 (.list xs) v := d
    have d2 : Den (kwOf X) H2 (.list ys) w := d2
    simp only [Den] at d d2
    obtain ⟨l, vs, rfl, sq, dl⟩ := d
    obtain ⟨k, ws, rfl, sk, dk⟩ := d2
    exact ⟨l, k, vs, ws, rfl, .inl ⟨sq.sq, sk.sq, q _ (itZ_ok sq sk dl dk)⟩⟩
  · have d : Den (kwOf X) H2 (.tuple xs) v := d
    have d2 : Den (kwOf X) H2 (.tuple ys) w := d2
    simp only [Den] at d d2
    obtain ⟨l, vs, rfl, sq, dl⟩ := d
    obtain ⟨k, ws, rfl, sk, dk⟩ := d2
    exact ⟨l, k, vs, ws, rfl, .inr ⟨sq, sk, q _ (itZT_ok sq sk dl dk)⟩⟩
/-! ### a, b = e -/
def sUn (m : Mo CV) (g : Tg) : MS := sBind m fun x c => match g.f x c with
  | some c1 => .nx c1
  | none => .no
theorem cs_un {tg : Expr} {m : Mo CV} {g : Tg} (he : CE X N e m) (hg : CG X tg g) (hs : swapsWithSole [tg] e pos.line X.env = pure false := by rfl) (hw : swappedStores [tg] e X.env = pure none := by rfl)
    (h1 : (assignEach [tg] X.env).map (·.2) = [assign tg X.env] := by rfl) : CS1 X N (.Assign [tg] e pos) (sUn m g) :=
  PS.tm (ps_asg he hg hs hw h1) fun D σ H ⟨μ, c, R, p⟩ => ⟨μ, c, R, (RunS.bind p).imp fun x μ1 c1 H1 a b r q v d => by
    cases eg : g.f x c1 with
    | none =>
      rw [eg] at q
      exact q.elim
    | some c2 =>
      rw [eg] at q
      exact ⟨N.B, N.m0, μ1, c1, x, c2, r, d, eg, fun σ1 o1 R1 => q μ1 σ1 H1 (List.prefix_refl _) (Fz.refl _) R1⟩⟩
end
end Cl

set_option Elab.async false
set_option maxRecDepth 100000
set_option maxHeartbeats 2000000
/-! Instances: attributes, methods, making. -/
namespace Cl
open PySem PySem.Spec PyProof.Rows L2
structure ClsF (K : PySem.W.Frag) (mg : Str → Option Value) (cn : Str) (C : Addr) : Prop where
  gC : mg cn = some (.ref C)
  cl : Cls K C
theorem paired_lookup {K : KW} {H : Hp} {μ : List Addr} {f : Str} : ∀ {fs : List (Str × CV)} {gs : List (Str × V)}, Paired (fun p q => p.1 = q.1 ∧ VDen K H μ p.2 q.2) fs gs →
    (∀ y, fs.lookup f = some y → ∃ v, gs.lookup f = some v ∧ VDen K H μ y v) ∧ (fs.lookup f = none → gs.lookup f = none)
  | _, _, .nil => ⟨fun y h => (by cases h), fun _ => rfl⟩
  | (a, x) :: fs, (b, v) :: gs, .cons h t => by
    obtain ⟨i1, i2⟩ := paired_lookup (f := f) t
    obtain ⟨e, d⟩ := h
    have e : a = b := e
    subst e
    simp only [List.lookup_cons]
    cases hf : f == a with
    | true => exact ⟨fun y hy => (by cases hy; exact ⟨v, rfl, d⟩), fun hy => (by cases hy)⟩
    | false => exact ⟨i1, i2⟩
def putC (f : Str) (v : CV) : List (Str × CV) → List (Str × CV)
  | [] => [(f, v)]
  | (g, x) :: r => if g = f then (g, v) :: r else (g, x) :: putC f v r
theorem paired_put {K : KW} {H : Hp} {μ : List Addr} {f : Str} {y : CV} {v : V} (d : VDen K H μ y v) : ∀ {fs : List (Str × CV)} {gs : List (Str × V)}, Paired (fun p q => p.1 = q.1 ∧ VDen K H μ p.2 q.2) fs gs →
    Paired (fun p q => p.1 = q.1 ∧ VDen K H μ p.2 q.2) (putC f y fs) (putF f v gs)
  | _, _, .nil => .cons ⟨rfl, d⟩ .nil
  | (a, x) :: fs, (b, w) :: gs, .cons h t => by
    obtain ⟨e, dx⟩ := h
    have e : a = b := e
    subst e
    unfold putC putF
    by_cases hf : a = f
    · rw [if_pos hf, if_pos hf]
      exact .cons ⟨rfl, d⟩ t
    · rw [if_neg hf, if_neg hf]
      exact .cons ⟨rfl, dx⟩ (paired_put d t)
/-- the attributes of an instance of the class -/
def insOf (cn : Str) (x : CV) (hp : List CO) : Option (Nat × List (Str × CV)) := match x with
  | .r n => match hp[n]? with
    | some (.ins C fs) => if C = cn then some (n, fs) else none
    | _ => none
  | _ => none
theorem insOf_some {cn : Str} {x : CV} {hp : List CO} {n : Nat} {fs : List (Str × CV)} (h : insOf cn x hp = some (n, fs)) : x = .r n ∧ hp[n]? = some (.ins cn fs) := by
  cases x with
  | d _ => cases h
  | o _ => cases h
  | r m =>
    unfold insOf at h
    dsimp only at h
    cases e : hp[m]? with
    | none => rw [e] at h; cases h
    | some o =>
      rw [e] at h
      cases o with
      | lst _ => cases h
      | dic _ => cases h
      | ins C gs =>
        dsimp only at h
        by_cases hc : C = cn
        · rw [if_pos hc] at h
          cases h
          subst hc
          exact ⟨rfl, e⟩
        · rw [if_neg hc] at h
          cases h
section
variable {X : Cx} {N : Wn} {e o value : Expr} {pos p pos' : Pos} {cn f : Str} {C : Addr}
theorem ins_at {μ : List Addr} {c : CS} {σ : LSt} {H : Hp} {n : Nat} {fs : List (Str × CV)} {v : V} (F : ClsF X.K X.mg cn C) (R : Rel (gh X N) μ c σ H) (h : c.hp[n]? = some (.ins cn fs)) (d : VDen (kwOf X) H μ (.r n) v) :
    ∃ a dx gs, v = .ref a ∧ μ[n]? = some a ∧ H a = some (.ins C dx gs) ∧ Paired (fun p q => p.1 = q.1 ∧ VDen (kwOf X) H μ p.2 q.2) fs gs := by
  obtain ⟨a, ha, rfl⟩ := d
  obtain ⟨b, ho, e1, e2, Ca, dx, gs, rfl, e3, e4⟩ := R.hp n _ h
  rw [ha] at e1
  cases e1
  cases F.gC.symm.trans e3
  exact ⟨a, dx, gs, rfl, ha, e2, e4⟩
def fldOf (cn f : Str) (x : CV) : Mo CV := fun c => match insOf cn x c.hp with
  | some (_, fs) => match fs.lookup f with
    | some y => .ok y c
    | none => .no
  | none => .no
def mFld (cn f : Str) (m : Mo CV) : Mo CV := mBind m (fldOf cn f)
theorem ce_fld {m : Mo CV} (F : ClsF X.K X.mg cn C) (na : NoAttr X.K C f) (h : CE X N e m) (hb : attributeBase e f X.env (eval e X.env) = eval e X.env := by rfl) : CE X N (.Attribute e f pos) (mFld cn f m) :=
  PE.tm (pe_fld h hb) fun σ H Q ⟨μ, c, R, p⟩ => ⟨μ, c, R, (RunAt.bind p).imp fun x μ1 c1 H1 a b r q v d => by
    unfold RunAt fldOf at q
    cases ei : insOf cn x c1.hp with
    | none => rw [ei] at q; exact q.elim
    | some w =>
      obtain ⟨n, fs⟩ := w
      rw [ei] at q
      dsimp only at q
      obtain ⟨rfl, hn⟩ := insOf_some ei
      obtain ⟨ad, dx, gs, rfl, _, hH, pr⟩ := ins_at F r hn d
      cases el : fs.lookup f with
      | none => rw [el] at q; exact q.elim
      | some y =>
        rw [el] at q
        obtain ⟨u, hu, du⟩ := (paired_lookup pr).1 y el
        exact ⟨ad, C, dx, gs, u, rfl, hH, F.cl, na, hu, q μ1 H1 (List.prefix_refl _) (Fz.refl _) r u du⟩⟩
/-- x's attribute is y -/
def setFld (cn f : Str) (x y : CV) : MS := fun c => match insOf cn x c.hp with
  | some (n, fs) => if fs.length < 900 then .nx { c with hp := c.hp.set n (.ins cn (putC f y fs)) } else .no
  | none => .no
def sFldS (cn f : Str) (mo mv : Mo CV) : MS := sBind mv fun y => sBind mo fun x => setFld cn f x y
theorem setFld_ok {μ : List Addr} {c : CS} {σ : LSt} {H : Hp} {D : Ends} {x y : CV} {v w : V} (F : ClsF X.K X.mg cn C) (R : Rel (gh X N) μ c σ H) (q : RunS (gh X N) N.W (setFld cn f x y c) μ H D) (dx : VDen (kwOf X) H μ x v) (dy : VDen (kwOf X) H μ y w) :
    ∃ a dx gs, v = .ref a ∧ H a = some (.ins C dx gs) ∧ gs.length < 1000 ∧ D.nx σ (upd H a (.ins C dx (putF f w gs))) := by
  unfold setFld at q
  cases ei : insOf cn x c.hp with
  | none => rw [ei] at q; exact q.elim
  | some z =>
    obtain ⟨n, fs⟩ := z
    rw [ei] at q
    dsimp only at q
    obtain ⟨rfl, hn⟩ := insOf_some ei
    obtain ⟨ad, dd, gs, rfl, hm, hH, pr⟩ := ins_at F R hn dx
    by_cases hl : fs.length < 900
    · rw [if_pos hl] at q
      have fz : Fz H (upd H ad (.ins C dd (putF f w gs))) := Wr.fz (show Wr (.ins C dd gs) from trivial) hH
      have pr' : Paired (fun p q => p.1 = q.1 ∧ VDen (kwOf X) (upd H ad (.ins C dd (putF f w gs))) μ p.2 q.2) (putC f y fs) (putF f w gs) :=
        Paired.mapP (paired_put (K := kwOf X) dy pr) fun _ _ h => ⟨h.1, VDen.mono fz (List.prefix_refl _) h.2⟩
      obtain ⟨R2, f2⟩ := R.chHp hm (o' := .ins cn (putC f y fs)) (ho := .ins C dd (putF f w gs)) ⟨C, dd, _, rfl, F.gC, pr'⟩
      exact ⟨ad, dd, gs, rfl, hH, by rw [← Paired.length pr]; omega, q μ σ _ (List.prefix_refl _) f2 R2⟩
    · rw [if_neg hl] at q
      exact q.elim
theorem cs_fld {mo mv : Mo CV} (F : ClsF X.K X.mg cn C) (na : NoAttr X.K C f) (ho : CE X N o mo) (hv : CE X N value mv) (hs : swapsWith value (some (.Attribute o f pos')) pos.line X.env = pure false := by rfl) : CS1 X N (.Assign [.Attribute o f pos'] value pos) (sFldS cn f mo mv) :=
  PS.tm (ps_fld ho hv hs) fun D σ H ⟨μ, c, R, p⟩ => ⟨μ, c, R, (RunS.bind p).imp fun y μ1 c1 H1 a b r q v d => ⟨μ1, c1, r, (RunS.bind q).imp fun x μ2 c2 H2 a2 b2 r2 q2 w dx => by
    obtain ⟨ad, dd, gs, rfl, h1, h2, h3⟩ := setFld_ok F r2 q2 dx (VDen.mono b2 a2 d)
    exact ⟨ad, C, dd, gs, rfl, h1, F.cl, na, h2, h3⟩⟩⟩
end
/-! ### methods -/
section
variable {X : Cx} {N : Wn} {e o : Expr} {es : List Expr} {pos p apos : Pos} {cn m x : Str} {C : Addr} {k : Nat} {g : Addr} {fd : FuncData} {ps : List Str} {F : Fn} {n : Nat} {ma : Mo (List CV)}
def tMethS (C : Addr) (m : Str) (sp : Sp) (E : L2.St → XK) (ta : TE) (t : TA) : TE := fun σ H Q => ta σ H fun x H1 => ∃ a dx fs, x = .ref a ∧ H1 a = some (.ins C dx fs) ∧ fs.lookup m = none ∧ t σ H1 fun vs H2 => sp (x :: vs) H2 Q (E σ)
theorem pe_methG {CX : CXT} {sp : Sp} {E : L2.St → XK} {ta : TE} {t : TA} {pl : Sem Bool} (he : PE X o ta) (c : Cls X.K C) (hm : Meth X.K C m g) (G : FnG X.prog X.w X.K X.mg X.base CX k g fd ps sp) (hr : RoomG k X.A) (hb : Binds X.K fd ps []) (hx : ∀ σ, PassesAt CX X σ (E σ)) (ha : PA X (e :: es) t)
    (hst : starEach (e :: es) X.env = (false, eval e X.env) :: starEach es X.env := by rfl) (hpl : (backTo pos (starEach es X.env)).any (·.1) = false := by rfl)
    (ht : eval (.Call (.Attribute o m apos) (e :: es) [] pos) X.env = (do
      let ov ← eval o X.env
      standAt apos.atName
      let (f, first) ← holding [ov] (getMethod ov m pl)
      callWith pos f first (backTo pos (starEach (e :: es) X.env)) (backToKw pos (keywordEach [] X.env))) := by rfl) :
    PE X (.Call (.Attribute o m apos) (e :: es) [] pos) (tMethS C m sp E ta t) := by
  refine ⟨fun pins s σ H Q I h => ?_⟩
  refine PySem.W.methodCall_KW (pl := pl) (thn (he.run pins s σ H _ I h) fun u s1 ⟨x, H1, I1, rx, a, dx, fs, ex, ea, l, q⟩ => ?_) ht
  subst ex
  obtain rfl : u = Value.ref a := rx
  refine getmeth_ok I1 ea c hm l ?_
  refine PySem.W.callWith_K (first := [.ref a]) (h₀ := X.base) I.ok.mod.kin hm.kp (thn (ha.run pos pins s1 σ H1 _ I1 q) fun us s2 ⟨vs, H2, I2, r, q2⟩ => ⟨I2.kIn, ?_⟩) hst hpl
  exact run_fnG (us := .ref a :: us) (xs := .ref a :: vs) G hr hb (hx σ) I2 (.cons rfl r) q2
theorem pe_methG0 {CX : CXT} {sp : Sp} {E : L2.St → XK} {ta : TE} {pl : Sem Bool} (he : PE X o ta) (c : Cls X.K C) (hm : Meth X.K C m g) (G : FnG X.prog X.w X.K X.mg X.base CX k g fd ps sp) (hr : RoomG k X.A) (hb : Binds X.K fd ps []) (hx : ∀ σ, PassesAt CX X σ (E σ))
    (ht : eval (.Call (.Attribute o m apos) [] [] pos) X.env = (do
      let ov ← eval o X.env
      standAt apos.atName
      let (f, first) ← holding [ov] (getMethod ov m pl)
      callWith pos f first (backTo pos (starEach [] X.env)) (backToKw pos (keywordEach [] X.env))) := by rfl) :
    PE X (.Call (.Attribute o m apos) [] [] pos) (tMethS C m sp E ta tNil) := by
  refine ⟨fun pins s σ H Q I h => ?_⟩
  refine PySem.W.methodCall_KW (pl := pl) (thn (he.run pins s σ H _ I h) fun u s1 ⟨x, H1, I1, rx, a, dx, fs, ex, ea, l, q⟩ => ?_) ht
  subst ex
  obtain rfl : u = Value.ref a := rx
  refine getmeth_ok I1 ea c hm l ?_
  exact PySem.W.callWith_K0 (first := [.ref a]) I1.kIn hm.kp (run_fnG (us := [.ref a]) (xs := [.ref a]) G hr hb (hx σ) I1 (.cons rfl .nil) q)
def chkI (cn m : Str) (x : CV) : Mo Unit := fun c => match insOf cn x c.hp with
  | some (_, fs) => match fs.lookup m with
    | none => .ok () c
    | some _ => .no
  | none => .no
def mMeth (n : Nat) (F : Fn) (cn m : Str) (mo : Mo CV) (ma : Mo (List CV)) : Mo CV := mBind mo fun x => mBind (chkI cn m x) fun _ => mBind ma fun xs => runF n F (x :: xs)
theorem chkI_ok {α : Type} {f : Unit → Mo α} {μ : List Addr} {c : CS} {σ : LSt} {H : Hp} {P : α → List Addr → CS → Hp → Prop} {x : CV} {v : V} (F : ClsF X.K X.mg cn C) (R : Rel (gh X N) μ c σ H) (d : VDen (kwOf X) H μ x v) (q : RunAt (gh X N) N.W (mBind (chkI cn m x) f) μ c σ H P) :
    ∃ a dx fs, v = .ref a ∧ H a = some (.ins C dx fs) ∧ fs.lookup m = none ∧ RunAt (gh X N) N.W (f ()) μ c σ H P := by
  unfold RunAt mBind chkI at q
  cases ei : insOf cn x c.hp with
  | none => rw [ei] at q; exact q.elim
  | some w =>
    obtain ⟨n, fs⟩ := w
    rw [ei] at q
    dsimp only at q
    obtain ⟨rfl, hn⟩ := insOf_some ei
    obtain ⟨ad, dx, gs, rfl, _, hH, pr⟩ := ins_at F R hn d
    cases el : fs.lookup m with
    | some _ => rw [el] at q; exact q.elim
    | none =>
      rw [el] at q
      exact ⟨ad, dx, gs, rfl, hH, (paired_lookup pr).2 el, q⟩
theorem runF_sp {μ : List Addr} {c : CS} {σ : LSt} {H : Hp} {Q : VK} {xs : List CV} {vs : List V} (r : Rel (gh X N) μ c σ H) (d : VDenL (kwOf X) H μ xs vs) (q : RunAt (gh X N) N.W (runF n F xs) μ c σ H fun x μ1 _ H1 => ∀ v, VDen (kwOf X) H1 μ1 x v → Q v H1) :
    spC (kwOf X) X.mg F n vs H Q (WE N.W σ) := by
  unfold RunAt runF at q
  by_cases hl : xs.length = n
  · rw [if_pos hl] at q
    refine ⟨by rw [← Paired.length d]; exact hl, μ, xs, c.hp, HRel.of r rfl rfl, d, ?_⟩
    cases hF : F xs c.hp with
    | ok y hp1 =>
      rw [hF] at q
      intro μ2 v H2 po dv
      obtain ⟨R2, f2⟩ := po.fin r
      exact q μ2 H2 po.pre f2 R2 v dv
    | ex y hp1 =>
      rw [hF] at q
      intro μ2 cls dd H2 po dx
      obtain ⟨R2, f2⟩ := po.fin r
      exact q μ2 cls dd H2 po.pre f2 R2 dx
    | no =>
      rw [hF] at q
      exact q
  · rw [if_neg hl] at q
    exact q.elim
theorem ce_meth {mo : Mo CV} (Fc : ClsF X.K X.mg cn C) (hm : Meth X.K C m g) (G : FnG X.prog X.w X.K X.mg X.base (L2N.CX X.prog X.w) k g fd ps (spC (kwOf X) X.mg F n)) (hr : RoomG k X.A) (hb : Binds X.K fd ps []) (tk : L2N.Takes X N.W) (ho : CE X N o mo) (ha : CA X N (e :: es) ma)
    (hst : starEach (e :: es) X.env = (false, eval e X.env) :: starEach es X.env := by rfl) (hpl : (backTo pos (starEach es X.env)).any (·.1) = false := by rfl)
    {pl : Sem Bool}
    (ht : eval (.Call (.Attribute o m apos) (e :: es) [] pos) X.env = (do
      let ov ← eval o X.env
      standAt apos.atName
      let (f, first) ← holding [ov] (getMethod ov m pl)
      callWith pos f first (backTo pos (starEach (e :: es) X.env)) (backToKw pos (keywordEach [] X.env))) := by rfl) :
    CE X N (.Call (.Attribute o m apos) (e :: es) [] pos) (mMeth n F cn m mo ma) :=
  PE.tm (pe_methG ho Fc.cl hm G hr hb (fun σ => L2N.passAt tk σ) ha hst hpl ht) fun σ H Q ⟨μ, c, R, p⟩ => ⟨μ, c, R, (RunAt.bind p).imp fun x μ1 c1 H1 a b r q v d => by
    obtain ⟨ad, dx, fs, rfl, h1, h2, q⟩ := chkI_ok Fc r d q
    exact ⟨ad, dx, fs, rfl, h1, h2, μ1, c1, r, (RunAt.bind q).imp fun xs μ2 c2 H2 a2 b2 r2 q2 vs dl => runF_sp r2 (.cons (VDen.mono b2 a2 d) dl) q2⟩⟩
theorem ce_meth0 {mo : Mo CV} (Fc : ClsF X.K X.mg cn C) (hm : Meth X.K C m g) (G : FnG X.prog X.w X.K X.mg X.base (L2N.CX X.prog X.w) k g fd ps (spC (kwOf X) X.mg F n)) (hr : RoomG k X.A) (hb : Binds X.K fd ps []) (tk : L2N.Takes X N.W) (ho : CE X N o mo)
    {pl : Sem Bool}
    (ht : eval (.Call (.Attribute o m apos) [] [] pos) X.env = (do
      let ov ← eval o X.env
      standAt apos.atName
      let (f, first) ← holding [ov] (getMethod ov m pl)
      callWith pos f first (backTo pos (starEach [] X.env)) (backToKw pos (keywordEach [] X.env))) := by rfl) :
    CE X N (.Call (.Attribute o m apos) [] [] pos) (mMeth n F cn m mo mNil) :=
  PE.tm (pe_methG0 ho Fc.cl hm G hr hb (fun σ => L2N.passAt tk σ) ht) fun σ H Q ⟨μ, c, R, p⟩ => ⟨μ, c, R, (RunAt.bind p).imp fun x μ1 c1 H1 a b r q v d => by
    obtain ⟨ad, dx, fs, rfl, h1, h2, q⟩ := chkI_ok Fc r d q
    exact ⟨ad, dx, fs, rfl, h1, h2, runF_sp r (.cons d .nil) q⟩⟩
/-! ### making -/
theorem RoomG.make {A : Around} (r : RoomG (k + 1) A) (C : Addr) (us : List Value) (kw : List (Str × Value)) : RoomG k (A.under (.builtin "type.__call__" ⟨.ref C :: us, kw⟩)) := ⟨r.room.make C us kw, r.gd⟩
def tMakeS (C : Addr) (sp : Sp) (E : L2.St → XK) (t : TA) : TE := fun σ H Q => t σ H fun vs H1 => ∀ x dx, H1 x = none → H1 dx = none → dx ≠ x →
  sp (.ref x :: vs) (upd (upd H1 dx (.own x)) x (.ins C dx [])) (fun v H2 => v = .non ∧ Q (.ref x) H2) (E σ)
theorem pe_makeG {CX : CXT} {sp : Sp} {E : L2.St → XK} {t : TA} (M : Mk X.K C g) (G : FnG X.prog X.w X.K X.mg X.base CX k g fd ps sp) (hr : RoomG (k + 1) X.A) (hm : X.mg x = some (.ref C)) (hb : Binds X.K fd ps []) (hx : ∀ σ, PassesAt CX X σ (E σ)) (ha : PA X (e :: es) t) (hg : Gl X x := by rfl)
    (hdb : (x == ("__debug__" : Str)) = false := by decide) (he : starEach (e :: es) X.env = (false, eval e X.env) :: starEach es X.env := by rfl) (hpl : (backTo pos (starEach es X.env)).any (·.1) = false := by rfl) :
    PE X (.Call (.Name x p) (e :: es) [] pos) (tMakeS C sp E t) := by
  refine ⟨fun pins s σ H Q I h => ?_⟩
  refine wpAny_Call_Name_kw (ld_glob I hg hm ?_ hdb)
  refine PySem.W.callWith_K (h₀ := X.base) I.ok.mod.kin M.kp (thn (ha.run pos pins s σ H _ I h) fun us s1 ⟨vs, H1, I1, r, q⟩ => ⟨I1.kIn, ?_⟩) he hpl
  have hq := q (s1.heap.objs.size + 1) s1.heap.objs.size (I1.hok.fresh (Nat.le_succ _)) (I1.hok.fresh (Nat.le_refl _)) (Nat.ne_of_lt (Nat.lt_succ_self _))
  have I2 := Inv.made (C := C) I1
  have r2 : Vals (V.ref (s1.heap.objs.size + 1) :: vs) (Value.ref (s1.heap.objs.size + 1) :: us) := .cons rfl r
  have b : BindsTo { s1 with heap := (s1.heap.push PySem.W.emptyDict).push (PySem.W.instObj C s1.heap.objs.size) } fd ⟨Value.ref (s1.heap.objs.size + 1) :: us, []⟩ (ps.zip (Value.ref (s1.heap.objs.size + 1) :: us)) := by
    have := hb { s1 with heap := (s1.heap.push PySem.W.emptyDict).push (PySem.W.instObj C s1.heap.objs.size) } (Value.ref (s1.heap.objs.size + 1) :: us) I2.kIn (by rw [List.append_nil, ← r2.length]; exact G.len _ _ _ _ hq)
    rwa [List.append_nil] at this
  refine wpAny_call (make_map (f := g) I1.kIn M.makes M.init (beq_iff_eq.mp M.fn) (codeAny_mono (G.go _ (hr.make C us []) X.stack _ _ ⟨Value.ref (s1.heap.objs.size + 1) :: us, []⟩ (Value.ref (s1.heap.objs.size + 1) :: us) _ _ (E σ)
    (I2.env0.make C us []) b r2 hq) fun y z hz => ?_))
  match y, hz with
  | .error u, hz => exact hx σ pins _ _ u z I2 hz
  | .ok (.ret u), hz =>
    obtain ⟨v, H', I3, rv, ev, q3⟩ := I2.after hz
    subst ev
    exact ⟨rv, ⟨V.ref (s1.heap.objs.size + 1), H', I3, rfl, q3⟩⟩
def mMake (n : Nat) (F : Fn) (cn : Str) (ma : Mo (List CV)) : Mo CV := mBind ma fun xs c => match runF n F (.r c.hp.length :: xs) (cNew (.ins cn []) c) with
  | .ok (.d .none) c1 => .ok (.r c.hp.length) c1
  | .ok _ _ => .no
  | .ex e c1 => .ex e c1
  | .no => .no
theorem ce_make (Fc : ClsF X.K X.mg cn C) (M : Mk X.K C g) (G : FnG X.prog X.w X.K X.mg X.base (L2N.CX X.prog X.w) k g fd ps (spC (kwOf X) X.mg F n)) (hr : RoomG (k + 1) X.A) (hb : Binds X.K fd ps []) (tk : L2N.Takes X N.W) (ha : CA X N (e :: es) ma) (hg : Gl X cn := by rfl)
    (hdb : (cn == ("__debug__" : Str)) = false := by decide) (he : starEach (e :: es) X.env = (false, eval e X.env) :: starEach es X.env := by rfl) (hpl : (backTo pos (starEach es X.env)).any (·.1) = false := by rfl) :
    CE X N (.Call (.Name cn p) (e :: es) [] pos) (mMake n F cn ma) :=
  PE.tm (pe_makeG M G hr Fc.gC hb (fun σ => L2N.passAt tk σ) ha hg hdb he hpl) fun σ H Q ⟨μ, c, R, p⟩ => ⟨μ, c, R, (RunAt.bind p).imp fun xs μ1 c1 H1 a b r q vs dl x dx hx hdx hne => by
    have hx' : upd H1 dx (.own x) x = none := by rw [upd_ne (Ne.symm hne)]; exact hx
    have r1 := r.same (same_new (o := .own x) hdx)
    obtain ⟨r2, f2, p2⟩ := r1.newHp (o := .ins cn []) (ho := .ins C dx []) hx' ⟨C, dx, [], rfl, Fc.gC, .nil⟩
    have fz : Fz H1 (upd (upd H1 dx (.own x)) x (.ins C dx [])) := (Fz.same (same_new hdx)).trans f2
    have dn : VDen (kwOf X) (upd (upd H1 dx (.own x)) x (.ins C dx [])) (μ1 ++ [x]) (.r c1.hp.length) (.ref x) := ⟨x, by rw [← r.hl, List.getElem?_append_right (Nat.le_refl _), Nat.sub_self]; rfl, rfl⟩
    refine runF_sp (Q := fun v H2 => v = .non ∧ Q (.ref x) H2) r2 (.cons dn (VDenL.mono fz p2 dl)) ?_
    unfold RunAt at q ⊢
    have ec : cNew (.ins cn []) c1 = { c1 with hp := c1.hp ++ [.ins cn []] } := rfl
    dsimp only at q
    rw [ec] at q
    cases hF : runF n F (.r c1.hp.length :: xs) { c1 with hp := c1.hp ++ [.ins cn []] } with
    | ok y c2 =>
      rw [hF] at q
      intro μ2 H2 a2 b2 R2 v dv
      cases y with
      | d y =>
        cases y with
        | none =>
          have ev : v = .non := by
            have dv : Den (kwOf X) H2 .none v := dv
            simpa only [Den] using dv
          refine ⟨ev, q μ2 H2 (p2.trans a2) (fz.trans b2) R2 (.ref x) ⟨x, ?_, rfl⟩⟩
          exact pre_get a2 (by rw [← r.hl, List.getElem?_append_right (Nat.le_refl _), Nat.sub_self]; rfl)
        | bool _ => exact q.elim
        | int _ => exact q.elim
        | str _ => exact q.elim
        | list _ => exact q.elim
        | tuple _ => exact q.elim
        | dict _ => exact q.elim
      | r _ => exact q.elim
      | o _ => exact q.elim
    | ex y c2 =>
      rw [hF] at q
      intro μ2 cls d H2 a2 b2 R2 dx2
      exact q μ2 cls d H2 (p2.trans a2) (fz.trans b2) R2 dx2
    | no =>
      rw [hF] at q
      exact q⟩
end
end Cl

set_option Elab.async false
set_option maxRecDepth 100000
set_option maxHeartbeats 4000000
/-! t[::-1]; t.index(x); list + list; list(range(n)); len of a dict; xs.pop(). -/
namespace ClM
open PySem PySem.Spec PyProof.Rows HT
section
variable {prog : Program} {w : World} {A : Around} {E : Value → Shared → Prop} {s : Shared}
theorem adjust_rev (n : Nat) : Builtin.Slice.sliceAdjust none none (-1) (n : Int) = ((n : Int) - 1, -1) := by
  unfold Builtin.Slice.sliceAdjust
  simp
theorem places_rev (n : Nat) : Builtin.Slice.slicePlaces ((n : Int) - 1) (-1) (-1) = n := by
  unfold Builtin.Slice.slicePlaces
  have h1 : ¬ ((-1 : Int) > 0) := by omega
  simp only [h1, if_false]
  split <;> (try simp) <;> omega
theorem sliceApplied_rev {sl : Addr} {vl vu vs : Value} {n : Nat} {Q : Int × Int × Nat → Shared → Prop} (hs : s.heap.IsSliceOf sl vl vu vs) (pl : IsPart vl none) (pu : IsPart vu none) (ps : IsPart vs (some (-1)))
    (h : Q ((n : Int) - 1, -1, n) s) : wpAny (model prog w) A (Builtin.Slice.sliceApplied (.ref sl) (pure (n : Int))) Q E s := by
  obtain ⟨os, hos, hcs, hds⟩ := id hs
  unfold Builtin.Slice.sliceApplied Builtin.Slice.sliceFields
  refine wpAny_bind (wpAny_bind (wpAny_field hos hds (x := vl) rfl (wpAny_bind (wpAny_field hos hds (x := vu) rfl (wpAny_bind (wpAny_field hos hds (x := vs) rfl (wpAny_pure ?_)))))))
  refine wpAny_bind (slicePart_ ps ?_)
  show wpAny _ _ (if ((-1 : Int) == 0) = true then _ else _) _ _ s
  rw [if_neg (by decide)]
  refine wpAny_bind (slicePart_ pl (wpAny_bind (slicePart_ pu (wpAny_bind (wpAny_pure ?_)))))
  show wpAny _ _ (match Builtin.Slice.sliceAdjust none none (-1) (n : Int) with | (lo, hi) => pure (lo, (-1 : Int), Builtin.Slice.slicePlaces lo hi (-1))) _ _ s
  rw [adjust_rev n]
  show wpAny _ _ (pure ((n : Int) - 1, (-1 : Int), Builtin.Slice.slicePlaces ((n : Int) - 1) (-1) (-1))) _ _ s
  rw [places_rev]
  exact wpAny_pure h
theorem pick_rev (xs : Array Value) : ((List.range xs.size).filterMap fun (m : Nat) => xs[(((xs.size : Nat) : Int) - 1 + (m : Int) * -1).toNat]?).toArray = xs.toList.reverse.toArray := by
  have e : (fun (m : Nat) => xs[(((xs.size : Nat) : Int) - 1 + (m : Int) * -1).toNat]?) = fun m => xs[xs.size - 1 - m]? := by
    funext m
    by_cases hm : m < xs.size
    · have : (((xs.size : Nat) : Int) - 1 + (m : Int) * -1).toNat = xs.size - 1 - m := by omega
      rw [this]
    · by_cases hz : xs.size = 0
      · have h1 : xs[(((xs.size : Nat) : Int) - 1 + (m : Int) * -1).toNat]? = none := by
          rw [Array.getElem?_eq_none (by omega)]
        have h2 : xs[xs.size - 1 - m]? = none := by rw [Array.getElem?_eq_none (by omega)]
        rw [h1, h2]
      · have : (((xs.size : Nat) : Int) - 1 + (m : Int) * -1).toNat = xs.size - 1 - m := by omega
        rw [this]
  rw [e]
  congr 1
  have k := PySem.W.krv_range xs.size
  have f : (List.range xs.size).filterMap (fun m => xs[xs.size - 1 - m]?) = ((List.range xs.size).map fun k => xs.size - 1 - k).filterMap (xs[·]?) := by rw [List.filterMap_map]; rfl
  rw [f, k, List.filterMap_reverse, PySem.W.krv_all]
theorem getItem_tuple_rev {t sl : Addr} {items : Array Value} {vl vu vs : Value} {Q : Value → Shared → Prop} (ht : IsTup s.heap t items) (hs : s.heap.IsSliceOf sl vl vu vs) (pl : IsPart vl none) (pu : IsPart vu none) (ps : IsPart vs (some (-1)))
    (h : Q (.ref s.heap.objs.size) { s with heap := s.heap.push { cls := .type "tuple", data := .seq items.toList.reverse.toArray } })
    (hsz : items.size ≤ sizeLine) : wpAny (model prog w) A (getItem (.ref t) (.ref sl)) Q E s := by
  have htake : sizeOk (.seq items.toList.reverse.toArray) := by
    show items.toList.reverse.toArray.size ≤ sizeLine
    rw [List.size_toArray, List.length_reverse, Array.length_toList]
    omega
  obtain ⟨os, hos, hcs, hds⟩ := id hs
  have hTs : s.TypeIs (.ref sl) "slice" := ⟨os, hos, hcs⟩
  unfold getItem
  try with_reducible refine wpAny_holding ?_
  first | refine wpAny_bind (wpAny_pure ?_) | skip
  refine wpAny_bind (wpAny_sequenceKey ht.typeIs (by decide) ?_)
  refine wpAny_bind (wpAny_callSpecial?_slot (name := Str.ofString "__getitem__") ht.typeIs PyProof.Rows.slot_tuple_getitem
    (wpAny_call_entry PyProof.Rows.slot_tuple_getitem ht.typeIs entry_tuple_getitem ?_ (args_tuple_getitem _ _)))
  show wpAny _ _ (Builtin.Tuple.tupleItemsOf (.ref t) >>= _) _ _ s
  refine wpAny_bind (tupleItemsOf_ ht ?_)
  refine wpAny_bind (wpAny_typeOf hTs ?_)
  rw [if_pos (by decide)]
  refine wpAny_bind (sliceApplied_rev hs pl pu ps ?_)
  have hno : ¬ (((((items.size : Nat) : Int) - 1) == 0 && (-1 : Int) == 1 && items.size == items.size) = true) := by
    intro q
    rw [Bool.and_eq_true, Bool.and_eq_true] at q
    exact absurd q.1.2 (by decide)
  show wpAny _ _ (if ((((items.size : Nat) : Int) - 1) == 0 && (-1 : Int) == 1 && items.size == items.size) = true then _ else _) _ _ s
  rw [if_neg hno, pick_rev]
  first
    | exact wpAny_bind (m := Builtin.Tuple.tupleExact _) (wpAny_newObj_type (wpAny_pure ⟨_, rfl, wpAny_pure h⟩) htake)
    | exact wpAny_bind (m := Builtin.Tuple.tupleExact _) (wpAny_newObj_type (wpAny_bind (wpAny_pure (wpAny_pure ⟨_, rfl, wpAny_pure h⟩))) htake)
    | exact wpAny_bind (wpAny_bind (m := Builtin.Tuple.tupleExact _) (wpAny_newObj_type (wpAny_pure (wpAny_pure ⟨_, rfl, wpAny_pure h⟩)) htake))
    | exact wpAny_bind (wpAny_bind (m := Builtin.Tuple.tupleExact _) (wpAny_newObj_type (wpAny_pure ⟨_, rfl, wpAny_pure h⟩) htake))
end
end ClM
namespace Cl
open PySem PySem.Spec PyProof.Rows L2
section
variable {X : Cx} {N : Wn} {e a b o : Expr} {pos p apos : Pos}
/-! ### t[::-1] -/
def tRevT (K : PySem.W.Frag) (te : TE) : TE := fun σ H Q => te σ H fun x H1 => ∃ a xs, x = .ref a ∧ SqT K H1 a xs ∧ ∀ p, H1 p = none → Q (.ref p) (upd H1 p (.tup xs.reverse))
theorem pe_revT {te : TE} {k : Nat} {p1 p2 p3 : Pos} (he : PE X e te) : PE X (.Subscript e (.Slice none none (some (.UnaryOp .USub (.Constant (.int 1) k p1) p2)) p3) pos) (tRevT X.K te) := by
  refine ⟨fun pins s σ H Q I h => ?_⟩
  refine Subscript_ (thn (he.run pins s σ H _ I h) fun v s1 ⟨x, H1, I1, r1, q1⟩ => ?_)
  obtain ⟨a, xs, ex, hx, q⟩ := q1
  subst ex
  cases r1
  have hst : PO X (some (.UnaryOp .USub (.Constant (.int 1) k p1) p2)) (tPart (tUn (rU fun i => .int (-i)) (tC (.int 1)))) := po_some (pe_un un_neg pe_int)
  refine wpAny_Slice (thn (po_none.run pins s1 σ H1 (fun o H2 => o = none ∧ H2 = H1) I1 ⟨rfl, rfl⟩) fun vl s2 ⟨l, H2, I2, pl, el, e2⟩ => ?_)
  subst el e2
  refine thn (po_none.run pins s2 σ H2 (fun o H3 => o = none ∧ H3 = H2) I2 ⟨rfl, rfl⟩) fun vu s3 ⟨u, H3, I3, pu, eu, e3⟩ => ?_
  subst eu e3
  refine thn (hst.run pins s3 σ H3 (fun o H4 => o = some (-1) ∧ H4 = H3) I3 ⟨1, rfl, -1, rfl, rfl, rfl⟩) fun vs s4 ⟨o, H4, I4, ps, eo, e4⟩ => ?_
  subst eo e4
  have I5 : Inv X pins σ H4 { s4 with heap := s4.heap.push { cls := .type "slice", data := .fields #[vl, vu, vs] } } := I4.kept (t' := s4.toks) fun b ob q => Heap.get?_push_of_some _ q
  obtain ⟨its, r, ht, hz⟩ := I5.tuple hx
  have hlen := r.length
  show wpAny (model X.prog X.w) X.A (subscriptTail e (.Slice none none (some (.UnaryOp .USub (.Constant (.int 1) k p1) p2)) p3) (.ref a) (.ref s4.heap.objs.size)) (EP X pins σ Q) X.xe { s4 with heap := s4.heap.push { cls := .type "slice", data := .fields #[vl, vu, vs] } }
  refine tail_any (ops := [.ref a, .ref s4.heap.objs.size]) ht.typeIs (PyProof.Rows.slot_tuple_getitem.lookup) ?_ (by with_unfolding_all rfl)
  refine ClM.getItem_tuple_rev ht (Heap.IsSliceOf.new _ vl vu vs) pl pu ps ?_ (by rw [List.size_toArray]; omega)
  refine ⟨.ref _, _, I5.laid (t' := s4.toks) (o := .tup xs.reverse) (fun b ob q => Heap.get?_push_of_some _ q) (Nat.le_refl _) ?_, rfl, q _ (I5.hok.fresh (Nat.le_refl _))⟩
  exact ⟨by rw [List.length_reverse]; exact hz, _, r.reverse, IsTup.new _ _⟩
theorem DenL.reverse {K : KW} {H : Hp} : ∀ {xs : List PyData} {vs : List V}, DenL K H xs vs → DenL K H xs.reverse vs.reverse
  | [], vs, h => by
    simp only [DenL] at h
    subst h
    exact .nil
  | x :: xs, vs, h => by
    simp only [DenL] at h
    obtain ⟨v, w, rfl, d, t⟩ := h
    rw [List.reverse_cons, List.reverse_cons]
    exact DenL.append (DenL.reverse t) (DenL.cons d DenL.nil)
def revD (x : CV) : Option PyData := match x with
  | .d (.tuple xs) => some (.tuple xs.reverse)
  | _ => none
def mRev (m : Mo CV) : Mo CV := mBind m fun x => mOpt ((revD x).map .d)
theorem ce_revT {m : Mo CV} {k : Nat} {p1 p2 p3 : Pos} (h : CE X N e m) : CE X N (.Subscript e (.Slice none none (some (.UnaryOp .USub (.Constant (.int 1) k p1) p2)) p3) pos) (mRev m) :=
  PE.tm (pe_revT h) fun σ H Q ⟨μ, c, R, p⟩ => ⟨μ, c, R, (RunAt.bind p).imp fun x μ1 c1 H1 a b r q v d => by
    obtain ⟨z, ez, q⟩ := RunAt.opt q
    cases x with
    | r _ => cases ez
    | o _ => cases ez
    | d x =>
      cases x with
      | tuple xs =>
        cases ez
        have d : Den (kwOf X) H1 (.tuple xs) v := d
        simp only [Den] at d
        obtain ⟨l, vs, rfl, sq, dl⟩ := d
        refine ⟨l, vs, rfl, sq, fun p hp => ?_⟩
        have sm : Same H1 (upd H1 p (.tup vs.reverse)) := same_new hp
        exact q _ (Fz.same sm) (r.same sm) _ (den_tup (DenL.reverse (DenL.mono (Fz.same sm) _ _ dl)) (SqT.of upd_same))
      | none => cases ez
      | bool _ => cases ez
      | int _ => cases ez
      | str _ => cases ez
      | list _ => cases ez
      | dict _ => cases ez⟩
/-! ### list + list -/
def rCatS (K : PySem.W.Frag) : R2 := fun x y H Q => ∃ l b xs zs, x = .ref l ∧ y = .ref b ∧ SqL K H l xs ∧ SqL K H b zs ∧ xs.length + zs.length ≤ sizeLine ∧ ∀ p, H p = none → Q (.ref p) (upd H p (.lst (xs ++ zs)))
theorem op_catS : OpR X (binaryOp .Add) (rCatS X.K) := by
  intro pins s σ H x y v u Q I rx ry h
  obtain ⟨l, b, xs, zs, rfl, rfl, hH, hB, hz, q⟩ := h
  cases rx
  cases ry
  obtain ⟨its, r, ⟨⟨c1, d1, t1, sl1⟩, n, e, hc, hd, ht⟩, _⟩ := I.list hH
  obtain ⟨its2, r2, ⟨⟨c2, d2, t2, sl2⟩, n2, e2, hc2, hd2, ht2⟩, _⟩ := I.list hB
  simp only at hc hd ht hc2 hd2 ht2
  subst hc hd ht hc2 hd2 ht2
  refine concat_meets ⟨_, e, rfl⟩ ⟨_, e2, rfl⟩ noFill_list_add seq_list_add PySem.F.slot_list_add PySem.F.entry_list_add (PySem.F.args_list_add_2 _ _) (list_addW l b its.toArray its2.toArray n n2 none none sl1 sl2 (by rw [List.size_toArray, List.size_toArray, ← r.length, ← r2.length]; exact hz)) ⟨e, e2, ?_⟩
  have ea : its.toArray ++ its2.toArray = (its ++ its2).toArray := by simp
  rw [ea]
  exact ⟨.ref _, _, I.lnew (t' := s.toks) (r.append r2) (by rw [List.length_append]; omega), rfl, q _ I.fresh⟩
def catL (x y : CV) : Option (List PyData) := match x, y with
  | .d (.list xs), .d (.list ys) => if xs.length + ys.length ≤ 16777216 then some (xs ++ ys) else none
  | _, _ => none
theorem catL_some {x y : CV} {zs : List PyData} (h : catL x y = some zs) : ∃ xs ys, x = .d (.list xs) ∧ y = .d (.list ys) ∧ zs = xs ++ ys ∧ xs.length + ys.length ≤ 16777216 := by
  unfold catL at h
  split at h
  · split at h
    · cases h
      exact ⟨_, _, rfl, rfl, rfl, by assumption⟩
    · cases h
  · cases h
def mCat (ma mb : Mo CV) : Mo (List PyData) := mBind ma fun x => mBind mb fun y => mOpt (catL x y)
theorem cf_cat {ma mb : Mo CV} (ha : CE X N a ma) (hb : CE X N b mb) : CF X N (.BinOp a .Add b pos) (mCat ma mb) :=
  PE.tm (pe_op op_catS ha hb) fun σ H Q ⟨μ, c, R, p⟩ => ⟨μ, c, R, (RunAt.bind p).imp fun x μ1 c1 H1 a1 b1 r1 q1 v d => ⟨μ1, c1, r1, (RunAt.bind q1).imp fun y μ2 c2 H2 a2 b2 r2 q2 w d2 => by
    obtain ⟨zs, ez, q⟩ := RunAt.opt q2
    obtain ⟨xs, ys, rfl, rfl, rfl, hl⟩ := catL_some ez
    have d := VDen.mono b2 a2 d
    have d : Den (kwOf X) H2 (.list xs) v := d
    have d2 : Den (kwOf X) H2 (.list ys) w := d2
    simp only [Den] at d d2
    obtain ⟨l, vs, rfl, sq, dl⟩ := d
    obtain ⟨k, ws, rfl, sk, dk⟩ := d2
    exact ⟨l, k, vs, ws, rfl, rfl, sq.sq, sk.sq, by rw [dl.length, dk.length, sizeLine_eq]; exact hl, fun p hp => q H2 (Fz.refl _) r2 p _ hp (DenL.append dl dk)⟩⟩⟩
/-! ### t.index(x) -/
def rIndexT (K : KW) : V → List V → Hp → VK → Prop := fun x xs H Q => ∃ (l : Addr) (y : V) (ds : List PyData) (ws : List V) (d : PyData) (j : Nat), x = .ref l ∧ xs = [y] ∧ SqT K.K H l ws ∧ DenL K H ds ws ∧ Den K H d y ∧ PyData.plainAll ds = true ∧ d.plain = true ∧ min (PyData.depthAll ds) d.depth ≤ 60 ∧
  SeqAt.dataPlace ds d = some j ∧ Q (.int (j : Nat)) H
theorem mt_indexT (hu : X.A.units + 100 < cLine) : MtR X "tuple.index" (rIndexT (kwOf X)) := by
  intro pins s σ H x xs v us Q I rx rxs h
  obtain ⟨l, y, ds, ws, d, j, rfl, rfl, hs, dl, dy, p1, p2, p3, hj, q⟩ := h
  obtain rfl : v = Value.ref l := rx
  obtain ⟨u, rfl, ru⟩ := rxs.one
  obtain ⟨its, rv, ⟨⟨cls, dd, data, sl⟩, ho, hc, n, hd⟩, hz⟩ := I.tuple hs
  simp only at hc hd
  subst hc hd
  obtain ⟨as, ra⟩ := DenL.reads I ds ws its p1 dl rv
  obtain ⟨bs, rb⟩ := dy.reads I _ _ _ p2 ru
  obtain ⟨h1, h2, h3⟩ := SeqAt.hit_at (vs := its.toArray) (show ReadsAll s.heap its.toArray.toList ds as from ra) p1 hj
  refine call_meets PySem.F.slot_tuple_index ⟨_, ho, rfl⟩ PySem.F.entry_tuple_index (PySem.F.args_tuple_index_2 _ _)
    (TI.tuple_indexAt l its.toArray n dd sl u (fun z => PyData.eqv (SeqAt.readOf s.heap z) d) j h1 h2 h3)
    ⟨ho, SeqAt.items_plain (vs := its.toArray) (show ReadsAll s.heap its.toArray.toList ds as from ra) rb p1 p2 (by show X.A.units + 1 + _ < _; omega), ⟨.int (j : Nat), H, I.tok _, ⟨_, rfl⟩, q⟩⟩
end
end Cl

set_option Elab.async false
set_option maxRecDepth 100000
set_option maxHeartbeats 2000000
/-! Texts: split, join, f-strings, int(text), str(int), text * int. And gaps: what is never come to. -/
namespace Cl
open PySem PySem.Spec PyProof.Rows L2
open TL (tl spl mk_tl len_tl split_spl kind_ok joinL tl_join join_eq numL tl_num ext_tl int_num)
section
variable {X : Cx} {N : Wn} {e a b o : Expr} {st : Stmt} {pos p apos : Pos}
/-! ### gaps -/
def mNo {α : Type} : Mo α := fun _ => .no
def sNo : MS := fun _ => .no
theorem ce_no : CE X N e mNo := ⟨fun _ _ _ _ _ _ ⟨_, _, _, q⟩ => (show False from q).elim⟩
theorem cb_no : CB X N e mNo := ⟨fun _ _ _ _ _ _ ⟨_, _, _, q⟩ => (show False from q).elim⟩
theorem cf_no : CF X N e mNo := ⟨fun _ _ _ _ _ _ ⟨_, _, _, q⟩ => (show False from q).elim⟩
theorem ct_no : CT X N e mNo := ⟨fun _ _ _ _ _ _ ⟨_, _, _, q⟩ => (show False from q).elim⟩
theorem cs_no : CS1 X N st sNo := ⟨fun _ _ _ _ _ _ ⟨_, _, _, q⟩ => (show False from q).elim⟩
/-- a def of which nothing is said -/
def gapF : Fn := fun _ _ => .no
theorem fnG_gap {P : Program} {w : World} {K : PySem.W.Frag} {mg : Str → Option Value} {base : Heap} {CX : CXT} {k : Nat} {f : Addr} {fd : FuncData} {ps : List Str} {n : Nat} : FnG P w K mg base CX k f fd ps (spC ⟨K, w⟩ mg gapF n) :=
  ⟨fun _ _ _ _ ⟨_, _, _, _, _, _, q⟩ => (show False from q).elim, fun _ _ _ _ _ _ _ _ _ _ _ _ _ ⟨_, _, _, _, _, _, q⟩ => (show False from q).elim⟩
/-! ### texts -/
def asS : CV → Mo Str := fun x => match x with
  | .d (.str t) => mRet t
  | _ => mNo
theorem asS_ret {α : Type} {x : CV} {f : Str → Mo α} {μ : List Addr} {c : CS} {σ : LSt} {H : Hp} {P : α → List Addr → CS → Hp → Prop} (q : RunAt (gh X N) N.W (mBind (asS x) f) μ c σ H P) : ∃ t, x = .d (.str t) ∧ RunAt (gh X N) N.W (f t) μ c σ H P := by
  cases x with
  | d x =>
    cases x with
    | str t => exact ⟨t, rfl, q⟩
    | int i => exact q.elim
    | none => exact q.elim
    | bool _ => exact q.elim
    | list _ => exact q.elim
    | tuple _ => exact q.elim
    | dict _ => exact q.elim
  | r _ => exact q.elim
  | o _ => exact q.elim
theorem vden_s {K : KW} {H : Hp} {μ : List Addr} {t : Str} {v : V} (d : VDen K H μ (.d (.str t)) v) : v = .str t := by
  have d : Den K H (.str t) v := d
  simp only [Den] at d
  exact d
theorem denL_strs {K : KW} {H : Hp} : ∀ ys : List Str, DenL K H (ys.map PyData.str) (ys.map V.str)
  | [] => .nil
  | y :: ys => .cons (den_str y) (denL_strs ys)
def asStrs : List PyData → Option (List Str)
  | [] => some []
  | .str t :: r => (asStrs r).map (t :: ·)
  | _ => none
theorem asStrs_ok {K : KW} {H : Hp} : ∀ {xs : List PyData} {ys : List Str} {vs : List V}, asStrs xs = some ys → DenL K H xs vs → vs = ys.map V.str
  | [], ys, vs, e, d => by
    cases e
    simp only [DenL] at d
    exact d
  | .str t :: r, ys, vs, e, d => by
    unfold asStrs at e
    cases q : asStrs r with
    | none => rw [q] at e; cases e
    | some zs =>
      rw [q] at e
      cases e
      simp only [DenL, Den] at d
      obtain ⟨v, u, rfl, rfl, d⟩ := d
      rw [asStrs_ok q d]
      rfl
  | .none :: _, _, _, e, _ => by cases e
  | .bool _ :: _, _, _, e, _ => by cases e
  | .int _ :: _, _, _, e, _ => by cases e
  | .tuple _ :: _, _, _, e, _ => by cases e
  | .list _ :: _, _, _, e, _ => by cases e
  | .dict _ :: _, _, _, e, _ => by cases e
/-- a.split(b) -/
def mkS (l : List Nat) : Str := ⟨l.toArray⟩
def splitS (t s : Str) : Option (List PyData) := if s.length ≠ 0 ∧ t.length ≤ 16777000 ∧ s.cps.all (· < 256) = true then some ((spl (tl s) 0 [] (tl t)).map fun l => .str (mkS l)) else none
theorem tl_ne {s : Str} (h : s.length ≠ 0) : tl s ≠ [] := fun z => h (by rw [len_tl, z]; rfl)
theorem split_is {t s : Str} (h1 : s.length ≠ 0) (h2 : s.cps.all (· < 256) = true) : Txt.split t s = (spl (tl s) 0 [] (tl t)).map mkS := by
  rw [← split_spl t s (tl_ne h1) (kind_ok h2), List.map_map]
  refine (List.map_id _).symm.trans (List.map_congr_left fun x _ => ?_)
  exact (mk_tl x).symm
def mSplit (mo ms : Mo CV) : Mo (List PyData) := mBind mo fun x => mBind (asS x) fun t => mBind ms fun y => mBind (asS y) fun s => mOpt (splitS t s)
theorem cf_split {mo ms : Mo CV} (ho : CE X N o mo) (he : CE X N e ms) (hs : starEach [e] X.env = [(false, eval e X.env)] := by rfl) (hbase : attributeBase o "split" X.env (eval o X.env) = eval o X.env := by rfl) (hline : (apos.endLine == pos.line) = true := by rfl) :
    CF X N (.Call (.Attribute o "split" apos) [e] [] pos) (mSplit mo ms) :=
  PE.tm (pe_split ho he hs hbase hline) fun σ H Q ⟨μ, c, R, q⟩ => ⟨μ, c, R, (RunAt.bind q).imp fun x μ1 c1 H1 a1 b1 r1 q1 v d => by
    obtain ⟨t, ex, q3⟩ := asS_ret q1
    subst ex
    obtain rfl := vden_s d
    refine ⟨⟨t, rfl⟩, μ1, c1, r1, (RunAt.bind q3).imp fun y μ2 c2 H2 a2 b2 r2 q2 w d2 => ?_⟩
    obtain ⟨s, ey, q4⟩ := asS_ret q2
    subst ey
    obtain rfl := vden_s d2
    unfold splitS at q4
    by_cases h : s.length ≠ 0 ∧ t.length ≤ 16777000 ∧ s.cps.all (· < 256) = true
    · rw [if_pos h] at q4
      have e4 : ((spl (tl s) 0 [] (tl t)).map fun l => PyData.str (mkS l)) = (Txt.split t s).map PyData.str := by
        rw [split_is h.1 h.2.2, List.map_map]
        rfl
      rw [e4] at q4
      refine ⟨t, s, rfl, rfl, ?_, by rw [sizeLine_eq]; omega, fun z hz => RunAt.ret (a := (Txt.split t s).map PyData.str) q4 H2 (Fz.refl _) r2 z _ hz (denL_strs _)⟩
      exact beq_eq_false_iff_ne.mpr h.1
    · rw [if_neg h] at q4
      exact q4.elim⟩
/-- a.join(b) -/
def joinS (t : Str) (y : BV) (hp : List CO) : Option Str := ((bSeq y hp).bind asStrs).bind fun ys => if (ys.map (·.length)).sum + ys.length * t.length ≤ 16777216 then some (mkS (joinL (tl t) (ys.map tl))) else none
def mJoin (mo : Mo CV) (mb : Mo BV) : Mo CV := mBind mo fun x => mBind (asS x) fun t => mBind mb (gO (joinS t) fun z => .d (.str z))
theorem ce_join {mo : Mo CV} {mb : Mo BV} (ho : CE X N o mo) (he : CB X N e mb) (hs : starEach [e] X.env = [(false, eval e X.env)] := by rfl) (hbase : attributeBase o "join" X.env (eval o X.env) = eval o X.env := by rfl) (hline : (apos.endLine == pos.line) = true := by rfl) :
    CE X N (.Call (.Attribute o "join" apos) [e] [] pos) (mJoin mo mb) :=
  PE.tm (pe_join ho he hs hbase hline) fun σ H Q ⟨μ, c, R, q⟩ => ⟨μ, c, R, (RunAt.bind q).imp fun x μ1 c1 H1 a1 b1 r1 q1 v d => by
    obtain ⟨t, ex, q3⟩ := asS_ret q1
    subst ex
    obtain rfl := vden_s d
    refine ⟨⟨t, rfl⟩, μ1, c1, r1, (RunAt.bind q3).imp fun y μ2 c2 H2 a2 b2 r2 q2 w d2 => ?_⟩
    obtain ⟨z, e0, q4⟩ := gO_ok q2
    unfold joinS at e0
    cases e1 : bSeq y c2.hp with
    | none => rw [e1] at e0; cases e0
    | some xs =>
      rw [e1] at e0
      dsimp only [Option.bind] at e0
      cases e2 : asStrs xs with
      | none => rw [e2] at e0; cases e0
      | some ys =>
        rw [e2] at e0
        dsimp only at e0
        by_cases h : (ys.map (·.length)).sum + ys.length * t.length ≤ 16777216
        · rw [if_pos h] at e0
          cases e0
          obtain ⟨l, vs, rfl, sq, dl⟩ := bSeq_ok r2 d2 e1
          obtain rfl := asStrs_ok e2 dl
          have e5 : mkS (joinL (tl t) (ys.map tl)) = Txt.join t ys := by
            rw [join_eq, ← tl_join]
            exact mk_tl _
          rw [e5] at q4
          exact ⟨t, l, ys, rfl, rfl, sq, h, q4 H2 (Fz.refl _) r2 _ (den_str (K := kwOf X) (H := H2) _)⟩
        · rw [if_neg h] at e0
          cases e0⟩
/-! ### f-strings -/
/-- the digits of a number from 0 on -/
def numS (i : Int) : Option Str := if 0 ≤ i ∧ i.natAbs.log2 < 1920 then some (mkS (numL i.toNat)) else none
theorem numS_ok {i : Int} {y : Str} (h : numS i = some y) : i.natAbs.log2 < 1920 ∧ y = toString i := by
  unfold numS at h
  by_cases k : 0 ≤ i ∧ i.natAbs.log2 < 1920
  · rw [if_pos k] at h
    cases h
    refine ⟨k.2, ?_⟩
    obtain ⟨n, rfl⟩ := Int.eq_ofNat_of_zero_le k.1
    refine ext_tl ?_
    exact (tl_num n).symm
  · rw [if_neg k] at h
    cases h
def fmtS (x : CV) : Option Str := match x with
  | .d (.str t) => if t.length ≤ 16777216 then some t else none
  | .d (.int i) => numS i
  | _ => none
def mJs : List (Mo CV) → Str → Mo Str
  | [], acc => mRet acc
  | m :: ms, acc => mBind m fun x => mBind (mOpt (fmtS x)) fun y => mBind (mOpt (if (acc ++ y).length ≤ 16777216 then some () else none)) fun _ => mJs ms (acc ++ y)
inductive CJ (X : Cx) (N : Wn) : List Expr → List (Mo CV) → Prop where
  | nil : CJ X N [] []
  | txt {s : Str} {j : Nat} {pos : Pos} {es : List Expr} {ms : List (Mo CV)} (r : CJ X N es ms) : CJ X N (.Constant (.str s) j pos :: es) (mC (.str s) :: ms)
  | fmt {e : Expr} {pos : Pos} {m : Mo CV} {es : List Expr} {ms : List (Mo CV)} (h : CE X N e m) (r : CJ X N es ms) : CJ X N (.FormattedValue e (-1) none pos :: es) (m :: ms)
theorem optBind {α β : Type} {o : Option α} {f : α → Mo β} {μ : List Addr} {c : CS} {σ : LSt} {H : Hp} {P : β → List Addr → CS → Hp → Prop} (q : RunAt (gh X N) N.W (mBind (mOpt o) f) μ c σ H P) : ∃ z, o = some z ∧ RunAt (gh X N) N.W (f z) μ c σ H P := by
  cases o with
  | none => exact q.elim
  | some z => exact ⟨z, rfl, q⟩
def tJm (X : Cx) (N : Wn) (ms : List (Mo CV)) (acc : Str) (σ : LSt) (H : Hp) (Q : Str → Hp → Prop) : Prop := ∃ μ c, Rel (gh X N) μ c σ H ∧ RunAt (gh X N) N.W (mJs ms acc) μ c σ H fun out _ _ H1 => Q out H1
theorem fmtS_ok {K : KW} {H : Hp} {μ : List Addr} {x : CV} {v : V} {y : Str} (d : VDen K H μ x v) (e : fmtS x = some y) : (v = .str y ∧ y.length ≤ 16777216) ∨ ∃ i : Int, v = .int i ∧ i.natAbs.log2 < 1920 ∧ y = toString i := by
  cases x with
  | r _ => cases e
  | o _ => cases e
  | d x =>
    cases x with
    | str t =>
      unfold fmtS at e
      dsimp only at e
      by_cases h : t.length ≤ 16777216
      · rw [if_pos h] at e
        cases e
        exact .inl ⟨vden_s d, h⟩
      · rw [if_neg h] at e
        cases e
    | int i =>
      have e : numS i = some y := e
      obtain ⟨h1, h2⟩ := numS_ok e
      exact .inr ⟨i, vden_i d, h1, h2⟩
    | none => cases e
    | bool _ => cases e
    | list _ => cases e
    | tuple _ => cases e
    | dict _ => cases e
theorem cj_run {es : List Expr} {ms : List (Mo CV)} (h : CJ X N es ms) : ∃ ts, PJ X es ts ∧ ∀ acc σ H Q, tJm X N ms acc σ H Q → tJs ts acc σ H Q := by
  induction h with
  | nil => exact ⟨[], .nil, fun acc σ H Q ⟨μ, c, R, q⟩ => q μ H (List.prefix_refl _) (Fz.refl _) R⟩
  | txt r ih =>
    obtain ⟨ts, pj, ih⟩ := ih
    refine ⟨_, .cons (ce_str (X := X) (N := N)) pj, fun acc σ H Q ⟨μ, c, R, q⟩ => ⟨μ, c, R, fun μ1 H1 a1 b1 r1 v d => ?_⟩⟩
    have q1 := RunAt.bind q μ1 H1 a1 b1 r1
    obtain ⟨y, e1, q2⟩ := optBind q1
    obtain ⟨_, e2, q3⟩ := optBind q2
    have hl : (acc ++ y).length ≤ 16777216 := by
      by_cases h : (acc ++ y).length ≤ 16777216
      · exact h
      · rw [if_neg h] at e2
        cases e2
    rcases fmtS_ok d e1 with ⟨rfl, hy⟩ | ⟨i, ei, hi, rfl⟩
    · exact ⟨y, rfl, by rw [sizeLine_eq]; exact hl, ih _ _ _ _ ⟨μ1, _, r1, q3⟩⟩
    · rw [vden_s d] at ei
      cases ei
  | fmt h r ih =>
    obtain ⟨ts, pj, ih⟩ := ih
    refine ⟨_, .cons (pe_fmt h) pj, fun acc σ H Q ⟨μ, c, R, q⟩ => ⟨μ, c, R, (RunAt.bind q).imp fun x μ1 c1 H1 a1 b1 r1 q1 v d => ?_⟩⟩
    obtain ⟨y, e1, q1⟩ := optBind q1
    obtain ⟨_, e2, q1⟩ := optBind q1
    have hl : (acc ++ y).length ≤ 16777216 := by
      by_cases h : (acc ++ y).length ≤ 16777216
      · exact h
      · rw [if_neg h] at e2
        cases e2
    rcases fmtS_ok d e1 with ⟨rfl, hy⟩ | ⟨i, rfl, hi, rfl⟩
    · exact .inl ⟨y, rfl, by rw [sizeLine_eq]; exact hy, y, rfl, by rw [sizeLine_eq]; exact hl, ih _ _ _ _ ⟨μ1, c1, r1, q1⟩⟩
    · exact .inr ⟨i, rfl, hi, _, rfl, by rw [sizeLine_eq]; exact hl, ih _ _ _ _ ⟨μ1, c1, r1, q1⟩⟩
def mFs (ms : List (Mo CV)) : Mo CV := mBind (mJs ms Str.empty) fun t => mRet (.d (.str t))
theorem ce_fs {v1 v2 : Expr} {rest : List Expr} {ms : List (Mo CV)} (h : CJ X N (v1 :: v2 :: rest) ms) : CE X N (.JoinedStr (v1 :: v2 :: rest) pos) (mFs ms) := by
  obtain ⟨ts, pj, k⟩ := cj_run h
  exact PE.tm (pe_joined pj) fun σ H Q ⟨μ, c, R, q⟩ => k _ _ _ _ ⟨μ, c, R, (RunAt.bind q).imp fun t μ1 c1 H1 a1 b1 r1 q1 => q1 μ1 H1 (List.prefix_refl _) (Fz.refl _) r1 _ (den_str (K := kwOf X) (H := H1) _)⟩
/-! ### int(text), str(int) -/
def dv (l : List Nat) : Nat := l.foldl (fun a c => a * 10 + (c - 48)) 0
def intTx (t : Str) : Option Int := if t.length ≤ 640 ∧ tl t = numL (dv (tl t)) then some (dv (tl t) : Nat) else none
theorem intTx_ok {t : Str} {i : Int} (h : intTx t = some i) : PySem.intText? t = some i ∧ t.length ≤ 640 := by
  unfold intTx at h
  by_cases k : t.length ≤ 640 ∧ tl t = numL (dv (tl t))
  · rw [if_pos k] at h
    cases h
    have e : t = Str.ofString (toString ((dv (tl t) : Nat) : Int)) := ext_tl (by rw [tl_num]; exact k.2)
    have hl : (numL (dv (tl t))).length ≤ 4300 := by
      rw [← k.2, ← len_tl]
      omega
    exact ⟨(congrArg PySem.intText? e).trans (int_num hl), k.1⟩
  · rw [if_neg k] at h
    cases h
def intS (y : BV) (_ : List CO) : Option Int := match y with
  | .c (.d (.str t)) => intTx t
  | _ => none
theorem intS_ok {K : KW} {H : Hp} {μ : List Addr} {y : BV} {v : V} {i : Int} {hp : List CO} (d : BDen K H μ y v) (e : intS y hp = some i) : ∃ t, v = .str t ∧ PySem.intText? t = some i ∧ t.length ≤ 640 := by
  cases y with
  | k _ => cases e
  | l _ => cases e
  | c x =>
    cases x with
    | o _ => cases e
    | r _ => cases e
    | d x =>
      cases x with
      | str t =>
        have e : intTx t = some i := e
        obtain ⟨h1, h2⟩ := intTx_ok e
        exact ⟨t, vden_s (K := K) (H := H) (μ := μ) d, h1, h2⟩
      | none => cases e
      | bool _ => cases e
      | int _ => cases e
      | list _ => cases e
      | tuple _ => cases e
      | dict _ => cases e
def gIntS : BV → Mo CV := gO intS fun i => .d (.int i)
theorem ans_intS : Ans X N (fun xs H Q => ∃ a n, xs = [.str a] ∧ PySem.intText? a = some n ∧ a.length ≤ 640 ∧ Q (.int n) H) gIntS := by
  intro y v μ c σ H Q R d q
  obtain ⟨i, e, q⟩ := gO_ok q
  obtain ⟨t, rfl, h1, h2⟩ := intS_ok d e
  exact ⟨t, i, rfl, h1, h2, q H (Fz.refl _) R _ (vden_int _)⟩
theorem ce_intS {m : Mo BV} (hb : CB X N e m) (hm : X.mg "int" = none) (hg : Gl X "int" := by rfl) (hs : starEach [e] X.env = (false, eval e X.env) :: starEach [] X.env := by rfl) :
    CE X N (.Call (.Name "int" p) [e] [] pos) (mBind m gIntS) :=
  call1 (fun ha => pe_callTy call_int_str hg hm (by rfl) ha (he := hs)) hb ans_intS hs
def strI (y : BV) (hp : List CO) : Option Str := match bInt y hp with
  | some i => numS i
  | none => none
def gStrI : BV → Mo CV := gO strI fun t => .d (.str t)
theorem ans_strI : Ans X N (fun xs H Q => ∃ i, xs = [.int i] ∧ i.natAbs.log2 < 1920 ∧ Q (.str (toString i)) H) gStrI := by
  intro y v μ c σ H Q R d q
  obtain ⟨t, e, q⟩ := gO_ok q
  unfold strI at e
  cases e1 : bInt y c.hp with
  | none => rw [e1] at e; cases e
  | some i =>
    rw [e1] at e
    have e : numS i = some t := e
    obtain ⟨h1, h2⟩ := numS_ok e
    subst h2
    exact ⟨i, by rw [bInt_ok d e1], h1, q H (Fz.refl _) R _ (den_str (K := kwOf X) (H := H) _)⟩
theorem ce_strI {m : Mo BV} (hb : CB X N e m) (hm : X.mg "str" = none) (hg : Gl X "str" := by rfl) (hs : starEach [e] X.env = (false, eval e X.env) :: starEach [] X.env := by rfl) :
    CE X N (.Call (.Name "str" p) [e] [] pos) (mBind m gStrI) :=
  call1 (fun ha => pe_callTy call_str_int hg hm (by rfl) ha (he := hs)) hb ans_strI hs
end
end Cl

set_option Elab.async false
set_option maxRecDepth 100000
set_option maxHeartbeats 2000000
/-! text * int, list * int -/
namespace Cl
open PySem PySem.Spec PyProof.Rows L2
section
variable {X : Cx} {N : Wn} {e a b o : Expr} {pos p : Pos}
/-- t * n -/
def repS (t : Str) (n : Int) : Str := if n < 1 then Str.empty else if (n == 1 || t.length == 0) = true then t else ⟨(List.replicate n.toNat t.cps).foldl (· ++ ·) #[]⟩
def pMulS (x y : PyData) : Option PyData := match x, y with
  | .str t, .int n => if n ≤ 100000 ∧ -100 ≤ n ∧ t.length ≤ 100 then some (.str (repS t n)) else none
  | x, y => pMulT x y
theorem size_repS : ∀ (n : Nat) (a b : Array Nat), ((List.replicate n a).foldl (· ++ ·) b).size = b.size + n * a.size
  | 0, a, b => by simp
  | n + 1, a, b => by
    rw [List.replicate_succ, List.foldl_cons, size_repS n a (b ++ a), Array.size_append, Nat.succ_mul]
    omega
theorem opp_mulS : OpP X (binaryOp .Mult) pMulS := by
  intro pins s σ H x y z v w v' w' Q I d1 d2 r1 r2 e q
  by_cases h : ∃ t n, x = .str t ∧ y = .int n
  · obtain ⟨t, n, rfl, rfl⟩ := h
    unfold pMulS at e
    dsimp only at e
    by_cases hh : n ≤ 100000 ∧ -100 ≤ n ∧ t.length ≤ 100
    · rw [if_pos hh] at e
      cases e
      simp only [Den] at d1 d2
      subst d1 d2
      obtain ⟨k1, rfl⟩ := r1
      obtain ⟨k2, rfl⟩ := r2
      have q := q (.str (repS t n)) H (Same.refl H) (den_str _)
      refine PySem.P.mul_str (by rw [decide_eq_false (by omega), decide_eq_false (by omega)]; rfl) (fun h1 _ => ?_) (fun h1 _ => ?_) ?_
      · have h2 : (92233720368547 : Int) ≤ (2 ^ 63 - 1) / n := by
          rw [Int.le_ediv_iff_mul_le (by omega)]
          have := Int.mul_le_mul_of_nonneg_left hh.1 (show (0 : Int) ≤ 92233720368547 by omega)
          omega
        omega
      · have h4 : n.toNat ≤ 100000 := by omega
        have := Nat.mul_le_mul hh.2.2 h4
        exact decide_eq_false (by rw [sizeLine_eq]; omega)
      · unfold repS at q
        by_cases h1 : n < 1
        · rw [if_pos h1] at q ⊢
          exact ⟨by decide, ⟨.str _, H, I.tok _, ⟨_, rfl⟩, q⟩⟩
        · rw [if_neg h1] at q ⊢
          by_cases h3 : (n == 1 || t.length == 0) = true
          · rw [if_pos h3] at q ⊢
            exact ⟨.str _, H, I, ⟨_, rfl⟩, q⟩
          · rw [if_neg h3] at q ⊢
            refine ⟨?_, ⟨.str _, H, I.tok _, ⟨_, rfl⟩, q⟩⟩
            show ((List.replicate n.toNat t.cps).foldl (· ++ ·) #[]).size ≤ sizeLine
            rw [size_repS, sizeLine_eq]
            have h4 : n.toNat ≤ 100000 := by omega
            have := Nat.mul_le_mul h4 (show t.cps.size ≤ 100 from hh.2.2)
            simp only [Array.size_empty]
            omega
    · rw [if_neg hh] at e
      cases e
  · refine opp_mulT pins s σ H x y z v w v' w' Q I d1 d2 r1 r2 ?_ q
    unfold pMulS at e
    cases x with
    | str t =>
      cases y with
      | int n => exact absurd ⟨t, n, rfl, rfl⟩ h
      | _ => exact e
    | _ => exact e
/-- [..] * n -/
def repE (xs : List PyData) (x : CV) : Option (List PyData) := match x with
  | .d (.int k) => if 0 ≤ k ∧ k ≤ 1000 ∧ xs.length ≤ 1000 then some (List.replicate k.toNat xs).flatten else none
  | _ => none
theorem repE_ok {xs ys : List PyData} {x : CV} (h : repE xs x = some ys) : ∃ k : Int, x = .d (.int k) ∧ (0 ≤ k ∧ k ≤ 1000 ∧ xs.length ≤ 1000) ∧ ys = (List.replicate k.toNat xs).flatten := by
  cases x with
  | r _ => cases h
  | o _ => cases h
  | d x =>
    cases x with
    | int k =>
      unfold repE at h
      dsimp only at h
      by_cases hk : 0 ≤ k ∧ k ≤ 1000 ∧ xs.length ≤ 1000
      · rw [if_pos hk] at h
        cases h
        exact ⟨k, rfl, hk, rfl⟩
      · rw [if_neg hk] at h
        cases h
    | none => cases h
    | bool _ => cases h
    | str _ => cases h
    | list _ => cases h
    | tuple _ => cases h
    | dict _ => cases h
def repK (xs : List PyData) (mn : Mo CV) : Mo (List PyData) := fun c => match mn c with
  | .ok x c2 => mOpt (repE xs x) c2
  | _ => .no
def mRepE (m : Mo (List PyData)) (mn : Mo CV) : Mo (List PyData) := mBind m fun xs => repK xs mn
theorem cf_mulE {m : Mo (List PyData)} {mn : Mo CV} (ha : CF X N a m) (hn : CEx X b mn) : CF X N (.BinOp a .Mult b pos) (mRepE m mn) :=
  PE.tm (pe_op op_rep ha (cex_pe hn)) fun σ H Q ⟨μ, c, R, q⟩ => ⟨μ, c, R, (RunAt.bind q).imp fun xs μ1 c1 H1 a1 b1 r1 q t vs ht dl => by
    unfold RunAt repK at q
    cases e1 : mn c1 with
    | no => rw [e1] at q; exact q.elim
    | ex _ _ => rw [e1] at q; exact q.elim
    | ok x c2 =>
      rw [e1] at q
      dsimp only at q
      cases e2 : repE xs x with
      | none => rw [e2] at q; exact q.elim
      | some ys =>
        rw [e2] at q
        obtain ⟨k, rfl, hk, rfl⟩ := repE_ok e2
        obtain ⟨R1, Dm⟩ := r1.onO (u1 := .lst vs) trivial ht
        refine ⟨upd N.B t (.lst vs), N.m0, μ1, c1, R1, ?_⟩
        unfold RunAt
        rw [e1]
        intro μ2 H2 a2 b2 R2 v d
        obtain ⟨hD, R4⟩ := R2.offO (u1 := .lst vs) trivial Dm (r1.fresh ht).2
        have R5 : Rel (gh X N) μ2 c2 σ H2 := R4.same fun b o h => by
          by_cases hb : b = t
          · subst hb
            rw [offD_same] at h
            cases h
          · rwa [offD_ne hb] at h
        have fz : Fz H1 H2 := (Fz.same (same_new ht)).trans b2
        obtain rfl := vden_i d
        refine ⟨t, k, vs, rfl, rfl, hD, by omega, by omega, ?_, fun z hz => q μ2 H2 a2 fz R5 z _ hz (denL_flat (DenL.mono fz _ _ dl) _)⟩
        rw [dl.length, sizeLine_eq]
        have h1 : k.toNat ≤ 1000 := by omega
        have h2 := Nat.mul_le_mul hk.2.2 h1
        omega⟩
end
end Cl

set_option Elab.async false
set_option maxRecDepth 100000
set_option maxHeartbeats 2000000
/-! Defs as values, and their call by a local name. -/
namespace Cl
open PySem PySem.Spec PyProof.Rows L2
section
variable {X : Cx} {N : Wn} {e : Expr} {es : List Expr} {x : Str} {pos p : Pos} {f : Addr} {fd : FuncData} {ps : List Str} {k i n : Nat} {F : Fn} {ma : Mo (List CV)}
/-- the name of a def -/
def mFv (f : Addr) : Mo CV := mRet (.o (.ref f))
theorem ce_fv (hm : X.mg x = some (.ref f)) (hg : Gl X x := by rfl) (hd : (x == ("__debug__" : Str)) = false := by decide) : CE X N (.Name x p) (mFv f) := by
  refine PE.tm (pe_glob (v := .ref f) hg hm rfl hd) fun σ H Q ⟨μ, c, R, q⟩ => ?_
  exact q μ H (List.prefix_refl _) (Fz.refl _) R _ rfl
def tCallLG (i : Nat) (f : Addr) (sp : Sp) (E : L2.St → XK) (t : TA) : TE := fun σ H Q => σ[i]? = some (some (.ref f)) ∧ t σ H fun vs H1 => sp vs H1 Q (E σ)
theorem pe_callLG {CX : CXT} {sp : Sp} {E : L2.St → XK} {t : TA} (G : FnG X.prog X.w X.K X.mg X.base CX k f fd ps sp) (hr : RoomG k X.A) (hN : X.N[i]? = some x) (hv : Vis X.env.scope x) (hk : PySem.W.keepIn X.K (.ref f) = true) (hb : Binds X.K fd ps []) (hx : ∀ σ, PassesAt CX X σ (E σ)) (ha : PA X (e :: es) t)
    (hdb : (x == ("__debug__" : Str)) = false := by decide) (hcd : (x == ("__classdict__" : Str)) = false := by decide)
    (he : starEach (e :: es) X.env = (false, eval e X.env) :: starEach es X.env := by rfl) (hpl : (backTo pos (starEach es X.env)).any (·.1) = false := by rfl) : PE X (.Call (.Name x p) (e :: es) [] pos) (tCallLG i f sp E t) := by
  refine ⟨fun pins s σ H Q I h => ?_⟩
  obtain ⟨hs, ht⟩ := h
  refine wpAny_Call_Name_kw (thn ((pe_var (pos := p) hN hv hdb hcd).run pins s σ H (fun v H1 => v = .ref f ∧ H1 = H) I ⟨.ref f, hs, rfl, rfl⟩) fun u s1 ⟨v, H1, I1, r1, e1, e2⟩ => ?_)
  subst e1 e2
  cases r1
  refine PySem.W.callWith_K (h₀ := X.base) I1.ok.mod.kin hk (thn (ha.run pos pins s1 σ _ _ I1 ht) fun us s2 ⟨vs, H2, I2, r, q⟩ => ⟨I2.kIn, ?_⟩) he hpl
  exact run_fnG G hr hb (hx σ) I2 r q
/-- the slot i holds the def at f, which does what F says -/
def mCallV (i : Nat) (f : Addr) (n : Nat) (F : Fn) (ma : Mo (List CV)) : Mo CV := fun c => match c.sl[i]? with
  | some (.v (.o (.ref a))) => if a = f then mCall n F ma c else .no
  | _ => .no
theorem ce_callV (i : Nat) (G : FnG X.prog X.w X.K X.mg X.base (L2N.CX X.prog X.w) k f fd ps (spC (kwOf X) X.mg F n)) (hr : RoomG k X.A) (hk : PySem.W.keepIn X.K (.ref f) = true) (hb : Binds X.K fd ps [])
    (tk : L2N.Takes X N.W) (ha : CA X N (e :: es) ma) (hN : X.N[i]? = some x := by rfl) (hv : Vis X.env.scope x := by first | exact Or.inl rfl | exact Or.inr (Or.inl rfl) | exact Or.inr (Or.inr rfl))
    (hdb : (x == ("__debug__" : Str)) = false := by decide) (hcd : (x == ("__classdict__" : Str)) = false := by decide)
    (he : starEach (e :: es) X.env = (false, eval e X.env) :: starEach es X.env := by rfl) (hpl : (backTo pos (starEach es X.env)).any (·.1) = false := by rfl) : CE X N (.Call (.Name x p) (e :: es) [] pos) (mCallV i f n F ma) := by
  refine PE.tm (pe_callLG (i := i) G hr hN hv hk hb (fun σ => L2N.passAt tk σ) ha hdb hcd he hpl) fun σ H Q ⟨μ, c, R, q⟩ => ?_
  unfold RunAt mCallV at q
  cases es : c.sl[i]? with
  | none => rw [es] at q; exact q.elim
  | some sl =>
    rw [es] at q
    cases sl with
    | un => exact q.elim
    | ol _ => exact q.elim
    | od _ => exact q.elim
    | v y =>
      cases y with
      | d _ => exact q.elim
      | r _ => exact q.elim
      | o w =>
        cases w with
        | ref a =>
          dsimp only at q
          by_cases ea : a = f
          · subst ea
            rw [if_pos rfl] at q
            obtain ⟨v, hv, d⟩ := R.vl i _ es
            have d : v = .ref a := d
            subst d
            exact ⟨hv, call_tm ⟨μ, c, R, q⟩⟩
          · rw [if_neg ea] at q
            exact q.elim
        | _ => exact q.elim
/-- a tuple of the written part -/
theorem ce_globT {xs : List PyData} {vs : List V} (hm : X.mg x = some (.ref f)) (h : ∀ H, SqT X.K H f vs) (d : ∀ H, DenL (kwOf X) H xs vs) (hg : Gl X x := by rfl) (hd : (x == ("__debug__" : Str)) = false := by decide) : CE X N (.Name x p) (mC (.tuple xs)) := by
  refine PE.tm (pe_glob (v := .ref f) hg hm rfl hd) fun σ H Q ⟨μ, c, R, q⟩ => ?_
  exact q μ H (List.prefix_refl _) (Fz.refl _) R _ (den_tup (d H) (h H))
end
end Cl

set_option Elab.async false
set_option maxRecDepth 100000
set_option maxHeartbeats 2000000
/-! Own exception classes whose __init__ says super().__init__(text) and self.f = v: the run of the __init__. -/
namespace Cl
open PySem PySem.W PySem.Calls PyProof.Rows
open L2 (defArgs defBody defScope)
/-- own classes, then Exception's mro -/
def refsE : List Value → Bool
  | .ref _ :: r => refsE r
  | l => l == ESX.exTail
theorem refsE_cases : ∀ l : List Value, refsE l = true → (∃ c r, l = .ref c :: r ∧ refsE r = true) ∨ l = ESX.exTail
  | [], e => .inr (beq_iff_eq.mp e)
  | .ref c :: r, e => .inl ⟨c, r, rfl, e⟩
  | .none :: _, e => .inr (beq_iff_eq.mp e)
  | .ellipsis :: _, e => .inr (beq_iff_eq.mp e)
  | .notImplemented :: _, e => .inr (beq_iff_eq.mp e)
  | .bool _ :: _, e => .inr (beq_iff_eq.mp e)
  | .int _ _ :: _, e => .inr (beq_iff_eq.mp e)
  | .float _ _ :: _, e => .inr (beq_iff_eq.mp e)
  | .str _ _ :: _, e => .inr (beq_iff_eq.mp e)
  | .bytes _ _ :: _, e => .inr (beq_iff_eq.mp e)
  | .type _ :: _, e => .inr (beq_iff_eq.mp e)
  | .builtin _ :: _, e => .inr (beq_iff_eq.mp e)
theorem refsE_pass (self : Value) : ∀ l : List Value, refsE l = true → refuseLoop self "__setattr__" l = pure () := by
  intro l
  induction l with
  | nil => intro e; exact absurd e (by decide)
  | cons a r ih =>
    intro e
    rcases refsE_cases (a :: r) e with ⟨c, r', q, h⟩ | q
    · obtain ⟨rfl, rfl⟩ := List.cons.inj q
      rw [refuseLoop_ref]
      exact ih h
    · rw [q]
      exact F.store_Exception.passes self
theorem refsE_contains (X : String) : ∀ l : List Value, refsE l = true → l.contains (.type X) = ESX.exTail.contains (.type X) := by
  intro l
  induction l with
  | nil => intro e; exact absurd e (by decide)
  | cons a r ih =>
    intro e
    rcases refsE_cases (a :: r) e with ⟨c, r', q, h⟩ | q
    · obtain ⟨rfl, rfl⟩ := List.cons.inj q
      rw [List.contains_cons, ih h]
      rfl
    · rw [q]
theorem mroE_has {K : Frag} {C : Addr} {cd : ClassData} (hcd : clsIn K C = some cd) (hm : refsE cd.mro = true) {X : String} (hb : ESX.exTail.contains (.type X) = true) : mroIn K C (.type X) = some true := by
  unfold mroIn
  have ne : cd.mro.isEmpty = false := by
    cases e : cd.mro with
    | nil => rw [e] at hm; exact absurd hm (by decide)
    | cons _ _ => rfl
  rw [hcd, Option.bind_some, ne, if_neg (by decide), refsE_contains X _ hm, hb]
section
open Builtin Builtin.ObjectAttr
variable {prog : Program} {w : World} {A : Around} {E : Value → Shared → Prop} {R : Result → Shared → Prop} {hp : Heap} {g : Array GenState} {d : Drawn} {t : Nat} {os : OsState}
theorem osaE {K : Frag} {name : Str} {tk : Tok} {v : Value} {x C : Addr} {ox : Obj} {od : Option Obj} {cd : ClassData}
    (X : K.In hp) (I : InstAt hp x ox C od) (hcd : clsIn K C = some cd) (hm : refsE cd.mro = true) (ha : findIn K (.ref C) name = some none)
    (hq : wpAny (model prog w) A.in1 (storeInOwnDict (.ref x) (.ref C) (.str name tk) name v false)
      (fun fin s' => match fin with | .done f => R (.ok f) s' | .again c' => c'.quiet = true ∧ codeAny (model prog w) A c' R s') (fun e s' => R (.error e) s') ⟨hp, g, d, t, os⟩) :
    codeAny (model prog w) A (.call (.builtin "object.__setattr__") ⟨[.ref x, .str name tk, v], []⟩) R ⟨hp, g, d, t, os⟩ := by
  have SF := F.store_object
  have sub : Looks (model prog w) hp (isInstance (.ref x) (.type "object")) true := I.type.andThen (looks_mroIn X (mroE_has hcd hm (X := "object") (by decide +kernel)))
  refine codeAny_call_builtin SF.slot.plain SF.entry (@check_slot (model prog w) _ _ ⟨hp, g, d, t, os⟩ "object.__setattr__" "object" "__setattr__" (.ref x) [.str name tk, v] [] _ SF.kind SF.split sub (SF.args (.ref x) (.str name tk) v) ?_)
  have hmr : Looks (model prog w) hp (mroOf (.ref C)) cd.mro := (looks_clsIn X hcd).andThen .now
  have L3 : Looks (model prog w) hp (storeTaker? none) none := .now
  rw [osa_eq, refuse_eq]
  refine wpAny_bind (wpAny_bind (I.type.at (wpAny_bind (hmr.at ?_))))
  rw [refsE_pass _ _ hm]
  refine wpAny_pure (wpAny_bind (I.type.at (wpAny_bind ((looks_findIn X ha).at (wpAny_bind (L3.at ?_))))))
  exact hq
theorem osaE_new {K : Frag} {name : Str} {tk : Tok} {v : Value} {x C : Addr} {fv : Array Value} {cd : ClassData}
    (X : K.In hp) (hx : hp.get? x = some { cls := .ref C, data := .fields fv }) (hcd : clsIn K C = some cd) (hm : refsE cd.mro = true) (hh : cd.hasDict = true) (ha : findIn K (.ref C) name = some none)
    (hq : ∀ h' tk' dx, (∀ b o, b ≠ x → hp.get? b = some o → h'.get? b = some o) → hp.objs.size ≤ dx → dx ≠ x → h'.get? x = some { cls := .ref C, dict := some dx, data := .fields fv } →
      h'.Ns1 dx (fun y => if y = name then some v else none) → R (.ok (.ret .none)) ⟨h', g, d, tk', os⟩) :
    codeAny (model prog w) A (.call (.builtin "object.__setattr__") ⟨[.ref x, .str name tk, v], []⟩) R ⟨hp, g, d, t, os⟩ := by
  have I : InstAt hp x { cls := .ref C, data := .fields fv } C none := ⟨hx, rfl, rfl, trivial⟩
  have hxs : x ≠ hp.objs.size := Nat.ne_of_lt (Heap.lt_size hx)
  refine osaE X I hcd hm ha ?_
  have hcls : Looks (model prog w) hp (classData C) cd := looks_clsIn X hcd
  obtain ⟨nm, bs, mro, ns, qn, hd, sn, sb, ab, col, del⟩ := cd
  dsimp only at hh
  subst hh
  unfold storeInOwnDict ownDictForStores
  repeat (first | with_reducible refine HandSPX.store_in_new ?_ ?_ | with_reducible refine wpAny_loadPart_at hx ?_ | with_reducible refine hcls.at ?_ | wp_step)
  · exact ⟨_, #[], _, (Heap.get?_update_ne _ _ _ _ hxs.symm).trans (Heap.get?_push_at rfl rfl), rfl, fun e he => absurd he (by simp), fun _ => rfl⟩
  · intro h' tk' hn' hs
    have hx₁ : (hp.push { cls := .type "dict", data := .dict #[] }).get? x = some { cls := .ref C, data := .fields fv } := Heap.get?_push_of_some _ hx
    refine hq h' tk' hp.objs.size (fun b o hb ho => ?_) (Nat.le_refl _) hxs.symm ?_ hn'
    · exact (hs.2 b (Nat.ne_of_lt (Heap.lt_size ho))).trans ((Heap.get?_update_ne _ _ _ _ hb).trans (Heap.get?_push_of_some _ ho))
    · exact (hs.2 x hxs).trans (Heap.get?_update_self _ hx₁ rfl)
end
/-- what the written part says of the class at C, of its __init__ at fI, and of the code around -/
structure XiF (prog : Program) (K : Frag) (mg : Str → Option Value) (C fI : Addr) (qual par fld txt : Str) (st : Stmt) : Prop where
  cls : ∃ nm q N bs bm sn sub ab col dd k0 k1 k2 k3 k5, K.lookup C = some (excClassObj nm q C N bs bm true sn sub ab col dd k0 k1 k2 k3 k5 "Exception.__new__") ∧ refsE bm = true ∧ alongIn K "__init__" bm = some (some (.builtin "Exception.__init__"))
  sa : findIn K (.ref C) "__setattr__" = some (some (.builtin "object.__setattr__"))
  no : findIn K (.ref C) fld = some none
  exC : subIn K (.ref C) (.type "BaseException") = some true
  tyC : typeIn K (.ref C) = some (.type "type")
  kC : keepIn K (.ref C) = true
  iC : findIn K (.ref C) "__init__" = some (some (.ref fI))
  tI : typeIn K (.ref fI) = some (.type "function")
  any : nsIn K cStatics "thirdparty.any" = some none
  sup : mg "super" = none
  fn : ∃ oc od kV doc pm an cda ct cc osl ccl cdd vs ccs file tf cl cld csl, K.lookup fI = some ⟨oc, od, .func (ksFn "__init__" qual (defArgs st) (defBody st) (defScope st) .none kV doc pm an (.ref cda) ct cc), osl⟩ ∧ codeIn K (.ref cda) qual = true ∧
    K.lookup cda = some ⟨ccl, cdd, .fields vs, ccs⟩ ∧ vs[2]? = some (.str file tf) ∧ ((prog.main.file : Str) == file) = true ∧ K.lookup cc = some ⟨cl, cld, .cell (some (.ref C)), csl⟩
  top : (prog.main.scope.names.lookup ("super" : Str)).isSome = false

/-- the def's text -/
structure XiS (st : Stmt) (par fld txt : Str) (p0 p1 p2 p3 p4 p5 p6 p7 p8 p9 p10 p11 p12 : Pos) (j : Nat) : Prop where
  body : defBody st = [.Expr (.Call (.Attribute (.Call (.Name "super" p0) [] [] p1) "__init__" p2) [.JoinedStr [.Constant (.str txt) j p5, .FormattedValue (.Name par p6) (-1) none p7] p8] [] p3) p4, .Assign [.Attribute (.Name "self" p9) fld p10] (.Name par p11) p12]
  co : (defScope st).isCoroutine = false
  gen : (defScope st).isGenerator = false
  kind : (defScope st).kind = .function
  nocell : ∀ x ∈ (defScope st).names, x.2 ≠ .cell
  ls : (defScope st).names.lookup ("super" : Str) = some .globalImplicit
  lc : (defScope st).names.lookup ("__class__" : Str) = some .free
  lself : (defScope st).names.lookup ("self" : Str) = some .local
  lpar : (defScope st).names.lookup par = some .local
  first : ∃ ar, ((defArgs st).posonlyargs ++ (defArgs st).args).head? = some ar ∧ ar.arg = "self"
  dpar : (par == ("__debug__" : Str)) = false
  npar : par ≠ "self"
section
variable {prog : Program} {w : World} {K : Frag} {mg : Str → Option Value} {base h : Heap} {C fI x t0 : Addr} {qual par fld txt : Str} {st : Stmt} {A : Around} {R : Result → Shared → Prop} {g : Array GenState} {d : Drawn} {t : Nat} {os : OsState} {i : Int} {u : Tok}
  {p0 p1 p2 p3 p4 p5 p6 p7 p8 p9 p10 p11 p12 : Pos} {j : Nat}
theorem init_run (T : XiF prog K mg C fI qual par fld txt st) (S : XiS st par fld txt p0 p1 p2 p3 p4 p5 p6 p7 p8 p9 p10 p11 p12 j) (M : L2.Mod K mg base) (bk : ∀ b o, base.get? b = some o → h.get? b = some o) (hx : h.get? x = some (HandSPX.excO C t0)) (hxb : base.get? x = none) (room : A.depth < recursionLimit)
    (hb : ∀ (s : Shared) (fd : FuncData) (vs : List Value), (∃ kV doc pm an cda ct cc, fd = ksFn "__init__" qual (defArgs st) (defBody st) (defScope st) .none kV doc pm an (.ref cda) ct cc) → vs.length = 2 → BindsTo s fd ⟨vs, []⟩ ([("self" : Str), par].zip vs))
    (hi : i.natAbs.log2 < 1920) (hlen : ∀ k : Int, k.natAbs.log2 < 1920 → (txt ++ toString k).length ≤ sizeLine)
    (hc : ∀ (env : Env) , eval (.Call (.Attribute (.Call (.Name "super" p0) [] [] p1) "__init__" p2) [.JoinedStr [.Constant (.str txt) j p5, .FormattedValue (.Name par p6) (-1) none p7] p8] [] p3) env = (do
      let ov ← attributeBase (.Call (.Name "super" p0) [] [] p1) "__init__" env (eval (.Call (.Name "super" p0) [] [] p1) env)
      standAt p2.atName
      let (f, first) ← holding [ov] (getMethod ov "__init__" (pure false))
      callWith p3 f first (backTo p3 (starEach [.JoinedStr [.Constant (.str txt) j p5, .FormattedValue (.Name par p6) (-1) none p7] p8] env)) []))
    (hq : ∀ h' t' dx t1, (∀ b o, b ≠ x → h.get? b = some o → h'.get? b = some o) → h.objs.size ≤ dx → h'.get? x = some { cls := .ref C, dict := some dx, data := .fields #[.ref t1, .none, .none, .none, .bool false, .none] } →
      h'.Ns1 dx (fun y => if y = fld then some (.int i u) else none) → R (.ok (.ret .none)) ⟨h', g, d, t', os⟩) :
    codeAny (model prog w) A (.call (.ref fI) ⟨[.ref x, .int i u], []⟩) R ⟨h, g, d, t, os⟩ := by
  obtain ⟨nm, q, N, bs, bm, sn, sub, ab, col, dd, k0, k1, k2, k3, k5, hC, hbm, hal⟩ := T.cls
  obtain ⟨oc, od, kV, doc, pm, an, cda, ct, cc, osl, ccl, cdd, vs, ccs, file, tf, cl, cld, csl, hf, hcode, hcd, hvs, hfile, hcell⟩ := T.fn
  obtain ⟨ar, har, ear⟩ := S.first
  obtain ⟨mb, hb1, hb2⟩ := M.blt
  have kin : K.In h := M.kin.keeps bk
  have hcl : clsIn K C = some { name := nm, bases := bs, mro := .ref C :: bm, ns := N, qualname := q, hasDict := true, slotNames := sn, subclasses := sub, abstract := ab, collection := col, hasDel := false } := by unfold clsIn; rw [hC] <;> rfl
  have hmr : refsE (.ref C :: bm) = true := hbm
  have hxs : x ≠ h.objs.size := Nat.ne_of_lt (Heap.lt_size hx)
  refine ks_codeAny_call_defAt (body := defBody st) room (kin _ _ hf) rfl (M.nolimit.keeps bk) (codeRec_of kin hcode) rfl (hb _ _ [.ref x, .int i u] ⟨_, _, _, _, _, _, _, rfl⟩ rfl) S.nocell (fun y hy => ?_) (fun h1 hns hk1 => ?_) S.co S.gen S.kind
  · have hy : y = (("self" : Str), Value.ref x) ∨ y = (par, Value.int i u) := by
      have hy' : y ∈ [(("self" : Str), Value.ref x), (par, Value.int i u)] := hy
      simpa using hy'
    rcases hy with rfl | rfl
    · exact S.lself
    · exact S.lpar
  · have kin1 : K.In h1 := kin.keeps hk1
    have hx1 := hk1 _ _ hx
    have ev : (fun y => ([(("self" : Str), Value.ref x), (par, Value.int i u)] : List (Str × Value)).reverse.lookup y) = fun y => if y = par then some (Value.int i u) else if y = "self" then some (.ref x) else none := by
      funext y
      show List.lookup y [(par, Value.int i u), (("self" : Str), Value.ref x)] = _
      rw [List.lookup_cons, List.lookup_cons]
      by_cases h1 : y = par
      · rw [if_pos h1, h1]
        simp
      · rw [if_neg h1, show (y == par) = false from by simpa using h1]
        by_cases h2 : y = "self"
        · rw [if_pos h2, h2]
          simp
        · rw [if_neg h2, show (y == ("self" : Str)) = false from by simpa using h2]
          rfl
    have hns' : h1.Ns h.objs.size (fun y => if y = par then some (Value.int i u) else if y = "self" then some (.ref x) else none) := by
      rw [← ev]
      exact hns
    rw [S.body]
    refine ks_wpAt_execs_cons (ks_wpAt_Expr_any (ks_wpAt_MethodCall (pl := pure false) ?_ (hc _)) (by unfold interactive; rw [show (callEnv (ksFn _ _ _ _ (defScope st) _ _ _ _ _ _ _ _) _ _).scope.kind = .function from S.kind]; rfl))
    obtain ⟨oD, hD1, hD2⟩ : ∃ oD, h1.get? C = some oD ∧ oD.data = .cls { name := nm, bases := bs, mro := .ref C :: bm, ns := N, qualname := q, hasDict := true, slotNames := sn, subclasses := sub, abstract := ab, collection := col, hasDel := false } := ⟨_, kin1 _ _ hC, rfl⟩
    refine ks_wpAt_super_base S.ls S.lc (by decide) rfl (kin1 _ _ hf) rfl har rfl (kin1 _ _ hcd) rfl hvs hfile T.top ?_
    rw [ear]
    have glob : h1.Ns mainGlobals mg := M.glob.keeps fun b o e => hk1 b o (bk b o e)
    have blt : h1.Ns builtinsNs mb := hb1.keeps fun b o e => hk1 b o (bk b o e)
    refine ks_loadName_global S.kind S.ls (loadGlobal_builtin glob T.sup blt ((hb2 _ (by decide)).trans (by kernel_rfl)) ⟨rfl, ?_⟩)
    refine wpAny_loadName_free S.kind S.lc rfl ⟨_, kin1 _ _ hcell, rfl⟩ ?_
    refine wpAny_loadName_local S.kind S.lself hns' (by rw [if_neg (Ne.symm S.npar), if_pos rfl]) ?_
    refine ks_wpAny_isType_cls hD1 hD2 ⟨rfl, ?_⟩
    have hmroC : mroIn K C (.ref C) = some true := by
      unfold mroIn
      rw [hcl, Option.bind_some]
      simp
    refine ks_wpAny_call_super hD1 hD2 hx1 rfl (fun c e => by cases e) (looks_mroIn kin1 hmroC) (fun h2 hso k2 => ?_)
    have kin2 : K.In h2 := kin1.keeps k2
    have hx2 := k2 _ _ hx1
    have hC2 := kin2 _ _ hC
    have hxC : x ≠ C := fun z => by
      rw [z, hC2] at hx2
      cases hx2
    have I2 : InstAt h2 x { cls := .ref C, data := .fields #[.ref t0, .none, .none, .none, .bool false, .none] } C none := ⟨hx2, rfl, rfl, trivial⟩
    refine ESX.getMethod_super (l₀ := .ref C :: bm) (l := bm) hso (looks_opaque kin2 T.any) ((looks_clsIn kin2 hcl).andThen .now) (ESX.drop_own C bm) kin2 hal hxC (by decide) (I2.type.andThen (looks_mroIn kin2 (mroE_has hcl hmr (X := "Exception") (by decide +kernel)))) ?_
    have k3 : ∀ b o, h2.get? b = some o → (h2.push (ESX.bw x)).get? b = some o := fun b o e => Heap.get?_push_of_some _ e
    have hu3 : (h2.push (ESX.bw x)).get? h2.objs.size = some (ESX.bw x) := Heap.get?_push_at rfl rfl
    show wpAny _ _ (callWith p3 (.ref h2.objs.size) [] _ []) _ _ _
    refine ESX.callWith_bound (x := x) ?_
    refine spliced_cons ?_
    refine wpAny_JoinedStr (pos := p8) ?_
    rw [arm_evalEach_cons, arm_evalEach_cons, arm_evalEach_nil]
    have hz0 : txt.length ≤ sizeLine := by
      have := hlen 0 (by decide)
      rw [Str.length_append] at this
      omega
    have hL : h.objs.size ≠ x := hxs.symm
    have nsL : ∀ {h9 : Heap}, (∀ b o, b ≠ x → h1.get? b = some o → h9.get? b = some o) → h9.Ns h.objs.size (fun y => if y = par then some (Value.int i u) else if y = "self" then some (.ref x) else none) := fun {h9} kk => by
      obtain ⟨o, es, ep, e1, e2⟩ := hns'
      exact ⟨o, es, ep, kk _ _ hL e1, e2⟩
    refine wpAny_Constant_str ⟨_, _, rfl, by rw [Str.empty_append]; exact hz0, ?_⟩
    refine wpAny_FormattedValue_plain (wpAny_Name (wpAny_loadName_local S.kind S.lpar (nsL fun b o _ e => k3 _ _ (k2 _ _ e)) (by rw [if_pos rfl]) ?_) S.dpar)
    refine wpAny_formatField_int hi ⟨_, _, rfl, by rw [Str.empty_append]; exact hlen i hi, by rw [Str.empty_append]; exact hlen i hi, ?_⟩
    refine spliced_nil ⟨hu3, ?_⟩
    refine ESX.call_bw (k3 _ _ hC2) (k3 _ _ hx2) hu3 (by show 1 ≤ sizeLine; decide) (fun h4 t1 k4 hx4 => ?_)
    have k14 : ∀ b o, b ≠ x → h1.get? b = some o → h4.get? b = some o := fun b o n e => k4 b o n (k3 _ _ (k2 _ _ e))
    have kin4 : K.In h4 := M.kin.keeps fun b o e => k14 b o (fun z => by
      rw [z, hxb] at e
      cases e) (hk1 _ _ (bk _ _ e))
    refine ks_wpAt_execs_cons (ks_wpAt_Assign_Attr (wpAt_of_wpAny (wpAny_Name (wpAny_loadName_local S.kind S.lpar (nsL k14) (by rw [if_pos rfl]) ?_) S.dpar)))
    refine wpAny_Name (wpAny_loadName_local S.kind S.lself (nsL k14) (by rw [if_neg (Ne.symm S.npar), if_pos rfl]) ?_) (by decide)
    refine set_plain kin4 (ox := { cls := .ref C, data := .fields #[.ref t1, .none, .none, .none, .bool false, .none] }) (od := none) ⟨hx4, rfl, rfl, trivial⟩ T.sa ?_
    refine osaE_new kin4 hx4 hcl hmr rfl T.no (fun h5 t5 dx k5 hd5 hdx hx5 hns5 => ?_)
    have hsz : h.objs.size ≤ dx := by
      obtain ⟨o, _, _, e, _⟩ := nsL k14
      exact Nat.le_of_lt (Nat.lt_of_lt_of_le (Heap.lt_size e) hd5)
    refine wpAt_of_wpAny ?_
    rw [execs_nil]
    exact wpAny_pure (hq h5 _ dx t1 (fun b o n e => k5 b o n (k14 b o n (hk1 b o e))) hsz hx5 hns5)
end
end Cl

set_option Elab.async false
set_option maxRecDepth 100000
set_option maxHeartbeats 2000000
/-! raise C(e) for such a class -/
namespace Cl
open PySem PySem.Spec PyProof.Rows L2
section
variable {X : Cx} {N : Wn} {e : Expr} {x : Str} {pos p : Pos} {C fI : Addr} {qual par fld txt : Str} {st : Stmt} {k : Nat}
  {p0 p1 p2 p3 p4 p5 p6 p7 p8 p9 p10 p11 p12 : Pos} {j : Nat}
/-- what may be asked of the program's text once for all -/
structure XiH (st : Stmt) (qual par txt : Str) (p0 p1 p2 p3 p5 p6 p7 p8 : Pos) (j : Nat) : Prop where
  hb : ∀ (s : Shared) (fd : FuncData) (vs : List Value), (∃ kV doc pm an cda ct cc, fd = PySem.W.ksFn "__init__" qual (defArgs st) (defBody st) (defScope st) .none kV doc pm an (.ref cda) ct cc) → vs.length = 2 → BindsTo s fd ⟨vs, []⟩ ([("self" : Str), par].zip vs)
  hlen : ∀ k : Int, k.natAbs.log2 < 1920 → (txt ++ toString k).length ≤ sizeLine
  hc : ∀ (env : Env), eval (.Call (.Attribute (.Call (.Name "super" p0) [] [] p1) "__init__" p2) [.JoinedStr [.Constant (.str txt) j p5, .FormattedValue (.Name par p6) (-1) none p7] p8] [] p3) env = (do
      let ov ← attributeBase (.Call (.Name "super" p0) [] [] p1) "__init__" env (eval (.Call (.Name "super" p0) [] [] p1) env)
      standAt p2.atName
      let (f, first) ← holding [ov] (getMethod ov "__init__" (pure false))
      callWith p3 f first (backTo p3 (starEach [.JoinedStr [.Constant (.str txt) j p5, .FormattedValue (.Name par p6) (-1) none p7] p8] env)) [])
theorem pmk_xi {ta : TA} (T : XiF X.prog X.K X.mg C fI qual par fld txt st) (S : XiS st par fld txt p0 p1 p2 p3 p4 p5 p6 p7 p8 p9 p10 p11 p12 j) (h0 : XiH st qual par txt p0 p1 p2 p3 p5 p6 p7 p8 j)
    (hr : RoomG (k + 2) X.A) (hm : X.mg x = some (.ref C)) (ha : PA X [e] ta) (hg : Gl X x := by rfl) (hdb : (x == ("__debug__" : Str)) = false := by decide) (he : starEach [e] X.env = (false, eval e X.env) :: starEach [] X.env := by rfl) :
    L2N.PMk X (.Call (.Name x p) [e] [] pos) (fun σ H Q => ta σ H fun vs H1 => ∃ i : Int, vs = [.int i] ∧ i.natAbs.log2 < 1920 ∧ ∀ d, H1 d = none → Q (.ref C) (some d) (upd H1 d (.xd [(fld, .int i)]))) := by
  intro pins s σ H Q I h
  obtain ⟨nm, q, NN, bs, bm, sn, sub, ab, col, dd, k0, k1, k2, k3, k5, hC, hbm, hal⟩ := id T.cls
  refine wpAny_Call_Name_kw (ld_glob I hg hm ?_ hdb)
  refine PySem.W.callWith_K (h₀ := X.base) I.ok.mod.kin T.kC (thn (ha.run pos pins s σ H _ I h) fun us s1 ⟨vs, H1, I1, r1, i, ev, hi, q1⟩ => ⟨I1.kIn, ?_⟩) he rfl
  subst ev
  show wpAny _ _ (call (.ref C) us) _ _ _
  obtain ⟨u, rfl, ru⟩ := r1.one
  obtain ⟨tu, rfl⟩ := ru
  have I1' := I1
  obtain ⟨hp, g, dr, tk, os⟩ := s1
  have hsz : hp.objs.size ≤ hp.objs.size + 1 := Nat.le_succ _
  have hn : H1 (hp.objs.size + 1) = none := I1.hok.fresh hsz
  have kk : ∀ b o, hp.get? b = some o → ((hp.push (PySem.W.kdv_tup [Value.int i tu])).push (PySem.HandSPX.excO C hp.objs.size)).get? b = some o := fun b o e => Heap.get?_push_of_some _ (Heap.get?_push_of_some _ e)
  have hget : ((hp.push (PySem.W.kdv_tup [Value.int i tu])).push (PySem.HandSPX.excO C hp.objs.size)).get? (hp.objs.size + 1) = some (PySem.HandSPX.excO C hp.objs.size) := by heap_get
  refine wpAny_call (PySem.HandSPX.call_own F.excBase_Exception (fun Y => refsE_contains Y bm hbm) (I1.kIn _ _ hC) (PySem.W.looks_findIn I1.kIn T.iC) (fun self => PySem.W.bind_fn I1.kIn self T.tI) (by show 1 ≤ sizeLine; decide) ?_)
  refine init_run T S I1.ok.mod (fun b o e => kk b o (I1.bk b o e)) hget ?_ (hr.make C [Value.int i tu] []).room.depth h0.hb hi h0.hlen h0.hc fun h2 t2 dx t1 k2 hdx hx2 hns2 => ?_
  · cases e1 : X.base.get? (hp.objs.size + 1) with
    | none => rfl
    | some o =>
      have := Heap.lt_size (I1.bk _ _ e1)
      exact absurd this (by show ¬ hp.objs.size + 1 < hp.objs.size; omega)
  have hex : (((hp.push (PySem.W.kdv_tup [Value.int i tu])).push (PySem.HandSPX.excO C hp.objs.size)).objs.size) ≤ dx := hdx
  have I2 : Inv X pins σ (upd H1 (hp.objs.size + 1) (exo (hp.objs.size + 1) C none)) ⟨(hp.push (PySem.W.kdv_tup [Value.int i tu])).push (PySem.HandSPX.excO C hp.objs.size), g, dr, tk, os⟩ :=
    I1.laid (t' := tk) (a := hp.objs.size + 1) (o := exo (hp.objs.size + 1) C none) (h' := (hp.push (PySem.W.kdv_tup [Value.int i tu])).push (PySem.HandSPX.excO C hp.objs.size)) kk hsz (exo_ok hget)
  generalize hA : hp.objs.size + 1 = a at *
  generalize hP : (hp.push (PySem.W.kdv_tup [Value.int i tu])).push (PySem.HandSPX.excO C hp.objs.size) = hp2 at *
  have nd0 : ∀ {b : Addr} {o : Obj}, hp2.get? b = some o → b ≠ dx := fun {b o} q => Nat.ne_of_lt (Nat.lt_of_lt_of_le (Heap.lt_size q) hex)
  have e0 : upd H1 a (exo a C none) a = some (exo a C none) := upd_same
  have hd1 : H1 dx = none := by
    exact I1.hok.fresh (Nat.le_trans (Nat.le_succ _) (Nat.le_trans (Nat.le_of_eq hA) (Nat.le_trans (Nat.le_of_lt (Heap.lt_size hget)) hex)))
  have dne : dx ≠ a := fun z => nd0 hget z.symm
  have hnd : upd H1 a (exo a C none) dx = none := by rw [upd_ne dne]; exact hd1
  have na : ∀ {b : Addr}, upd H1 a (exo a C none) b = none → b ≠ a := fun {b} n z => by
    rw [z, e0] at n
    cases n
  have Un1 : Un (frs X.stack) [] (upd H1 a (exo a C none)) (upd (upd (upd H1 a (exo a C none)) dx (exd dx [(fld, V.int i)])) a (exo a C (some dx))) hp2 h2 := {
    keep := fun b o q n _ _ => k2 b o (na n) q
    slot := fun b o q n _ _ => ⟨o.slots, k2 b o (na n) q⟩
    free := fun b o q n _ => by rw [upd_ne (na n), upd_ne (nd0 q)]; exact n
    there := fun b o q _ => by
      by_cases hb : b = a
      · exact ⟨_, by rw [hb]; exact hx2⟩
      · exact ⟨o, k2 b o hb q⟩
    tups := fun b xs q => by rw [upd_ne (at_ne e0 q exo_tup), upd_ne (ne_of_none q hnd)]; exact q
    frzs := fun b o v q => by rw [upd_ne (at_ne e0 q exo_frz), upd_ne (ne_of_none q hnd)]; exact q
    tbls := fun b ps q => ⟨#[], by rw [upd_ne (at_ne e0 q exo_tbl), upd_ne (ne_of_none q hnd), q]; simp⟩ }
  have ry : RelV (V.int i) (Value.int i tu) := ⟨tu, rfl⟩
  have hok : HOk X.prog X.w (upd (upd (upd H1 a (exo a C none)) dx (exd dx [(fld, V.int i)])) a (exo a C (some dx))) h2 := fun b o q => by
    by_cases hb : b = a
    · subst hb
      rw [upd_same] at q
      cases q
      exact exo_ok hx2
    · rw [upd_ne hb] at q
      by_cases hd : b = dx
      · subst hd
        rw [upd_same] at q
        cases q
        exact exd_ok hns2 (relO_put (fs := []) ry fun g => True.intro)
      · rw [upd_ne hd] at q
        exact (I2.hok b o q).stay (fun c v hc z => k2 c v (by
            rcases hc with hc | hc
            · rw [hc]
              exact hb
            · exact at_ne e0 hc exo_own) z)
          (fun c hc => by rw [upd_ne (at_ne e0 hc exo_own), upd_ne (ne_of_none hc hnd)]; exact hc) (fun c xs hc => by rw [upd_ne (at_ne e0 hc exo_tup), upd_ne (ne_of_none hc hnd)]; exact hc)
  obtain ⟨t0', G, J, kG, ge, hoe, na'⟩ := mk_end0 (d1 := dr) (d2 := dr) (t1 := tk) (t2 := t2) (os2 := os) (C := C) (fs := [(fld, V.int i)]) (a := a) (d := dx) I1 (by omega) kk Un1 hok rfl I1.bare upd_same (by rw [upd_ne dne, upd_same]) hd1
  have eH : upd (del (upd (upd (upd H1 a (exo a C none)) dx (exd dx [(fld, V.int i)])) a (exo a C (some dx))) a) dx (.xd [(fld, V.int i)]) = upd H1 dx (.xd [(fld, V.int i)]) := by
    funext b
    by_cases hb : b = dx
    · rw [hb, upd_same, upd_same]
    · rw [upd_ne hb, upd_ne hb]
      by_cases hb2 : b = a
      · rw [hb2, del_same, hn]
      · rw [del_ne hb2, upd_ne hb2, upd_ne hb, upd_ne hb2]
  have qq := q1 dx hd1
  rw [← eH] at qq
  exact ⟨rfl, a, _, _, ⟨G, g, dr, t2, os⟩, _, .ref C, some dx, rfl, J, kG, ge, hoe, ⟨rfl, rfl, fun vs e => by cases e; rfl⟩, rfl, rfl, na', rfl, I1.bare, raises_own T.exC T.tyC, qq⟩
/-- raise C(e) -/
def excI (cn fld : Str) (x : CV) : MS := fun c => match x with
  | .d (.int i) => if i.natAbs.log2 < 1920 then .ex ⟨cn, [(fld, .int i)]⟩ c else .no
  | _ => .no
def sRaiseI (cn fld : Str) (m : Mo CV) : MS := sBind m (excI cn fld)
theorem cs_raiseI {m : Mo CV} {cpos : Pos} (hcalm : X.calm = true) (tk : L2N.Takes X N.W) (T : XiF X.prog X.K X.mg C fI qual par fld txt st) (S : XiS st par fld txt p0 p1 p2 p3 p4 p5 p6 p7 p8 p9 p10 p11 p12 j) (h0 : XiH st qual par txt p0 p1 p2 p3 p5 p6 p7 p8 j)
    (hr : RoomG (k + 2) X.A) (hm : X.mg x = some (.ref C)) (h : CE X N e m) (hg : Gl X x := by rfl) (hdb : (x == ("__debug__" : Str)) = false := by decide) (he : starEach [e] X.env = (false, eval e X.env) :: starEach [] X.env := by rfl) :
    CS1 X N (.Raise (some (.Call (.Name x p) [e] [] cpos)) none pos) (sRaiseI x fld m) :=
  PS.tm (L2N.ps_raise hcalm tk (pmk_xi T S h0 hr hm (pa_cons h pa_nil he) hg hdb he)) fun D σ H ⟨μ, c, R, q⟩ => ⟨μ, c, R, (RunS.bind q).imp fun y μ1 c1 H1 a b r q1 v d => by
    cases y with
    | r _ => exact q1.elim
    | o _ => exact q1.elim
    | d y =>
      cases y with
      | int i =>
        unfold RunS excI at q1
        dsimp only at q1
        by_cases hi : i.natAbs.log2 < 1920
        · rw [if_pos hi] at q1
          obtain rfl := vden_i d
          refine ⟨i, rfl, hi, fun dd hdd => ?_⟩
          have sm : Same H1 (upd H1 dd (.xd [(fld, V.int i)])) := same_new hdd
          exact q1 μ1 σ _ (some dd) _ (List.prefix_refl _) (Fz.same sm) (r.same sm) ⟨hm, .inr ⟨by simp, dd, _, rfl, upd_same, .cons ⟨rfl, den_int _⟩ .nil⟩⟩
        · rw [if_neg hi] at q1
          exact q1.elim
      | none => exact q1.elim
      | bool _ => exact q1.elim
      | str _ => exact q1.elim
      | list _ => exact q1.elim
      | tuple _ => exact q1.elim
      | dict _ => exact q1.elim⟩
end
end Cl

set_option Elab.async false
set_option maxRecDepth 100000
set_option maxHeartbeats 2000000
/-! Where an exception may have a context: defs, calls, try with an except suite that raises from None. -/
namespace Cl
open PySem PySem.Spec PyProof.Rows L2
section
variable {X : Cx} {W : WX}
theorem sky_zc {B : Heap} {l : List Env} {a : Addr} {cls : Value} {d : Option Addr} {L : Addr} {h : Heap} (x : Sky B l a (L2N.Zn cls d) L h) : Sky B l a (Zc cls d) L h := by
  rcases x with ⟨h1, h2, h3, oe, vs, h4, h5, h6⟩ | x | x
  · exact .inl ⟨h1, h2, h3, oe, vs, h4, h5.zc, h6⟩
  · exact .inr (.inl (L2H.flyingZ_imp (fun _ z => z.zc) x))
  · exact .inr (.inr ⟨x.1, x.2.1, x.2.2.1, L2H.tracedZ_imp (fun _ z => z.zc) x.2.2.2⟩)
theorem takes_n (tk : L2.Takes X W) : L2N.Takes X W := fun u s' ⟨a, B, sI, pins, σ, H, cls, d, e, I, nb, up, sky, na, os, ag, w⟩ =>
  tk u s' ⟨a, B, sI, pins, σ, H, cls, d, e, I, nb, up, sky_zc sky, na, os, ag, w⟩
end
section
variable {P : Program} {w : World} {K : PySem.W.Frag} {mg : Str → Option Value} {base : Heap}
theorem fn_clean2 {x qual : Str} {st : Stmt} {f : Addr} {fd : FuncData} {Nn ps : List Str} {k : Nat} {m : MS} (F : Fun K x qual st f fd) (S : FnScope Nn ps (defScope st))
    (h : ∀ (cdv : Value) (A : Around) (outer : List Env) (s : Shared) (H : Hp) (E : XK) (μ : List Addr), RoomG k (A.deeper (envOfC qual (defScope st) s.heap.objs.size f cdv)) →
      CSs (cxOf (L2.CX P w) P w K mg base Nn qual (defScope st) f cdv A outer s H E) ⟨H, μ, fun cls d _ H' => E cls d H'⟩ (defBody st) m) :
    FnG P w K mg base (L2.CX P w) (k + 1) f fd ps (spC ⟨K, w⟩ mg (fnOf m Nn.length) ps.length) := by
  obtain ⟨oc, od, kV, doc, pm, an, cdv, ct, osl, rfl, lk, hcd⟩ := F.ex
  refine fn_ofG lk hcd S (fun vs H Q E q => q.1) fun A outer s H vs Q E hr hsp => ?_
  obtain ⟨hlen, μ, xs, hp, R, d, q⟩ := hsp
  refine ⟨_, h cdv A outer s H E μ hr, μ, _, Rel.start R d rfl, ?_⟩
  unfold fnOf at q
  cases e : m ⟨xs.map .v ++ List.replicate (Nn.length - xs.length) .un, hp⟩ with
  | nx c =>
    rw [e] at q
    exact fun μ1 σ1 H1 a b R1 => q μ1 .non H1 (Post.of R1) vden_none
  | rt y c =>
    rw [e] at q
    exact fun μ1 σ1 H1 v a b R1 dv => q μ1 v H1 (Post.of R1) dv
  | bk c =>
    rw [e] at q
    exact q.elim
  | ct c =>
    rw [e] at q
    exact q.elim
  | ex y c =>
    rw [e] at q
    exact fun μ1 σ1 cls d H1 a b R1 dx => q μ1 cls d H1 (Post.of R1) dx
  | no =>
    rw [e] at q
    exact q.elim
end
section
variable {X : Cx} {N : Wn} {e : Expr} {es : List Expr} {pos p : Pos} {k : Nat} {f : Addr} {fd : FuncData} {ps : List Str} {F : Fn} {n : Nat} {x : Str} {ma : Mo (List CV)}
theorem ce_call2 (G : FnG X.prog X.w X.K X.mg X.base (L2.CX X.prog X.w) k f fd ps (spC (kwOf X) X.mg F n)) (hr : RoomG k X.A) (hm : X.mg x = some (.ref f)) (hk : PySem.W.keepIn X.K (.ref f) = true) (hb : Binds X.K fd ps [])
    (tk : L2.Takes X N.W) (ha : CA X N (e :: es) ma) (hg : Gl X x := by rfl) (hdb : (x == ("__debug__" : Str)) = false := by decide) (he : starEach (e :: es) X.env = (false, eval e X.env) :: starEach es X.env := by rfl)
    (hpl : (backTo pos (starEach es X.env)).any (·.1) = false := by rfl) : CE X N (.Call (.Name x p) (e :: es) [] pos) (mCall n F ma) :=
  PE.tm (pe_callG G hr hg hm hk hb (fun σ => L2.passAt tk σ) ha hdb he hpl) fun σ H Q => call_tm
theorem ce_callL2 (G : FnG X.prog X.w X.K X.mg X.base (L2.CX X.prog X.w) k f fd ps (spC (kwOf X) X.mg F n)) (hr : RoomG k X.A) (hm : X.mg x = some (.ref f)) (hk : PySem.W.keepIn X.K (.ref f) = true) (hb : Binds X.K fd ps [])
    (tk : L2.Takes X N.W) (ha : CA X N (e :: es) ma) (hg : Gl X x := by rfl) (hdb : (x == ("__debug__" : Str)) = false := by decide) (he : starEach (e :: es) X.env = (false, eval e X.env) :: starEach es X.env := by rfl)
    (hpl : (backTo pos (starEach es X.env)).any (·.1) = false := by rfl) : CE X N (.Call (.Name x p) (e :: es) [] pos) (mCallL n F ma) :=
  PE.tm (pe_callG G hr hg hm hk hb (fun σ => L2.passAt tk σ) ha hdb he hpl) fun σ H Q => callL_tm
end
section
variable {X : Cx} {N : Wn} {e o : Expr} {es : List Expr} {pos p apos : Pos} {cn m x : Str} {C : Addr} {k : Nat} {g : Addr} {fd : FuncData} {ps : List Str} {F : Fn} {n : Nat} {ma : Mo (List CV)}
theorem ce_meth2 {mo : Mo CV} (Fc : ClsF X.K X.mg cn C) (hm : Meth X.K C m g) (G : FnG X.prog X.w X.K X.mg X.base (L2.CX X.prog X.w) k g fd ps (spC (kwOf X) X.mg F n)) (hr : RoomG k X.A) (hb : Binds X.K fd ps []) (tk : L2.Takes X N.W) (ho : CE X N o mo) (ha : CA X N (e :: es) ma)
    (hst : starEach (e :: es) X.env = (false, eval e X.env) :: starEach es X.env := by rfl) (hpl : (backTo pos (starEach es X.env)).any (·.1) = false := by rfl)
    {pl : Sem Bool}
    (ht : eval (.Call (.Attribute o m apos) (e :: es) [] pos) X.env = (do
      let ov ← eval o X.env
      standAt apos.atName
      let (f, first) ← holding [ov] (getMethod ov m pl)
      callWith pos f first (backTo pos (starEach (e :: es) X.env)) (backToKw pos (keywordEach [] X.env))) := by rfl) :
    CE X N (.Call (.Attribute o m apos) (e :: es) [] pos) (mMeth n F cn m mo ma) :=
  PE.tm (pe_methG ho Fc.cl hm G hr hb (fun σ => L2.passAt tk σ) ha hst hpl ht) fun σ H Q ⟨μ, c, R, p⟩ => ⟨μ, c, R, (RunAt.bind p).imp fun x μ1 c1 H1 a b r q v d => by
    obtain ⟨ad, dx, fs, rfl, h1, h2, q⟩ := chkI_ok Fc r d q
    exact ⟨ad, dx, fs, rfl, h1, h2, μ1, c1, r, (RunAt.bind q).imp fun xs μ2 c2 H2 a2 b2 r2 q2 vs dl => runF_sp r2 (.cons (VDen.mono b2 a2 d) dl) q2⟩⟩
theorem ce_meth02 {mo : Mo CV} (Fc : ClsF X.K X.mg cn C) (hm : Meth X.K C m g) (G : FnG X.prog X.w X.K X.mg X.base (L2.CX X.prog X.w) k g fd ps (spC (kwOf X) X.mg F n)) (hr : RoomG k X.A) (hb : Binds X.K fd ps []) (tk : L2.Takes X N.W) (ho : CE X N o mo)
    {pl : Sem Bool}
    (ht : eval (.Call (.Attribute o m apos) [] [] pos) X.env = (do
      let ov ← eval o X.env
      standAt apos.atName
      let (f, first) ← holding [ov] (getMethod ov m pl)
      callWith pos f first (backTo pos (starEach [] X.env)) (backToKw pos (keywordEach [] X.env))) := by rfl) :
    CE X N (.Call (.Attribute o m apos) [] [] pos) (mMeth n F cn m mo mNil) :=
  PE.tm (pe_methG0 ho Fc.cl hm G hr hb (fun σ => L2.passAt tk σ) ht) fun σ H Q ⟨μ, c, R, p⟩ => ⟨μ, c, R, (RunAt.bind p).imp fun x μ1 c1 H1 a b r q v d => by
    obtain ⟨ad, dx, fs, rfl, h1, h2, q⟩ := chkI_ok Fc r d q
    exact ⟨ad, dx, fs, rfl, h1, h2, runF_sp r (.cons d .nil) q⟩⟩
end
end Cl

set_option Elab.async false
set_option maxRecDepth 100000
set_option maxHeartbeats 2000000
/-! try with clauses -/
namespace Cl
open PySem PySem.Spec PyProof.Rows L2
/-! ### L2: several clauses, some passed by -/
abbrev TSx := Option (Addr → Value → Option Addr → TS)
def wManyS (K : PySem.W.Frag) (Wout : WX) (D : Ends) : List (Value × TSx) → WX
  | [] => Wout
  | (c, some ts) :: r => fun cls d σ H => ∃ b, PySem.W.exmOne K cls c = some b ∧ (b = true → ∀ a, H a = none → ts a cls d D σ H) ∧ (b = false → wManyS K Wout D r cls d σ H)
  | (c, none) :: r => fun cls d σ H => PySem.W.exmOne K cls c = some false ∧ wManyS K Wout D r cls d σ H
inductive HdsS (X : Cx) : List ExceptHandler → List (Value × TSx) → Prop
  | nil : HdsS X [] []
  | cons {x : Str} {c : Value} {ts : Addr → Value → Option Addr → TS} {b₀ : Stmt} {suite : List Stmt} {np pos' : Pos} {hds : List ExceptHandler} {l : List (Value × TSx)} (hc : Names X x c)
      (hsu : ∀ (a : Addr) (oe : Obj) (cls : Value) (d : Option Addr) (pn : List (Addr × Obj)), Zc cls d oe → (∃ vs, oe.data = .fields vs) → PSs (X.suite a ((a, oe) :: pn)) (b₀ :: suite) (ts a cls d)) (r : HdsS X hds l) :
      HdsS X (.ExceptHandler (some (.Name x np)) none (b₀ :: suite) pos' :: hds) ((c, some ts) :: l)
  | skip {x n : Str} {c : Value} {suite : List Stmt} {np pos' : Pos} {hds : List ExceptHandler} {l : List (Value × TSx)} (hc : Names X x c) (r : HdsS X hds l) :
      HdsS X (.ExceptHandler (some (.Name x np)) (some n) suite pos' :: hds) ((c, none) :: l)
section
variable {X : Cx} {body : List Stmt} {h₀ : ExceptHandler} {hds : List ExceptHandler} {l : List (Value × TSx)} {pos : Pos} {tb : WX → TS} {Wout : WX}
theorem ps_try_manyS (hs : X.stack = X.env :: X.outer) (hf : X.env.frame = some X.env.locals) (tk : Takes X Wout)
    (hb : ∀ (W : WX) (pn : List (Addr × Obj)) (xe : Value → Shared → Prop), Takes (X.tr pn xe) W → PassesOwn (model X.prog X.w) X.A X.env xe → PSs (X.tr pn xe) body (tb W))
    (hh : HdsS X (h₀ :: hds) l) : PS X (.Try body (h₀ :: hds) [] [] pos) (fun D σ H => tb (wManyS X.K Wout D l) D σ H) := by
  refine ⟨fun pz s σ H D I h => ?_⟩
  have ok := I.ok
  have hfm : X.A.frames = some (X.env :: X.outer) := by rw [ok.frames, hs]
  refine wpAny_Try_except ?_
  refine wpAny_mono ((hb (wManyS X.K Wout D l) (X.pn ++ pz) (fun e s₁ => wpAny (model X.prog X.w) X.A (noteFrame e X.env) (fun _ s₂ => wpAny (model X.prog X.w) X.A (setFlight e none) (fun _ s₃ =>
    wpAny (model X.prog X.w) X.A (handleBy e X.env (h₀ :: hds)) (SP X pz D) X.xe s₃) X.xe s₂) X.xe s₁) (fun u s' xx => ?_) PassesOwn.looking).run [] s σ H D (I.toTry _) h) (fun f s1 hsq => ?_) (fun e s1 he => he)
  · -- the catch
    obtain ⟨a, B, sJ, pins', σ', H', cls, d, rfl, Jt, nb, up, sky, na, os, ag, w⟩ := xx
    have J : Inv X pz σ' H' sJ := Jt.ofTry ok
    have sk' : Sky B (X.env :: X.outer) a (Zc cls d) X.env.locals s'.heap := by rw [← hs]; exact sky
    show wpAny (model X.prog X.w) X.A (noteFrame (.ref a) X.env) _ _ _
    refine Sky.land Zc.steady hfm hf sk' fun hq3 fy3 uq3 => ?_
    have K3 : Inv X pz σ' H' { s' with heap := hq3 } := J.landed nb fy3.1 (up.trans uq3) os ag
    obtain ⟨ob3, ws3, ge3, gz3, gd3⟩ := fy3.there
    have noFrm : ∀ {h : Heap} {o : Obj} {vs : Array Value}, h.FunFrames B (X.env :: X.outer) → h.get? a = some o → o.data = .fields vs → a ∉ frs (X.env :: X.outer) := fun {h o vs} ff e dd hm => by
      obtain ⟨_, o', e', hnf⟩ := ff.mem hm
      rw [e] at e'; cases e'
      exact hnf _ dd
    have nfm := noFrm fy3.2.2.1 ge3 gd3
    have nLo : a ≠ X.env.locals := fun z => nfm (List.mem_filterMap.mpr ⟨X.env, List.mem_cons_self, by rw [hf, z]⟩)
    have nFs : a ∉ X.fs := fun hm => by
      obtain ⟨e, he, q⟩ := List.mem_filterMap.mp hm
      exact nfm (List.mem_filterMap.mpr ⟨e, List.mem_cons_of_mem _ he, q⟩)
    have T3 := K3.suite ge3 gd3 na nLo nFs
    have go : ∀ {hds' : List ExceptHandler} {l' : List (Value × TSx)}, HdsS X hds' l' → wManyS X.K Wout D l' cls d σ' H' →
        wpAny (model X.prog X.w) X.A (handleBy (.ref a) X.env hds') (SP X pz D) X.xe { s' with heap := hq3 } := by
      intro hds' l' hk
      induction hk with
      | nil =>
        intro w
        refine wpAny_handleBy_nil ?_
        obtain ⟨k1, k2, k3, oe, vs, T, oT, ts', he, hz, hd, h1, hr⟩ := id fy3
        unfold PySem.passOn
        refine wpAny_bind (wpAny_field he hd h1 ?_)
        rw [if_neg (show ¬ ((Value.ref T == Value.none) = true) from by simp)]
        have fin : wpAny (model X.prog X.w) X.A (setFlight (.ref a) X.env.frame) (fun _ s4 => wpAny (model X.prog X.w) X.A (throw (.ref a) : Sem Flow) (SP X pz D) X.xe s4) X.xe { s' with heap := hq3 } := by
          rw [hf]
          refine HandSPX.setFlight_upZ fy3 fun hq4 hh4 uq4 => wpAny_throw (tk _ _ ?_)
          exact ⟨a, B, sJ, pz, σ', H', cls, d, rfl, J, nb, (up.trans uq3).trans uq4, .inr (.inr (by rw [hs]; exact hh4)), na, os, ag, w⟩
        first
          | exact wpAny_bind (wpAny_pure (wpAny_bind fin))
          | exact wpAny_bind fin
      | @cons x c ts b₀ suite np pos' hds2 l2 hc hsu r iw =>
        intro w
        obtain ⟨b, hx1, hys, hnn⟩ := w
        refine wpAny_handleBy_cons (codeAny_handlers_test ?_) (by intro q; cases q)
        have LTy : PySem.W.Looks (model X.prog X.w) hq3 (typeOf (.ref a)) cls := fun A Q E s k q => wpAny_typeOf_ref (k _ _ ge3) (by rw [gz3.1]; exact q)
        have LMt := PySem.W.exm_one (M := model X.prog X.w) (K3.kIn) LTy hx1
        have tst : ∀ {Q : Value → Shared → Prop} {E : Value → Shared → Prop}, Q c { s' with heap := hq3 } → wpAny (model X.prog X.w) (X.A.mark (some (.ref a))) (eval (.Name x np) X.env) Q E { s' with heap := hq3 } := fun {Q E} q => by
          obtain ⟨hg, hdbg, hm | ⟨hm, hv, hn0⟩⟩ := hc
          · exact ld_glob (X := X.suite a ((a, ob3) :: (X.pn ++ pz))) T3 hg hm q hdbg
          · exact ld_blt (X := X.suite a ((a, ob3) :: (X.pn ++ pz))) T3 hg hm hv q hn0 hdbg
        refine tst (LMt.here ?_)
        cases b with
        | true =>
          refine codeAny_handlers_suite ?_
          refine HandSPX.lands_againZ fy3 fun hq4 fy4 uq4 => ?_
          have K4 : Inv X pz σ' H' { s' with heap := hq4 } := J.landed nb fy4.1 ((up.trans uq3).trans uq4) os ag
          obtain ⟨ob4, ws4, ge4, gz4, gd4⟩ := fy4.there
          have T4 := K4.suite ge4 gd4 na nLo nFs
          refine wpAny_mono ((hsu a ob4 cls d (X.pn ++ pz) gz4 ⟨_, gd4⟩).run [] _ _ H' _ T4 (hys rfl a na)) (fun f s6 hsq => ?_) (fun _ _ z => False.elim z)
          cases f with
          | next =>
            obtain ⟨τ6, G6, T6, r9⟩ := hsq
            exact ⟨_, _, T6.unsuite ok, r9⟩
          | brk =>
            obtain ⟨τ6, G6, T6, r9⟩ := hsq
            exact ⟨_, _, T6.unsuite ok, r9⟩
          | cont =>
            obtain ⟨τ6, G6, T6, r9⟩ := hsq
            exact ⟨_, _, T6.unsuite ok, r9⟩
          | ret u =>
            obtain ⟨v6, τ6, G6, T6, r6, r9⟩ := hsq
            exact ⟨_, _, _, T6.unsuite ok, r6, r9⟩
        | false =>
          show wpAny _ X.A (handleBy (.ref a) X.env hds2) _ _ _
          exact iw (hnn rfl)
      | @skip x n c suite np pos' hds2 l2 hc r iw =>
        intro w
        obtain ⟨hx1, hnn⟩ := w
        refine wpAny_handleBy_cons (codeAny_handlers_test ?_) (by intro q; cases q)
        have LTy : PySem.W.Looks (model X.prog X.w) hq3 (typeOf (.ref a)) cls := fun A Q E s k q => wpAny_typeOf_ref (k _ _ ge3) (by rw [gz3.1]; exact q)
        have LMt := PySem.W.exm_one (M := model X.prog X.w) (K3.kIn) LTy hx1
        have tst : ∀ {Q : Value → Shared → Prop} {E : Value → Shared → Prop}, Q c { s' with heap := hq3 } → wpAny (model X.prog X.w) (X.A.mark (some (.ref a))) (eval (.Name x np) X.env) Q E { s' with heap := hq3 } := fun {Q E} q => by
          obtain ⟨hg, hdbg, hm | ⟨hm, hv, hn0⟩⟩ := hc
          · exact ld_glob (X := X.suite a ((a, ob3) :: (X.pn ++ pz))) T3 hg hm q hdbg
          · exact ld_blt (X := X.suite a ((a, ob3) :: (X.pn ++ pz))) T3 hg hm hv q hn0 hdbg
        refine tst (LMt.here ?_)
        show wpAny _ X.A (handleBy (.ref a) X.env hds2) _ _ _
        exact iw hnn
    exact go hh w
  · cases f with
    | next =>
      obtain ⟨σ', H', Jt, q⟩ := hsq
      exact wpAny_execs_nil ⟨σ', H', Jt.ofTry ok, q⟩
    | brk =>
      obtain ⟨σ', H', Jt, q⟩ := hsq
      exact ⟨σ', H', Jt.ofTry ok, q⟩
    | cont =>
      obtain ⟨σ', H', Jt, q⟩ := hsq
      exact ⟨σ', H', Jt.ofTry ok, q⟩
    | ret u =>
      obtain ⟨v, σ', H', Jt, r, q⟩ := hsq
      exact ⟨v, σ', H', Jt.ofTry ok, r, q⟩
end
end Cl


set_option Elab.async false
set_option maxRecDepth 100000
set_option maxHeartbeats 2000000
/-! try with clauses, over mirrors -/
namespace Cl
open PySem PySem.Spec PyProof.Rows L2
/-- by an exception's name: whether the clause catches it -/
abbrev CatchT := Str → Option Bool
def noEx : RS → RS
  | .ex _ _ => .no
  | r => r
def hdM : List (CatchT × MS) → XC → CS → RS
  | [], e, c => .ex e c
  | (T, h) :: r, e, c => match T e.cls with
    | some true => noEx (h c)
    | some false => hdM r e c
    | none => .no
def sTryM (l : List (CatchT × MS)) (mb : MS) : MS := fun c => match mb c with
  | .ex e c1 => hdM l e c1
  | r => r
/-- one clause, whose suite may raise -/
def sTryX (T : CatchT) (h : MS) (mb : MS) : MS := fun c => match mb c with
  | .ex e c1 => match T e.cls with
    | some true => h c1
    | some false => .ex e c1
    | none => .no
  | r => r
structure CatchF (K : PySem.W.Frag) (mg : Str → Option Value) (T : CatchT) (cW : Value) : Prop where
  t : ∀ nm b cv, T nm = some b → mg nm = some cv → PySem.W.exmOne K cv cW = some b
section
variable {G : Gh} {W : WX} {μ μ1 : List Addr} {H H1 : Hp} {D : Ends} {r : RS}
theorem RunS.noEx {W' : WX} (p : RunS G W (Cl.noEx r) μ H D) : RunS G W' r μ H D := by
  cases r with
  | ex e c => exact p.elim
  | nx c => exact p
  | bk c => exact p
  | ct c => exact p
  | rt u c => exact p
  | no => exact p
end
section
variable {X : Cx} {N : Wn}
abbrev noW (N : Wn) : Wn := ⟨N.B, N.m0, fun _ _ _ _ => False⟩
inductive CHn (X : Cx) (N : Wn) : List ExceptHandler → List (CatchT × MS) → Prop where
  | nil : CHn X N [] []
  | cons {x : Str} {cW : Value} {T : CatchT} {hm : MS} {b₀ : Stmt} {suite : List Stmt} {np pos' : Pos} {hds : List ExceptHandler} {l : List (CatchT × MS)} (hc : Names X x cW) (hT : CatchF X.K X.mg T cW)
      (hs : ∀ (a : Addr) (oe : Obj) (pn : List (Addr × Obj)), CSs (X.suite a ((a, oe) :: pn)) (noW N) (b₀ :: suite) hm) (r : CHn X N hds l) : CHn X N (.ExceptHandler (some (.Name x np)) none (b₀ :: suite) pos' :: hds) ((T, hm) :: l)
inductive CHz (X : Cx) (N : Wn) : List ExceptHandler → List (CatchT × MS) → Prop where
  | nil : CHz X N [] []
  | cons {x : Str} {cW : Value} {T : CatchT} {hm : MS} {b₀ : Stmt} {suite : List Stmt} {np pos' : Pos} {hds : List ExceptHandler} {l : List (CatchT × MS)} (hc : Names X x cW) (hT : CatchF X.K X.mg T cW)
      (hs : ∀ (a : Addr) (oe : Obj) (pn : List (Addr × Obj)), CSs (X.suite a ((a, oe) :: pn)) (noW N) (b₀ :: suite) hm) (r : CHz X N hds l) : CHz X N (.ExceptHandler (some (.Name x np)) none (b₀ :: suite) pos' :: hds) ((T, hm) :: l)
  | skip {x n : Str} {cW : Value} {T : CatchT} {suite : List Stmt} {np pos' : Pos} {hds : List ExceptHandler} {l : List (CatchT × MS)} (hc : Names X x cW) (hT : CatchF X.K X.mg T cW) (hn : ∀ nm, T nm ≠ some true) (r : CHz X N hds l) :
      CHz X N (.ExceptHandler (some (.Name x np)) (some n) suite pos' :: hds) ((T, sNo) :: l)
theorem chn_run {hds : List ExceptHandler} {l : List (CatchT × MS)} (h : CHn X N hds l) : ∃ L, L2N.HdsOk X hds L ∧ ∀ (D : Ends) (e : XC) (c : CS) (μ : List Addr) (σ : LSt) (cls : Value) (d : Option Addr) (H : Hp), Rel (gh X N) μ c σ H → XDen (gh X N) H e cls d →
    RunS (gh X N) N.W (hdM l e c) μ H D → wMany X.K N.W D L cls d σ H := by
  induction h with
  | nil => exact ⟨[], .nil, fun D e c μ σ cls d H R x p => p μ σ cls d H (List.prefix_refl _) (Fz.refl _) R x⟩
  | @cons x cW T hm b₀ suite np pos' hds l hc hT hs r ih =>
    obtain ⟨L, ok, ih⟩ := ih
    refine ⟨(cW, fun _ _ _ => tSt (gh X (noW N)) (noW N).W hm) :: L, .cons hc (fun a oe cls d pn _ _ => hs a oe pn) ok, fun D e c μ σ cls d H R xd p => ?_⟩
    unfold hdM at p
    cases hT2 : T e.cls with
    | none => rw [hT2] at p; exact p.elim
    | some b =>
      rw [hT2] at p
      have ex := hT.t _ _ _ hT2 xd.1
      cases b with
      | true => exact ⟨true, ex, fun _ a _ => ⟨μ, c, R, RunS.noEx p⟩, (fun z => by cases z)⟩
      | false => exact ⟨false, ex, (fun z => by cases z), fun _ => ih D e c μ σ cls d H R xd p⟩
theorem chz_run {hds : List ExceptHandler} {l : List (CatchT × MS)} (h : CHz X N hds l) : ∃ L, HdsS X hds L ∧ ∀ (D : Ends) (e : XC) (c : CS) (μ : List Addr) (σ : LSt) (cls : Value) (d : Option Addr) (H : Hp), Rel (gh X N) μ c σ H → XDen (gh X N) H e cls d →
    RunS (gh X N) N.W (hdM l e c) μ H D → wManyS X.K N.W D L cls d σ H := by
  induction h with
  | nil => exact ⟨[], .nil, fun D e c μ σ cls d H R x p => p μ σ cls d H (List.prefix_refl _) (Fz.refl _) R x⟩
  | @cons x cW T hm b₀ suite np pos' hds l hc hT hs r ih =>
    obtain ⟨L, ok, ih⟩ := ih
    refine ⟨(cW, some fun _ _ _ => tSt (gh X (noW N)) (noW N).W hm) :: L, .cons hc (fun a oe cls d pn _ _ => hs a oe pn) ok, fun D e c μ σ cls d H R xd p => ?_⟩
    unfold hdM at p
    cases hT2 : T e.cls with
    | none => rw [hT2] at p; exact p.elim
    | some b =>
      rw [hT2] at p
      have ex := hT.t _ _ _ hT2 xd.1
      cases b with
      | true => exact ⟨true, ex, fun _ a _ => ⟨μ, c, R, RunS.noEx p⟩, (fun z => by cases z)⟩
      | false => exact ⟨false, ex, (fun z => by cases z), fun _ => ih D e c μ σ cls d H R xd p⟩
  | @skip x n cW T suite np pos' hds l hc hT hn r ih =>
    obtain ⟨L, ok, ih⟩ := ih
    refine ⟨(cW, none) :: L, .skip hc ok, fun D e c μ σ cls d H R xd p => ?_⟩
    unfold hdM at p
    cases hT2 : T e.cls with
    | none => rw [hT2] at p; exact p.elim
    | some b =>
      rw [hT2] at p
      have ex := hT.t _ _ _ hT2 xd.1
      cases b with
      | true => exact absurd hT2 (hn _)
      | false => exact ⟨ex, ih D e c μ σ cls d H R xd p⟩
theorem tryM_run {l : List (CatchT × MS)} {mb : MS} {μ : List Addr} {c : CS} {H : Hp} {D : Ends} {W' : WX} (h : ∀ (e : XC) (c : CS) (μ : List Addr) (σ : LSt) (cls : Value) (d : Option Addr) (H : Hp), Rel (gh X N) μ c σ H → XDen (gh X N) H e cls d →
    RunS (gh X N) N.W (hdM l e c) μ H D → W' cls d σ H) (p : RunS (gh X N) N.W (sTryM l mb c) μ H D) : RunS (gh X N) W' (mb c) μ H D := by
  unfold sTryM at p
  cases e : mb c with
  | nx c1 => rw [e] at p; exact p
  | rt z c1 => rw [e] at p; exact p
  | bk c1 => rw [e] at p; exact p
  | ct c1 => rw [e] at p; exact p
  | no => rw [e] at p; exact p
  | ex z c1 =>
    rw [e] at p
    exact fun μ1 σ1 cls d H1 a f R x => h z c1 μ1 σ1 cls d H1 R x (RunS.up p a f)
theorem cs_tryN {body : List Stmt} {mb : MS} {hd : ExceptHandler} {hds : List ExceptHandler} {l : List (CatchT × MS)} {tp : Pos} (hst : X.stack = X.env :: X.outer) (hfr : X.env.frame = some X.env.locals) (tk : L2N.Takes X N.W) (hh : CHn X N (hd :: hds) l)
    (hbody : ∀ (W' : WX) (pn : List (Addr × Obj)) (xe : Value → Shared → Prop), L2N.Takes (X.tr pn xe) W' → PassesOwn (model X.prog X.w) X.A X.env xe → CSs (X.tr pn xe) ⟨N.B, N.m0, W'⟩ body mb) :
    CS1 X N (.Try body (hd :: hds) [] [] tp) (sTryM l mb) := by
  obtain ⟨L, ok, k⟩ := chn_run hh
  exact PS.tm (L2N.ps_try_many (tb := fun W' => tSt (gh X ⟨N.B, N.m0, W'⟩) W' mb) (Wout := N.W) hst hfr tk (fun W' pn xe tk' po => hbody W' pn xe tk' po) ok) fun D σ H ⟨μ, c, R, p⟩ => ⟨μ, c, R, tryM_run (N := N) (k D) p⟩
theorem cs_tryZ {body : List Stmt} {mb : MS} {hd : ExceptHandler} {hds : List ExceptHandler} {l : List (CatchT × MS)} {tp : Pos} (hst : X.stack = X.env :: X.outer) (hfr : X.env.frame = some X.env.locals) (tk : L2.Takes X N.W) (hh : CHz X N (hd :: hds) l)
    (hbody : ∀ (W' : WX) (pn : List (Addr × Obj)) (xe : Value → Shared → Prop), L2.Takes (X.tr pn xe) W' → PassesOwn (model X.prog X.w) X.A X.env xe → CSs (X.tr pn xe) ⟨N.B, N.m0, W'⟩ body mb) :
    CS1 X N (.Try body (hd :: hds) [] [] tp) (sTryM l mb) := by
  obtain ⟨L, ok, k⟩ := chz_run hh
  exact PS.tm (ps_try_manyS (tb := fun W' => tSt (gh X ⟨N.B, N.m0, W'⟩) W' mb) (Wout := N.W) hst hfr tk (fun W' pn xe tk' po => hbody W' pn xe tk' po) ok) fun D σ H ⟨μ, c, R, p⟩ => ⟨μ, c, R, tryM_run (N := N) (k D) p⟩
/-- except X: a suite that raises -/
theorem cs_tryX {body suite : List Stmt} {b₀ : Stmt} {mb hm : MS} {x : Str} {cW : Value} {T : CatchT} {np pos' tp : Pos} (hst : X.stack = X.env :: X.outer) (hfr : X.env.frame = some X.env.locals) (hc : Names X x cW) (hT : CatchF X.K X.mg T cW)
    (hpa : ∀ hd : Option Value, PassesOwnAt (model X.prog X.w) (X.A.mark hd) X.A X.env X.xe) (tk : L2.Takes X N.W)
    (hs : ∀ (a : Addr) (oe : Obj) (pn : List (Addr × Obj)), L2.Takes (L2H.suiteX X a ((a, oe) :: pn)) N.W → L2H.HotC (L2H.suiteX X a ((a, oe) :: pn)) → CSs (L2H.suiteX X a ((a, oe) :: pn)) N (b₀ :: suite) hm)
    (hbody : ∀ (W' : WX) (pn : List (Addr × Obj)) (xe : Value → Shared → Prop), L2N.Takes (X.tr pn xe) W' → PassesOwn (model X.prog X.w) X.A X.env xe → CSs (X.tr pn xe) ⟨N.B, N.m0, W'⟩ body mb) :
    CS1 X N (.Try body [.ExceptHandler (some (.Name x np)) none (b₀ :: suite) pos'] [] [] tp) (sTryX T hm mb) :=
  PS.tm (L2H.ps_try_onlyX (tb := fun W' => tSt (gh X ⟨N.B, N.m0, W'⟩) W' mb) (ts := fun _ _ _ => tSt (gh X N) N.W hm) (Wout := N.W) hst hfr hc hpa tk (fun W' pn xe tk' _ po => hbody W' pn xe tk' po) (fun a oe cls d pn _ _ t h => hs a oe pn t h)) fun D σ H ⟨μ, c, R, p⟩ => ⟨μ, c, R, by
    unfold sTryX at p
    cases e : mb c with
    | nx c1 => rw [e] at p; exact p
    | rt z c1 => rw [e] at p; exact p
    | bk c1 => rw [e] at p; exact p
    | ct c1 => rw [e] at p; exact p
    | no => rw [e] at p; exact p
    | ex z c1 =>
      rw [e] at p
      dsimp only at p
      intro μ1 σ1 cls d H1 a f R1 xd
      cases hT2 : T z.cls with
      | none => rw [hT2] at p; exact p.elim
      | some b =>
        rw [hT2] at p
        have ex := hT.t _ _ _ hT2 xd.1
        cases b with
        | true => exact ⟨true, ex, fun _ b _ => ⟨μ1, c1, R1, RunS.up p a f⟩, (fun z => by cases z)⟩
        | false => exact ⟨false, ex, (fun z => by cases z), fun _ => p μ1 σ1 cls d H1 a f R1 xd⟩⟩
/-- raise C('..') from None, in such a suite -/
theorem pmk5_own {x m : Str} {C : Addr} {j : Nat} {p p2 pos : Pos} {bmB : List Value} {B newId initId : String} (Fb : ExcBaseFacts B newId initId bmB) (q : PySem.W.excIn X.K C bmB newId = true) (gC : X.mg x = some (.ref C)) (kC : PySem.W.keepIn X.K (.ref C) = true) (rs : Raises X (.ref C)) (hg : Gl X x)
    (hdb : (x == ("__debug__" : Str)) = false := by decide) : L2H.PMk5 X (.Call (.Name x p) [.Constant (.str m) j p2] [] pos) (fun _ H Q => Q (.ref C) none H) := by
  intro pz s σ H Q I w
  refine wpAny_Call_Name_kw (ld_glob I hg gC ?_ hdb)
  have hp : PA X [.Constant (.str m) j p2] (tCons (tC (.str m)) tNil) := pa_cons pe_str pa_nil
  refine PySem.W.callWith_K (h₀ := X.base) I.ok.mod.kin kC (thn (hp.run pos pz s σ H (fun vs H1 => vs = [V.str m] ∧ H = H1) I ⟨rfl, rfl⟩) fun us s1 ⟨vs, H1, I1, r1, ev, eH⟩ => ?_)
  subst ev
  rw [← eH] at I1
  refine ⟨I1.kIn, ?_⟩
  obtain ⟨u, rfl, ru⟩ := r1.one
  show wpAny _ _ (call (.ref C) [u]) _ _ _
  obtain ⟨bm, NN, nm, qn, bs, hdct, sn, sub, ab, col, dd, k0, k1, k2, k3, k5, mN, hC, hN, hni, T⟩ := exc_obj I1.kIn q
  refine wpAny_call_exc_subT Fb T hC hN hni (fun h' e hm => ?_) (by show 1 ≤ sizeLine; decide)
  exact L2H.mk_of5 I1 hm rs w (I1.hok.gone hm.new)
theorem cs_raiseFrom {x m : Str} {C : Addr} {j jn : Nat} {p p2 pos2 pn pos : Pos} (hc : L2H.HotC X) (tk : L2.Takes X N.W) (h : ExcK X.K X.mg x C) (hg : Gl X x := by rfl) (hdb : (x == ("__debug__" : Str)) = false := by decide) :
    CS1 X N (.Raise (some (.Call (.Name x p) [.Constant (.str m) j p2] [] pos2)) (some (.Constant .none jn pn)) pos) (sRaise x) :=
  PS.tm (L2H.ps_raiseHN hc tk (pmk5_own PySem.F.excBase_Exception h.xF h.gC h.kC (raises_own h.bF h.tF) hg hdb)) fun D σ H ⟨μ, c, R, p⟩ =>
    p μ σ (.ref C) none H (List.prefix_refl _) (Fz.refl _) R ⟨h.gC, .inl ⟨rfl, rfl⟩⟩
end
end Cl

set_option Elab.async false
set_option maxRecDepth 100000
set_option maxHeartbeats 2000000
/-! Making without arguments; is None of objects; except W as e: return a datum. -/
namespace Cl
open PySem PySem.Spec PyProof.Rows L2
section
variable {X : Cx} {N : Wn} {a b : Expr} {pos p : Pos} {cn x : Str} {C : Addr} {k : Nat} {g : Addr} {fd : FuncData} {ps : List Str} {F : Fn} {n : Nat}
theorem pe_makeG0 {CX : CXT} {sp : Sp} {E : L2.St → XK} (M : Mk X.K C g) (G : FnG X.prog X.w X.K X.mg X.base CX k g fd ps sp) (hr : RoomG (k + 1) X.A) (hm : X.mg x = some (.ref C)) (hb : Binds X.K fd ps []) (hx : ∀ σ, PassesAt CX X σ (E σ)) (hg : Gl X x := by rfl)
    (hdb : (x == ("__debug__" : Str)) = false := by decide) : PE X (.Call (.Name x p) [] [] pos) (tMakeS C sp E tNil) := by
  refine ⟨fun pz s σ H Q I h => ?_⟩
  refine wpAny_Call_Name_kw (ld_glob I hg hm ?_ hdb)
  refine PySem.W.callWith_K0 (first := []) I.kIn M.kp ?_
  show wpAny _ _ (call (.ref C) []) _ _ _
  have hq := h (s.heap.objs.size + 1) s.heap.objs.size (I.hok.fresh (Nat.le_succ _)) (I.hok.fresh (Nat.le_refl _)) (Nat.ne_of_lt (Nat.lt_succ_self _))
  have I2 := Inv.made (C := C) I
  have r2 : Vals [V.ref (s.heap.objs.size + 1)] [Value.ref (s.heap.objs.size + 1)] := .cons rfl .nil
  have bd : BindsTo { s with heap := (s.heap.push PySem.W.emptyDict).push (PySem.W.instObj C s.heap.objs.size) } fd ⟨[Value.ref (s.heap.objs.size + 1)], []⟩ (ps.zip [Value.ref (s.heap.objs.size + 1)]) := by
    have := hb { s with heap := (s.heap.push PySem.W.emptyDict).push (PySem.W.instObj C s.heap.objs.size) } [Value.ref (s.heap.objs.size + 1)] I2.kIn (by rw [List.append_nil, ← r2.length]; exact G.len _ _ _ _ hq)
    rwa [List.append_nil] at this
  refine wpAny_call (make_map (f := g) I.kIn M.makes M.init (beq_iff_eq.mp M.fn) (codeAny_mono (G.go _ (hr.make C [] []) X.stack _ _ ⟨[Value.ref (s.heap.objs.size + 1)], []⟩ [Value.ref (s.heap.objs.size + 1)] _ _ (E σ)
    (I2.env0.make C [] []) bd r2 hq) fun y z hz => ?_))
  match y, hz with
  | .error u, hz => exact hx σ pz _ _ u z I2 hz
  | .ok (.ret u), hz =>
    obtain ⟨v, H', I3, rv, ev, q3⟩ := I2.after hz
    subst ev
    exact ⟨rv, ⟨V.ref (s.heap.objs.size + 1), H', I3, rfl, q3⟩⟩
def mMake0 (n : Nat) (F : Fn) (cn : Str) : Mo CV := mMake n F cn mNil
theorem ce_make0 (Fc : ClsF X.K X.mg cn C) (M : Mk X.K C g) (G : FnG X.prog X.w X.K X.mg X.base (L2N.CX X.prog X.w) k g fd ps (spC (kwOf X) X.mg F n)) (hr : RoomG (k + 1) X.A) (hb : Binds X.K fd ps []) (tk : L2N.Takes X N.W) (hg : Gl X cn := by rfl)
    (hdb : (cn == ("__debug__" : Str)) = false := by decide) : CE X N (.Call (.Name cn p) [] [] pos) (mMake n F cn mNil) :=
  PE.tm (pe_makeG0 M G hr Fc.gC hb (fun σ => L2N.passAt tk σ) hg hdb) fun σ H1 Q ⟨μ1, c1, r, p⟩ x dx hx hdx hne => by
    have q := (RunAt.bind p) μ1 H1 (List.prefix_refl _) (Fz.refl _) r
    have dl : VDenL (kwOf X) H1 μ1 [] [] := .nil
    have hx' : upd H1 dx (.own x) x = none := by rw [upd_ne (Ne.symm hne)]; exact hx
    have r1 := r.same (same_new (o := .own x) hdx)
    obtain ⟨r2, f2, p2⟩ := r1.newHp (o := .ins cn []) (ho := .ins C dx []) hx' ⟨C, dx, [], rfl, Fc.gC, .nil⟩
    have fz : Fz H1 (upd (upd H1 dx (.own x)) x (.ins C dx [])) := (Fz.same (same_new hdx)).trans f2
    have dn : VDen (kwOf X) (upd (upd H1 dx (.own x)) x (.ins C dx [])) (μ1 ++ [x]) (.r c1.hp.length) (.ref x) := ⟨x, by rw [← r.hl, List.getElem?_append_right (Nat.le_refl _), Nat.sub_self]; rfl, rfl⟩
    refine runF_sp (Q := fun v H2 => v = .non ∧ Q (.ref x) H2) r2 (.cons dn (VDenL.mono fz p2 dl)) ?_
    unfold RunAt at q ⊢
    have ec : cNew (.ins cn []) c1 = { c1 with hp := c1.hp ++ [.ins cn []] } := rfl
    dsimp only at q
    rw [ec] at q
    cases hF : runF n F (.r c1.hp.length :: []) { c1 with hp := c1.hp ++ [.ins cn []] } with
    | ok y c2 =>
      rw [hF] at q
      intro μ2 H2 a2 b2 R2 v dv
      cases y with
      | d y =>
        cases y with
        | none =>
          have ev : v = .non := by
            have dv : Den (kwOf X) H2 .none v := dv
            simpa only [Den] using dv
          refine ⟨ev, q μ2 H2 (p2.trans a2) (fz.trans b2) R2 (.ref x) ⟨x, ?_, rfl⟩⟩
          exact pre_get a2 (by rw [← r.hl, List.getElem?_append_right (Nat.le_refl _), Nat.sub_self]; rfl)
        | bool _ => exact q.elim
        | int _ => exact q.elim
        | str _ => exact q.elim
        | list _ => exact q.elim
        | tuple _ => exact q.elim
        | dict _ => exact q.elim
      | r _ => exact q.elim
      | o _ => exact q.elim
    | ex y c2 =>
      rw [hF] at q
      intro μ2 cls d H2 a2 b2 R2 dx2
      exact q μ2 cls d H2 (p2.trans a2) (fz.trans b2) R2 dx2
    | no =>
      rw [hF] at q
      exact q
def isNr (neg : Bool) (m : Mo CV) : Mo CV := mBind m fun x => match x with
  | .d y => mRet (.d (.bool (if neg then !isN (.d y) else isN (.d y))))
  | .r _ => mRet (.d (.bool neg))
  | .o _ => fun _ => .no
theorem cc_isNr {ma : Mo CV} {j : Nat} {pos' : Pos} (ha : CE X N a ma) : CC X N .Is a (.Constant .none j pos') (isNr false ma) := by
  refine ⟨fun pz s σ H Q I h => (pc_isN ha).run pz s σ H Q I ?_⟩
  obtain ⟨μ, c, R, p⟩ := h
  refine ⟨μ, c, R, (RunAt.bind p).imp fun x μ1 c1 H1 a b r q v d => ?_⟩
  cases x with
  | d y =>
    have d : Den (kwOf X) H1 y v := d
    rw [isN_iff d]
    exact RunAt.ret q H1 (Fz.refl _) r _ (vden_bool _)
  | r n =>
    obtain ⟨ad, _, rfl⟩ := d
    exact RunAt.ret q H1 (Fz.refl _) r _ (vden_bool false)
  | o _ => exact q.elim
/-- except W as e: return a datum -/
def isUn : Option Sl → Bool
  | some .un => true
  | _ => false
theorem isUn_ok {o : Option Sl} (h : isUn o = true) : o = some .un := by
  cases o with
  | none => cases h
  | some s => cases s <;> first | rfl | cases h
def sTryA (cn : Str) (i : Nat) (z : PyData) (mb : MS) : MS := fun c => match mb c with
  | .ex e c1 => if e.cls = cn ∧ e.fs = [] ∧ i < c1.sl.length ∧ isUn c1.sl[i]? = true then .rt (.d z) c1 else .no
  | r => r
theorem cs_tryA {wn n : Str} {i : Nat} {W : Value} {body suite : List Stmt} {b₀ : Stmt} {mb : MS} {m : Addr → MS} {z : PyData} {C : Addr} {np hp tp : Pos} (hst : X.stack = X.env :: X.outer) (hfr : X.env.frame = some X.env.locals) (hNN : X.N.Nodup) (hW : Names X wn W) (tk : L2N.Takes X N.W)
    (hcn : X.mg cn = some (.ref C)) (hex : PySem.W.exmOne X.K (.ref C) W = some true)
    (hs : ∀ (a : Addr) (oe : Obj) (pn : List (Addr × Obj)), Zc (.ref C) none oe → (∃ vs, oe.data = .fields vs) → CSs (X.suite a ((a, oe) :: pn)) (noW N) (b₀ :: suite) (m a))
    (hm : ∀ (a : Addr) (c : CS), i < c.sl.length → m a { c with sl := c.sl.set i (.v (.o (.ref a))) } = .rt (.d z) { c with sl := c.sl.set i (.v (.o (.ref a))) })
    (hbody : ∀ (W' : WX) (pn : List (Addr × Obj)) (xe : Value → Shared → Prop), L2N.Takes (X.tr pn xe) W' → PassesOwn (model X.prog X.w) X.A X.env xe → CSs (X.tr pn xe) ⟨N.B, N.m0, W'⟩ body mb)
    (hN : X.N[i]? = some n := by rfl) (hln : X.env.kindOf n = some .local := by rfl) :
    CS1 X N (.Try body [.ExceptHandler (some (.Name wn np)) (some n) (b₀ :: suite) hp] [] [] tp) (sTryA cn i z mb) := by
  refine PS.tm (L2N.ps_try_as (i := i) (tb := fun W' => tSt (gh X ⟨N.B, N.m0, W'⟩) W' mb) (ts := fun a cls d D σ H => (cls = .ref C ∧ d = none) ∧ tSt (gh X (noW N)) (noW N).W (m a) D σ H) (Wout := N.W) hst hfr hNN hN hln hW tk (fun W' pn xe tk' po => hbody W' pn xe tk' po)
    (fun a oe cls d pn zn fl => ⟨fun pz s σ H D I ⟨⟨e1, e2⟩, q⟩ => by
      subst e1 e2
      exact (hs a oe pn zn.zc fl).run pz s σ H D I q⟩)) fun D σ H ⟨μ, c, R, p⟩ => ⟨μ, c, R, ?_⟩
  unfold RunS sTryA at p
  unfold RunS
  cases e : mb c with
  | nx c1 => rw [e] at p; exact p
  | rt y c1 => rw [e] at p; exact p
  | bk c1 => rw [e] at p; exact p
  | ct c1 => rw [e] at p; exact p
  | no => rw [e] at p; exact p
  | ex y c1 =>
    rw [e] at p
    dsimp only at p
    by_cases hl : y.cls = cn ∧ y.fs = [] ∧ i < c1.sl.length ∧ isUn c1.sl[i]? = true
    · rw [if_pos hl] at p
      intro μ1 σ1 cls d H1 a1 f1 R1 xd
      obtain ⟨l1, l2, l3, l4⟩ := hl
      have l4 := isUn_ok l4
      obtain ⟨x1, x2⟩ := xd
      rw [l1] at x1
      cases hcn.symm.trans x1
      have hd : d = none := by
        rcases x2 with ⟨_, h⟩ | ⟨ne, _⟩
        · exact h
        · exact absurd l2 ne
      refine ⟨true, hex, fun _ b hb => ⟨⟨rfl, hd⟩, μ1, { c1 with sl := c1.sl.set i (.v (.o (.ref b))) }, R1.set (x := .o (.ref b)) rfl, ?_⟩, fun h => by cases h⟩
      rw [hm b c1 l3]
      intro μ2 σ2 H2 v a2 f2 R2 dv
      have R3 : Rel (gh X N) μ2 c1 σ2 H2 := by
        have hi : i < σ2.length := by
          rw [← R2.len]
          show i < (c1.sl.set i _).length
          rw [List.length_set]
          exact l3
        have r3 := Rel.forget (i := i) (t := σ2[i]) R2
        rw [List.set_getElem_self hi] at r3
        have el : (c1.sl.set i (.v (.o (.ref b)))).set i .un = c1.sl := by
          rw [List.set_set]
          have : c1.sl[i] = .un := by
            rw [List.getElem?_eq_getElem l3] at l4
            exact Option.some.inj l4
          rw [← this, List.set_getElem_self]
        have r3 : Rel (gh X (noW N)) μ2 { c1 with sl := (c1.sl.set i (.v (.o (.ref b)))).set i .un } σ2 H2 := r3
        rw [el] at r3
        exact r3
      exact p μ2 σ2 H2 v (a1.trans a2) (f1.trans f2) R3 dv
    · rw [if_neg hl] at p
      exact p.elim
end
end Cl
namespace Cl
open PySem PySem.Spec PyProof.Rows L2
theorem css_no {X : Cx} {N : Wn} {sts : List Stmt} : CSs X N sts sNo := ⟨fun _ _ _ _ _ _ ⟨_, _, _, q⟩ => (show False from q).elim⟩
theorem xi_len {txt : Str} (h0 : txt.length ≤ 1000) (k : Int) (h : k.natAbs.log2 < 1920) : (txt ++ toString k).length ≤ sizeLine := by
  have e := int_text_length_le (k := 1920) (by decide) h
  rw [Str.length_append, PySem.ofString_length, sizeLine_eq]
  omega
def XiP (st : Stmt) (qual par fld txt : Str) : Prop := ∃ (p0 p1 p2 p3 p4 p5 p6 p7 p8 p9 p10 p11 p12 : Pos) (j : Nat), XiS st par fld txt p0 p1 p2 p3 p4 p5 p6 p7 p8 p9 p10 p11 p12 j ∧ XiH st qual par txt p0 p1 p2 p3 p5 p6 p7 p8 j
theorem cs_raiseP {X : Cx} {N : Wn} {e : Expr} {x : Str} {pos p cpos : Pos} {C fI : Addr} {qual par fld txt : Str} {st : Stmt} {k : Nat} {m : Mo CV} (hcalm : X.calm = true) (tk : L2N.Takes X N.W) (T : XiF X.prog X.K X.mg C fI qual par fld txt st) (S : XiP st qual par fld txt)
    (hr : RoomG (k + 2) X.A) (hm : X.mg x = some (.ref C)) (h : CE X N e m) (hg : Gl X x := by rfl) (hdb : (x == ("__debug__" : Str)) = false := by decide) (he : starEach [e] X.env = (false, eval e X.env) :: starEach [] X.env := by rfl) :
    CS1 X N (.Raise (some (.Call (.Name x p) [e] [] cpos)) none pos) (sRaiseI x fld m) := by
  obtain ⟨p0, p1, p2, p3, p4, p5, p6, p7, p8, p9, p10, p11, p12, j, S, h0⟩ := S
  exact cs_raiseI hcalm tk T S h0 hr hm h hg hdb he
end Cl

set_option Elab.async false
set_option maxRecDepth 100000
set_option maxHeartbeats 4000000
namespace Lw
open PySem PySem.Spec PyProof.Rows L2 Cl
def topS (i : Nat) : Stmt := PySem.Challenge.pw_namewarden_k83_desk_forms_and_limits.main.body.getD i (.Pass ⟨0, 0, 0, 0⟩)
def clsS (i j : Nat) : Stmt := match topS i with
  | .ClassDef _ _ _ b _ _ _ _ _ _ _ => b.getD j (.Pass ⟨0, 0, 0, 0⟩)
  | _ => .Pass ⟨0, 0, 0, 0⟩
structure AdT where
  check_log : Addr
  check_machine : Addr
  read_log : Addr
  read_machine : Addr
abbrev s__law_is_digits : Stmt := topS 92
theorem sc__law_is_digits : FnScope ["text", "sign"] ["text"] (defScope s__law_is_digits) := ⟨rfl, rfl, rfl, by decide +kernel, rfl, by decide +kernel, by decide +kernel⟩
abbrev s__law_has_form : Stmt := topS 93
theorem sc__law_has_form : FnScope ["row", "words", "rest"] ["row"] (defScope s__law_has_form) := ⟨rfl, rfl, rfl, by decide +kernel, rfl, by decide +kernel, by decide +kernel⟩
abbrev s__law_next : Stmt := topS 90
theorem sc__law_next : FnScope ["state", "many", "turn"] ["state", "many"] (defScope s__law_next) := ⟨rfl, rfl, rfl, by decide +kernel, rfl, by decide +kernel, by decide +kernel⟩
abbrev s__law_one : Stmt := topS 91
theorem sc__law_one : FnScope ["state", "rows"] ["state", "rows"] (defScope s__law_one) := ⟨rfl, rfl, rfl, by decide +kernel, rfl, by decide +kernel, by decide +kernel⟩
abbrev s__law_row : Stmt := topS 94
theorem sc__law_row : FnScope ["state", "word", "number", "rows"] ["state"] (defScope s__law_row) := ⟨rfl, rfl, rfl, by decide +kernel, rfl, by decide +kernel, by decide +kernel⟩
abbrev s_Desk___init__ : Stmt := clsS 85 0
theorem sc_Desk___init__ : FnScope ["self"] ["self"] (defScope s_Desk___init__) := ⟨rfl, rfl, rfl, by decide +kernel, rfl, by decide +kernel, by decide +kernel⟩
abbrev s_Hall_image : Stmt := clsS 72 18
theorem sc_Hall_image : FnScope ["self", "machines", "logs", "promises", "number", "rows", "name", "machine", "row", "first", "second", "own", "log"] ["self"] (defScope s_Hall_image) := ⟨rfl, rfl, rfl, by decide +kernel, rfl, by decide +kernel, by decide +kernel⟩
abbrev s_found_in : Stmt := topS 67
theorem sc_found_in : FnScope ["rows", "name", "row"] ["rows", "name"] (defScope s_found_in) := ⟨rfl, rfl, rfl, by decide +kernel, rfl, by decide +kernel, by decide +kernel⟩
abbrev s_Hall_log : Stmt := clsS 72 8
theorem sc_Hall_log : FnScope ["self", "number", "found"] ["self", "number"] (defScope s_Hall_log) := ⟨rfl, rfl, rfl, by decide +kernel, rfl, by decide +kernel, by decide +kernel⟩
abbrev s_Hall_logs : Stmt := clsS 72 4
theorem sc_Hall_logs : FnScope ["self"] ["self"] (defScope s_Hall_logs) := ⟨rfl, rfl, rfl, by decide +kernel, rfl, by decide +kernel, by decide +kernel⟩
abbrev s_Hall_machine : Stmt := clsS 72 7
theorem sc_Hall_machine : FnScope ["self", "name", "found"] ["self", "name"] (defScope s_Hall_machine) := ⟨rfl, rfl, rfl, by decide +kernel, rfl, by decide +kernel, by decide +kernel⟩
abbrev s_Hall_machines : Stmt := clsS 72 3
theorem sc_Hall_machines : FnScope ["self"] ["self"] (defScope s_Hall_machines) := ⟨rfl, rfl, rfl, by decide +kernel, rfl, by decide +kernel, by decide +kernel⟩
abbrev s_Hall_promises : Stmt := clsS 72 5
theorem sc_Hall_promises : FnScope ["self"] ["self"] (defScope s_Hall_promises) := ⟨rfl, rfl, rfl, by decide +kernel, rfl, by decide +kernel, by decide +kernel⟩
abbrev s_is_good : Stmt := topS 29
abbrev s_least_good : Stmt := topS 33
abbrev s_listed : Stmt := topS 84
theorem sc_listed : FnScope ["words"] ["words"] (defScope s_listed) := ⟨rfl, rfl, rfl, by decide +kernel, rfl, by decide +kernel, by decide +kernel⟩
abbrev s_log_text : Stmt := topS 52
abbrev s_is_word : Stmt := topS 14
theorem sc_is_word : FnScope ["text", "sign"] ["text"] (defScope s_is_word) := ⟨rfl, rfl, rfl, by decide +kernel, rfl, by decide +kernel, by decide +kernel⟩
abbrev s_check_log : Stmt := topS 16
theorem sc_check_log : FnScope ["log", "word", "name"] ["log"] (defScope s_check_log) := ⟨rfl, rfl, rfl, by decide +kernel, rfl, by decide +kernel, by decide +kernel⟩
abbrev s_is_one : Stmt := topS 55
theorem sc_is_one : FnScope ["check", "told"] ["check", "told"] (defScope s_is_one) := ⟨rfl, rfl, rfl, by decide +kernel, rfl, by decide +kernel, by decide +kernel⟩
abbrev s_number_of : Stmt := topS 50
theorem sc_number_of : FnScope ["text", "sign"] ["text"] (defScope s_number_of) := ⟨rfl, rfl, rfl, by decide +kernel, rfl, by decide +kernel, by decide +kernel⟩
abbrev s_rows_in : Stmt := topS 53
theorem sc_rows_in : FnScope ["text", "rows"] ["text"] (defScope s_rows_in) := ⟨rfl, rfl, rfl, by decide +kernel, rfl, by decide +kernel, by decide +kernel⟩
abbrev s_read_log : Stmt := topS 54
theorem sc_read_log : FnScope ["text", "rows", "last", "found", "at", "row", "words", "name"] ["text"] (defScope s_read_log) := ⟨rfl, rfl, rfl, by decide +kernel, rfl, by decide +kernel, by decide +kernel⟩
abbrev s_rows_told : Stmt := topS 83
abbrev s_told : Stmt := topS 82
theorem sc_told : FnScope ["read", "text", "rows", "row"] ["read", "text"] (defScope s_told) := ⟨rfl, rfl, rfl, by decide +kernel, rfl, by decide +kernel, by decide +kernel⟩
abbrev s_Desk_asked : Stmt := clsS 85 2
theorem sc_Desk_asked : FnScope ["self", "word", "parts", "hall", "name", "_", "row", "number", "log", "state", "names", "one"] ["self", "word", "parts"] (defScope s_Desk_asked) := ⟨rfl, rfl, rfl, by decide +kernel, rfl, by decide +kernel, by decide +kernel⟩
abbrev s_Hall_drop_machine : Stmt := clsS 72 10
theorem sc_Hall_drop_machine : FnScope ["self", "name", "row"] ["self", "name"] (defScope s_Hall_drop_machine) := ⟨rfl, rfl, rfl, by decide +kernel, rfl, by decide +kernel, by decide +kernel⟩
abbrev s_Hall_give : Stmt := clsS 72 12
theorem sc_Hall_give : FnScope ["self", "number"] ["self", "number"] (defScope s_Hall_give) := ⟨rfl, rfl, rfl, by decide +kernel, rfl, by decide +kernel, by decide +kernel⟩
abbrev s_Hall_grow : Stmt := clsS 72 13
theorem sc_Hall_grow : FnScope ["self", "number", "events", "name", "log", "longer"] ["self", "number", "events"] (defScope s_Hall_grow) := ⟨rfl, rfl, rfl, by decide +kernel, rfl, by decide +kernel, by decide +kernel⟩
abbrev s_Hall_hold : Stmt := clsS 72 11
theorem sc_Hall_hold : FnScope ["self", "name", "log", "machine", "number"] ["self", "name", "log"] (defScope s_Hall_hold) := ⟨rfl, rfl, rfl, by decide +kernel, rfl, by decide +kernel, by decide +kernel⟩
abbrev s_check_label : Stmt := topS 71
theorem sc_check_label : FnScope ["name"] ["name"] (defScope s_check_label) := ⟨rfl, rfl, rfl, by decide +kernel, rfl, by decide +kernel, by decide +kernel⟩
abbrev s_Hall_promise : Stmt := clsS 72 14
theorem sc_Hall_promise : FnScope ["self", "name", "first", "second"] ["self", "name", "first", "second"] (defScope s_Hall_promise) := ⟨rfl, rfl, rfl, by decide +kernel, rfl, by decide +kernel, by decide +kernel⟩
abbrev s_Hall_put_machine : Stmt := clsS 72 9
abbrev s_Hall_release : Stmt := clsS 72 15
theorem sc_Hall_release : FnScope ["self", "name"] ["self", "name"] (defScope s_Hall_release) := ⟨rfl, rfl, rfl, by decide +kernel, rfl, by decide +kernel, by decide +kernel⟩
abbrev s_Hall_undo : Stmt := clsS 72 16
theorem sc_Hall_undo : FnScope ["self"] ["self"] (defScope s_Hall_undo) := ⟨rfl, rfl, rfl, by decide +kernel, rfl, by decide +kernel, by decide +kernel⟩
abbrev s_States___init__ : Stmt := clsS 60 0
theorem sc_States___init__ : FnScope ["self", "words"] ["self", "words"] (defScope s_States___init__) := ⟨rfl, rfl, rfl, by decide +kernel, rfl, by decide +kernel, by decide +kernel⟩
abbrev s_States_take : Stmt := clsS 60 1
abbrev s_rising : Stmt := topS 15
theorem sc_rising : FnScope ["row", "one", "other"] ["row"] (defScope s_rising) := ⟨rfl, rfl, rfl, by decide +kernel, rfl, by decide +kernel, by decide +kernel⟩
abbrev s_check_words : Stmt := topS 17
theorem sc_check_words : FnScope ["words", "word"] ["words"] (defScope s_check_words) := ⟨rfl, rfl, rfl, by decide +kernel, rfl, by decide +kernel, by decide +kernel⟩
abbrev s_check_machine : Stmt := topS 22
theorem sc_check_machine : FnScope ["machine", "words", "states", "held", "_", "good", "rules", "row", "at", "rule"] ["machine"] (defScope s_check_machine) := ⟨rfl, rfl, rfl, by decide +kernel, rfl, by decide +kernel, by decide +kernel⟩
abbrev s_read_words : Stmt := topS 59
theorem sc_read_words : FnScope ["row", "word", "words", "one"] ["row", "word"] (defScope s_read_words) := ⟨rfl, rfl, rfl, by decide +kernel, rfl, by decide +kernel, by decide +kernel⟩
abbrev s_read_machine : Stmt := topS 61
theorem sc_read_machine : FnScope ["text", "rows", "last", "words", "states", "at", "row"] ["text"] (defScope s_read_machine) := ⟨rfl, rfl, rfl, by decide +kernel, rfl, by decide +kernel, by decide +kernel⟩
abbrev s_Desk_changed : Stmt := clsS 85 1
theorem sc_Desk_changed : FnScope ["self", "word", "parts", "hall"] ["self", "word", "parts"] (defScope s_Desk_changed) := ⟨rfl, rfl, rfl, by decide +kernel, rfl, by decide +kernel, by decide +kernel⟩
abbrev s_Hall___init__ : Stmt := clsS 72 0
theorem sc_Hall___init__ : FnScope ["self"] ["self"] (defScope s_Hall___init__) := ⟨rfl, rfl, rfl, by decide +kernel, rfl, by decide +kernel, by decide +kernel⟩
abbrev s_Desk_answered : Stmt := clsS 85 3
theorem sc_Desk_answered : FnScope ["self", "word", "parts", "answer"] ["self", "word", "parts"] (defScope s_Desk_answered) := ⟨rfl, rfl, rfl, by decide +kernel, rfl, by decide +kernel, by decide +kernel⟩
abbrev s_read_number : Stmt := topS 73
theorem sc_read_number : FnScope ["text", "sign"] ["text"] (defScope s_read_number) := ⟨rfl, rfl, rfl, by decide +kernel, rfl, by decide +kernel, by decide +kernel⟩
abbrev s_numbered : Stmt := topS 81
theorem sc_numbered : FnScope ["word", "digits", "more", "number"] ["word", "digits", "more"] (defScope s_numbered) := ⟨rfl, rfl, rfl, by decide +kernel, rfl, by decide +kernel, by decide +kernel⟩
abbrev s_read_line : Stmt := topS 80
theorem sc_read_line : FnScope ["row", "words"] ["row"] (defScope s_read_line) := ⟨rfl, rfl, rfl, by decide +kernel, rfl, by decide +kernel, by decide +kernel⟩
abbrev s_Desk_run_row : Stmt := clsS 85 4
theorem sc_Desk_run_row : FnScope ["self", "row", "word", "parts", "error"] ["self", "row"] (defScope s_Desk_run_row) := ⟨rfl, rfl, rfl, by decide +kernel, rfl, by decide +kernel, by decide +kernel⟩
abbrev s_run_script : Stmt := topS 86
theorem sc_run_script : FnScope ["text", "rows", "desk", "row"] ["text"] (defScope s_run_script) := ⟨rfl, rfl, rfl, by decide +kernel, rfl, by decide +kernel, by decide +kernel⟩
abbrev s__law_run : Stmt := topS 95
theorem sc__law_run : FnScope ["text", "e"] ["text"] (defScope s__law_run) := ⟨rfl, rfl, rfl, by decide +kernel, rfl, by decide +kernel, by decide +kernel⟩
abbrev s__law_same : Stmt := topS 88
theorem sc__law_same : FnScope ["told_v", "due"] ["told_v", "due"] (defScope s__law_same) := ⟨rfl, rfl, rfl, by decide +kernel, rfl, by decide +kernel, by decide +kernel⟩
abbrev s__law_stream : Stmt := topS 89
theorem sc__law_stream : FnScope ["script", "numbers", "cell", "rest", "k", "stirred"] ["script"] (defScope s__law_stream) := ⟨rfl, rfl, rfl, by decide +kernel, rfl, by decide +kernel, by decide +kernel⟩
abbrev s_law : Stmt := topS 96
theorem sc_law : FnScope ["script", "state", "turn", "rows", "k", "due", "row", "told_v", "bad", "limits"] ["script"] (defScope s_law) := ⟨rfl, rfl, rfl, by decide +kernel, rfl, by decide +kernel, by decide +kernel⟩
abbrev s_BadForm___init__ : Stmt := clsS 6 0
def ct0 : CatchT := fun x => if x = "Missing" then some false else if x = "NotAllowed" then some false else if x = "TooLarge" then some false else none
theorem ct0_n : ∀ nm, ct0 nm ≠ some true := fun nm => by
  unfold ct0
  repeat (first | (split; exact fun z => by cases z) | split | exact fun z => by cases z)
def ct1 : CatchT := fun x => if x = "Missing" then some false else if x = "NotAllowed" then some true else if x = "TooLarge" then some false else none
def ct2 : CatchT := fun x => if x = "Missing" then some false else if x = "TooLarge" then some true else none
def ct3 : CatchT := fun x => if x = "Missing" then some true else none
def ct4 : CatchT := fun x => if x = "NotAllowed" then some true else if x = "TooLarge" then some true else none
def ct5 : CatchT := fun x => if x = "BadForm" then some true else none
def m_lr (a : Addr) : MS := sRet (mFz (mRepE (mLst (mCons (mC (.str "large")) mNil)) (mBind (mBo (mAndV (mIsE a 1 true) (mNotV (mIsE a 1 false)))) gInt)))
theorem lr_eq (a : Addr) (c : CS) (hl : 1 < c.sl.length) : m_lr a { c with sl := c.sl.set 1 (.v (.o (.ref a))) } = .rt (.d (.list [.str "large"])) { c with sl := c.sl.set 1 (.v (.o (.ref a))) } := by
  have h : (c.sl.set 1 (Sl.v (.o (.ref a))))[1]? = some (.v (.o (.ref a))) := List.getElem?_set_self hl
  have k : ∀ b, mIsE a 1 b { c with sl := c.sl.set 1 (Sl.v (.o (.ref a))) } = .ok (.d (.bool b)) { c with sl := c.sl.set 1 (Sl.v (.o (.ref a))) } := fun b => by
    unfold mIsE
    dsimp only
    rw [h]
    dsimp only
    rw [if_pos rfl]
  have e : (mBind (mBo (mAndV (mIsE a 1 true) (mNotV (mIsE a 1 false)))) gInt) { c with sl := c.sl.set 1 (Sl.v (.o (.ref a))) } = .ok (.d (.int 1)) { c with sl := c.sl.set 1 (Sl.v (.o (.ref a))) } := by
    simp [mBind, mBo, mAndV, mNotV, mTru, k, asB, mRet, gInt, gO, bIntB]
  have key : ∀ (M : Mo CV) (s : CS), M s = .ok (.d (.int 1)) s → sRet (mFz (mRepE (mLst (mCons (mC (.str "large")) mNil)) M)) s = .rt (.d (.list [.str "large"])) s := fun M s h => by
    simp [sRet, sBind, mFz, mRepE, repK, mLst, mCons, mNil, mC, mBind, mRet, mOpt, mkL, asD, h, repE]
  exact key _ _ e

def m__law_is_digits (Ad : AdT) : MS :=
  (sRet (mAndV (mChain (lift2 pLe) (lift2 pLe) (mC (.int 1)) (mBind (mPeek 0) gLen) (mC (.int 4))) (mAndV (m2 (lift2 pEq) (mBind (mBf (mLc (mItems (mVar 0)) (gN 1) (mTru (m2b (gInG true) (mVar 1) (mBo (mC (.str "0123456789"))))) (mVar 1) [1])) gLen) (mC (.int 0))) (m2 (lift2 pNe) (mIxNG 0 (mC (.int 0))) (mC (.str "0"))))))
def F__law_is_digits (Ad : AdT) : Fn := fnOf (m__law_is_digits Ad) 2
def m__law_has_form (Ad : AdT) : MS :=
  (sSeq (sIf (mTru (m2b (gInG false) (mVar 0) (mBf (mLst (mCons (mC (.str "hall")) (mCons (mC (.str "undo")) (mCons (mC (.str "machines")) (mCons (mC (.str "logs")) (mCons (mC (.str "promises")) (mCons (mC (.str "image")) mNil)))))))))) (sRet (mC (.bool true))) sNx)
  (sSeq (sOwn 1 (mSplit (mVar 0) (mC (.str " "))))
  (sSeq (sOwn 2 (mSlL (mVar 1) (mPart (mC (.int 1))) (mRet none)))
  (sSeq (sIf (mTru (m2b (gInG false) (mIxNG 1 (mC (.int 0))) (mBf (mLst (mCons (mC (.str "drop")) (mCons (mC (.str "release")) (mCons (mC (.str "least")) mNil))))))) (sRet (m2 (lift2 pEq) (mBind (mPeek 2) gLen) (mC (.int 1)))) sNx)
  (sSeq (sIf (mTru (m2b (gInG false) (mIxNG 1 (mC (.int 0))) (mBf (mLst (mCons (mC (.str "give")) (mCons (mC (.str "text")) (mCons (mC (.str "state")) mNil))))))) (sRet (mAndV (m2 (lift2 pEq) (mBind (mPeek 2) gLen) (mC (.int 1))) (mCall 1 (F__law_is_digits Ad) (mCons (mIxNG 2 (mC (.int 0))) mNil)))) sNx)
  (sSeq (sIf (mTru (m2 (lift2 pEq) (mIxNG 1 (mC (.int 0))) (mC (.str "grow")))) (sRet (mAndV (m2 (lift2 pGe) (mBind (mPeek 2) gLen) (mC (.int 2))) (mCall 1 (F__law_is_digits Ad) (mCons (mIxNG 2 (mC (.int 0))) mNil)))) sNx)
  (sSeq (sIf (mTru (m2b (gInG false) (mIxNG 1 (mC (.int 0))) (mBf (mLst (mCons (mC (.str "machine")) (mCons (mC (.str "hold")) (mCons (mC (.str "good")) mNil))))))) (sRet (m2 (lift2 pGe) (mBind (mPeek 2) gLen) (mC (.int 2)))) sNx)
  (sRet (mAndV (m2 (lift2 pEq) (mIxNG 1 (mC (.int 0))) (mC (.str "promise"))) (m2 (lift2 pEq) (mBind (mPeek 2) gLen) (mC (.int 3))))))))))))
def F__law_has_form (Ad : AdT) : Fn := fnOf (m__law_has_form Ad) 3
def m__law_next (Ad : AdT) : MS :=
  (sSeq (sPutG 0 (mC (.int 1)) (m2 (lift2 pAdd) (mIxNG 0 (mC (.int 1))) (mC (.int 1))))
  (sSeq (sSet 2 (m2 (lift2 pDiv) (mIxNG 0 (mC (.int 1))) (mBind (mBo (mIxNG 0 (mC (.int 0)))) gLen)))
  (sRet (m2 (lift2 pMod) (mBind (mBo (m2 (lift2 pAdd) (m2 (lift2 pAdd) (mIxG (mIxNG 0 (mC (.int 0))) (m2 (lift2 pMod) (mIxNG 0 (mC (.int 1))) (mBind (mBo (mIxNG 0 (mC (.int 0)))) gLen))) (m2 (lift2 pMulT) (mVar 2) (mC (.int 389)))) (m2 (lift2 pMulT) (m2 (lift2 pMulT) (mIxNG 0 (mC (.int 1))) (mVar 2)) (mC (.int 17))))) gInt) (mVar 1)))))
def F__law_next (Ad : AdT) : Fn := fnOf (m__law_next Ad) 3
def m__law_one (Ad : AdT) : MS :=
  (sRet (mIxNG 1 (mCall 2 (F__law_next Ad) (mCons (mVar 0) (mCons (mBind (mPeek 1) gLen) mNil)))))
def F__law_one (Ad : AdT) : Fn := fnOf (m__law_one Ad) 2
def m__law_row (Ad : AdT) : MS :=
  (sSeq (sSet 1 (mCall 2 (F__law_one Ad) (mCons (mVar 0) (mCons (mFz (mLst (mCons (mC (.str "a")) (mCons (mC (.str "any")) (mCons (mC (.str "A")) (mCons (mC (.str "")) (mCons (mC (.str "-")) (mCons (mC (.str "zz")) mNil)))))))) mNil))))
  (sSeq (sSet 2 (mCall 2 (F__law_one Ad) (mCons (mVar 0) (mCons (mFz (mLst (mCons (mC (.str "0")) (mCons (mC (.str "1")) (mCons (mC (.str "7")) (mCons (mC (.str "01")) (mCons (mC (.str "-1")) (mCons (mC (.str "9999")) (mCons (mC (.str "10000")) (mCons (mC (.str "")) (mCons (mC (.str "x")) (mCons (mC (.str "1.5")) mNil)))))))))))) mNil))))
  (sSeq (sOwn 3 (mLst (mCons (mC (.str "undo")) (mCons (mC (.str "machines")) (mCons (mC (.str "logs")) (mCons (mC (.str "promises")) (mCons (mC (.str "image")) (mCons (mC (.str "image 1")) (mCons (m2 (lift2 pAdd) (mC (.str "drop ")) (mVar 1)) (mCons (mC (.str "drop")) (mCons (mC (.str "drop a b")) (mCons (m2 (lift2 pAdd) (mC (.str "release ")) (mVar 1)) (mCons (m2 (lift2 pAdd) (mC (.str "least ")) (mVar 1)) (mCons (mC (.str "least")) mNil))))))))))))))
  (sSeq (sOwn 3 (mCat (mVar 3) (mFz (mLst (mCons (m2 (lift2 pAdd) (mC (.str "give ")) (mVar 2)) (mCons (m2 (lift2 pAdd) (mC (.str "text ")) (mVar 2)) (mCons (m2 (lift2 pAdd) (mC (.str "state ")) (mVar 2)) (mCons (mC (.str "state")) (mCons (m2 (lift2 pAdd) (m2 (lift2 pAdd) (mC (.str "grow ")) (mVar 2)) (mC (.str " open 1"))) (mCons (mC (.str "grow 1")) mNil))))))))))
  (sSeq (sOwn 3 (mCat (mVar 3) (mFz (mLst (mCons (m2 (lift2 pAdd) (m2 (lift2 pAdd) (mC (.str "grow ")) (mVar 2)) (mC (.str " "))) (mCons (mC (.str "promise a b c")) (mCons (mC (.str "promise a b")) (mCons (m2 (lift2 pAdd) (mC (.str "promise a b ")) (mVar 1)) mNil))))))))
  (sSeq (sOwn 3 (mCat (mVar 3) (mFz (mLst (mCons (mC (.str "machine a")) (mCons (mC (.str "machine a ")) (mCons (mC (.str "machine a words a")) (mCons (mC (.str "hold a")) (mCons (mC (.str "hold a -")) (mCons (m2 (lift2 pAdd) (m2 (lift2 pAdd) (mC (.str "hold ")) (mVar 1)) (mC (.str " open 1"))) (mCons (mC (.str "good a")) (mCons (m2 (lift2 pAdd) (m2 (lift2 pAdd) (mC (.str "good ")) (mVar 1)) (mC (.str " -"))) (mCons (mC (.str "")) (mCons (mC (.str " ")) (mCons (mC (.str "open")) (mCons (mC (.str "Hall")) mNil))))))))))))))))
  (sRet (mCall 2 (F__law_one Ad) (mCons (mVar 0) (mCons (mVar 3) mNil))))))))))
def F__law_row (Ad : AdT) : Fn := fnOf (m__law_row Ad) 4
def m_Desk___init__ (Ad : AdT) : MS :=
  (sFldS "Desk" "hall" (mVar 0) (mC .none))
def F_Desk___init__ (Ad : AdT) : Fn := fnOf (m_Desk___init__ Ad) 1
def m_Hall_image (Ad : AdT) : MS :=
  (sSeq (sUn (mFld "Hall" "now" (mVar 0)) (gT (unCons (gN 1) (unCons (gN 2) (unCons (gN 3) (unCons (gN 4) unNil)))) ((gN 1).ix ++ ((gN 2).ix ++ ((gN 3).ix ++ ((gN 4).ix ++ []))))))
  (sSeq (sOwn 5 (mLst (mCons (mFs [mC (.str "next "), (mVar 4)]) mNil)))
  (sSeq (sFor (mItems (mVar 1)) (gT (unCons (gN 6) (unCons (gN 7) unNil)) ((gN 6).ix ++ ((gN 7).ix ++ [])))
  sNo)
  (sSeq (sDrop (mExt 5 (mBf (mLc (mItems (mVar 3)) (gT (unCons (gN 6) (unCons (gN 9) (unCons (gN 10) unNil))) ((gN 6).ix ++ ((gN 9).ix ++ ((gN 10).ix ++ [])))) mYes mNo [6, 9, 10]))))
  (sSeq (sFor (mItems (mVar 2)) (gT (unCons (gN 11) (unCons (gN 6) (unCons (gN 12) unNil))) ((gN 11).ix ++ ((gN 6).ix ++ ((gN 12).ix ++ []))))
  sNo)
  (sRet (mJoin (mC (.str "")) (mBf (mLc (mItems (mVar 5)) (gN 8) mYes (m2 (lift2 pAdd) (mVar 8) (mC (.str "
"))) [8])))))))))
def F_Hall_image (Ad : AdT) : Fn := fnOf (m_Hall_image Ad) 13
def m_found_in (Ad : AdT) : MS :=
  (sSeq (sFor (mItems (mVar 0)) (gN 2)
  (sIf (mTru (m2 (lift2 pEq) (mIxNG 2 (mC (.int 0))) (mVar 1))) (sRet (mVar 2)) sNx))
  (sRet (mC .none)))
def F_found_in (Ad : AdT) : Fn := fnOf (m_found_in Ad) 3
def m_Hall_log (Ad : AdT) : MS :=
  (sSeq (sSet 2 (mCall 2 (F_found_in Ad) (mCons (mIxG (mFld "Hall" "now" (mVar 0)) (mC (.int 1))) (mCons (mVar 1) mNil))))
  (sSeq (sIf (mTru (isNr false (mVar 2))) (sRaise "Missing") sNx)
  (sRet (mSl (mVar 2) (mPart (mC (.int 1))) (mRet none)))))
def F_Hall_log (Ad : AdT) : Fn := fnOf (m_Hall_log Ad) 3
def m_Hall_logs (Ad : AdT) : MS :=
  (sRet (mIxG (mFld "Hall" "now" (mVar 0)) (mC (.int 1))))
def F_Hall_logs (Ad : AdT) : Fn := fnOf (m_Hall_logs Ad) 1
def m_Hall_machine (Ad : AdT) : MS :=
  (sSeq (sSet 2 (mCall 2 (F_found_in Ad) (mCons (mIxG (mFld "Hall" "now" (mVar 0)) (mC (.int 0))) (mCons (mVar 1) mNil))))
  (sSeq (sIf (mTru (isNr false (mVar 2))) (sRaise "Missing") sNx)
  (sRet (mIxNG 2 (mC (.int 1))))))
def F_Hall_machine (Ad : AdT) : Fn := fnOf (m_Hall_machine Ad) 3
def m_Hall_machines (Ad : AdT) : MS :=
  (sRet (mIxG (mFld "Hall" "now" (mVar 0)) (mC (.int 0))))
def F_Hall_machines (Ad : AdT) : Fn := fnOf (m_Hall_machines Ad) 1
def m_Hall_promises (Ad : AdT) : MS :=
  (sRet (mIxG (mFld "Hall" "now" (mVar 0)) (mC (.int 2))))
def F_Hall_promises (Ad : AdT) : Fn := fnOf (m_Hall_promises Ad) 1
def F_is_good (Ad : AdT) : Fn := gapF
def F_least_good (Ad : AdT) : Fn := gapF
def m_listed (Ad : AdT) : MS :=
  (sRet (mIf (mTru (m2 (lift2 pGt) (mBind (mPeek 0) gLen) (mC (.int 0)))) (mJoin (mC (.str " ")) (mPeek 0)) (mC (.str "-"))))
def F_listed (Ad : AdT) : Fn := fnOf (m_listed Ad) 1
def F_log_text (Ad : AdT) : Fn := gapF
def m_is_word (Ad : AdT) : MS :=
  (sSeq (sIf (mOr (mNot (mTru (mChain (lift2 pLe) (lift2 pLe) (mC (.int 1)) (mBind (mPeek 0) gLen) (mC (.int 12))))) (mTru (m2b (gInG true) (mIxNG 0 (mC (.int 0))) (mBo (mC (.str "abcdefghijklmnopqrstuvwxyz")))))) (sRet (mC (.bool false))) sNx)
  (sRet (mBind (mBf (mLc (mItems (mVar 0)) (gN 1) mYes (m2b (gInG false) (mVar 1) (mBo (mC (.str "abcdefghijklmnopqrstuvwxyz0123456789")))) [1])) gAll)))
def F_is_word (Ad : AdT) : Fn := fnOf (m_is_word Ad) 2
def m_check_log (Ad : AdT) : MS :=
  (sSeq (sIf (mTru (m2 (lift2 pGt) (mBind (mPeek 0) gLen) (mC (.int 60)))) (sRaise "TooLarge") sNx)
  (sSeq (sIf (mNot (mTru (mBind (mBf (mLc (mItems (mVar 0)) (gT (unCons (gN 1) (unCons (gN 2) unNil)) ((gN 1).ix ++ ((gN 2).ix ++ []))) mYes (mAndV (mCall 1 (F_is_word Ad) (mCons (mVar 1) mNil)) (mChain (lift2 pLe) (lift2 pLe) (mC (.int 0)) (mVar 2) (mC (.int 999)))) [1, 2])) gAll))) (sRaise "NotAllowed") sNx)
  (sRet (mC .none))))
def F_check_log (Ad : AdT) : Fn := fnOf (m_check_log Ad) 3
def m_is_one_check_log (Ad : AdT) : MS :=
  (sSeq (sTryM [(ct4, (sRet (mC (.bool false))))] (sDrop (mCallV 0 Ad.check_log 1 (F_check_log Ad) (mCons (mVar 1) mNil))))
  (sRet (mC (.bool true))))
def F_is_one_check_log (Ad : AdT) : Fn := fnOf (m_is_one_check_log Ad) 2
def m_number_of (Ad : AdT) : MS :=
  (sSeq (sIf (mOr (mNot (mTru (mChain (lift2 pLe) (lift2 pLe) (mC (.int 1)) (mBind (mPeek 0) gLen) (mC (.int 3))))) (mNot (mTru (mBind (mBf (mLc (mItems (mVar 0)) (gN 1) mYes (m2b (gInG false) (mVar 1) (mBo (mC (.str "0123456789")))) [1])) gAll)))) (sRet (mC .none)) sNx)
  (sRet (mIf (mAnd (mTru (m2 (lift2 pGt) (mBind (mPeek 0) gLen) (mC (.int 1)))) (mTru (m2 (lift2 pEq) (mIxNG 0 (mC (.int 0))) (mC (.str "0"))))) (mC .none) (mBind (mPeek 0) gIntS))))
def F_number_of (Ad : AdT) : Fn := fnOf (m_number_of Ad) 2
def m_rows_in (Ad : AdT) : MS :=
  (sSeq (sIf (mTru (m2 (lift2 pGt) (mBind (mPeek 0) gLen) (mC (.int 40000)))) (sRaiseI "BadForm" "line" (mC (.int 0))) sNx)
  (sSeq (sOwn 1 (mSplit (mVar 0) (mC (.str "
"))))
  (sRet (mTup (mCons (mFz (mSlL (mVar 1) (mRet none) (mPart (mBind (mC (.int 1)) gNeg)))) (mCons (mIf (mTru (m2 (lift2 pNe) (mIxNG 1 (mBind (mC (.int 1)) gNeg)) (mC (.str "")))) (mBind (mPeek 1) gLen) (mC (.int 0))) mNil))))))
def F_rows_in (Ad : AdT) : Fn := fnOf (m_rows_in Ad) 2
def m_read_log (Ad : AdT) : MS :=
  (sSeq (sUn (mCall 1 (F_rows_in Ad) (mCons (mVar 0) mNil)) (gT (unCons (gN 1) (unCons (gN 2) unNil)) ((gN 1).ix ++ ((gN 2).ix ++ []))))
  (sSeq (sOwn 3 (mLst mNil))
  (sSeq (sFor (mEnum (mVar 1)) (gT (unCons (gN 4) (unCons (gN 5) unNil)) ((gN 4).ix ++ ((gN 5).ix ++ [])))
  (sSeq (sOwn 6 (mSplit (mVar 5) (mC (.str " "))))
  (sSeq (sSet 7 (mIf (mTru (m2 (lift2 pEq) (mBind (mPeek 6) gLen) (mC (.int 2)))) (mCall 1 (F_number_of Ad) (mCons (mIxNG 6 (mC (.int 1))) mNil)) (mC .none)))
  (sSeq (sIf (mOr (mTru (isNr false (mVar 7))) (mOr (mNot (mTru (mCall 1 (F_is_word Ad) (mCons (mIxNG 6 (mC (.int 0))) mNil)))) (mNot (mTru (mCall 2 (F_is_one_check_log Ad) (mCons (mFv Ad.check_log) (mCons (mTup (mStar (mPeek 3) (mCons (mTup (mCons (mIxNG 6 (mC (.int 0))) (mCons (mVar 7) mNil))) mNil))) mNil))))))) (sRaiseI "BadForm" "line" (m2 (lift2 pAdd) (mVar 4) (mC (.int 1)))) sNx)
  (sDrop (mApp 3 (mTup (mCons (mIxNG 6 (mC (.int 0))) (mCons (mVar 7) mNil)))))))))
  (sSeq (sIf (mTru (m2 (lift2 pGt) (mVar 2) (mC (.int 0)))) (sRaiseI "BadForm" "line" (mVar 2)) sNx)
  (sRet (mBind (mPeek 3) gTupc))))))
def F_read_log (Ad : AdT) : Fn := fnOf (m_read_log Ad) 8
def F_rows_told (Ad : AdT) : Fn := gapF
def m_told_read_log (Ad : AdT) : MS :=
  (sSeq (sOwn 2 (mIf (mTru (m2 (lift2 pEq) (mVar 1) (mC (.str "-")))) (mLst mNil) (mSplit (mVar 1) (mC (.str " ; ")))))
  (sTryX ct5 (sRaise "NotAllowed") (sRet (mCallV 0 Ad.read_log 1 (F_read_log Ad) (mCons (mJoin (mC (.str "")) (mBf (mLc (mItems (mVar 2)) (gN 3) mYes (m2 (lift2 pAdd) (mVar 3) (mC (.str "
"))) [3]))) mNil)))))
def F_told_read_log (Ad : AdT) : Fn := fnOf (m_told_read_log Ad) 4
def m_Desk_asked (Ad : AdT) : MS :=
  (sSeq (sSet 3 (mFld "Desk" "hall" (mVar 0)))
  (sSeq (sIf (mTru (m2 (lift2 pEq) (mVar 1) (mC (.str "machines")))) (sRet (mCall 1 (F_listed Ad) (mCons (mFz (mLc (mItems (mMeth 1 (F_Hall_machines Ad) "Hall" "machines" (mVar 3) mNil)) (gT (unCons (gN 4) (unCons (gN 5) unNil)) ((gN 4).ix ++ ((gN 5).ix ++ []))) mYes (mVar 4) [4, 5])) mNil))) sNx)
  (sSeq (sIf (mTru (m2 (lift2 pEq) (mVar 1) (mC (.str "promises")))) (sRet (mCall 1 (F_listed Ad) (mCons (mFz (mLc (mItems (mMeth 1 (F_Hall_promises Ad) "Hall" "promises" (mVar 3) mNil)) (gN 6) mYes (mIxNG 6 (mC (.int 0))) [6])) mNil))) sNx)
  (sSeq (sIf (mTru (m2 (lift2 pEq) (mVar 1) (mC (.str "logs")))) (sRet (mCall 1 (F_listed Ad) (mCons (mFz (mLc (mItems (mMeth 1 (F_Hall_logs Ad) "Hall" "logs" (mVar 3) mNil)) (gT (unCons (gN 7) (unCons (gN 4) (unCons (gN 5) unNil))) ((gN 7).ix ++ ((gN 4).ix ++ ((gN 5).ix ++ [])))) mYes mNo [7, 4, 5])) mNil))) sNx)
  (sSeq (sIf (mTru (m2 (lift2 pEq) (mVar 1) (mC (.str "image")))) (sRet (mBind (mBo (mBind (mBo (mMeth 1 (F_Hall_image Ad) "Hall" "image" (mVar 3) mNil)) gLen)) gStrI)) sNx)
  (sSeq (sIf (mTru (m2 (lift2 pEq) (mVar 1) (mC (.str "least")))) (sRet (mCall 1 (F_rows_told Ad) (mCons (mCall 1 (F_log_text Ad) (mCons (mCall 1 (F_least_good Ad) (mCons (mMeth 2 (F_Hall_machine Ad) "Hall" "machine" (mVar 3) (mCons (mIxNG 2 (mC (.int 0))) mNil)) mNil)) mNil)) mNil))) sNx)
  (sSeq (sIf (mTru (m2 (lift2 pEq) (mVar 1) (mC (.str "good")))) (sSeq (sSet 8 (mCallL 2 (F_told_read_log Ad) (mCons (mFv Ad.read_log) (mCons (mIxNG 2 (mC (.int 1))) mNil))))
  (sRet (mIf (mTru (mCall 2 (F_is_good Ad) (mCons (mMeth 2 (F_Hall_machine Ad) "Hall" "machine" (mVar 3) (mCons (mIxNG 2 (mC (.int 0))) mNil)) (mCons (mVar 8) mNil)))) (mC (.str "yes")) (mC (.str "no"))))) sNx)
  (sSeq (sUn (mMeth 2 (F_Hall_log Ad) "Hall" "log" (mVar 3) (mCons (mIxNG 2 (mC (.int 0))) mNil)) (gT (unCons (gN 4) (unCons (gN 8) unNil)) ((gN 4).ix ++ ((gN 8).ix ++ []))))
  sNo))))))))
def F_Desk_asked (Ad : AdT) : Fn := fnOf (m_Desk_asked Ad) 12
def m_Hall_drop_machine (Ad : AdT) : MS :=
  (sSeq (sDrop (mMeth 2 (F_Hall_machine Ad) "Hall" "machine" (mVar 0) (mCons (mVar 1) mNil)))
  sNo)
def F_Hall_drop_machine (Ad : AdT) : Fn := fnOf (m_Hall_drop_machine Ad) 3
def m_Hall_give (Ad : AdT) : MS :=
  (sSeq (sDrop (mMeth 2 (F_Hall_log Ad) "Hall" "log" (mVar 0) (mCons (mVar 1) mNil)))
  sNo)
def F_Hall_give (Ad : AdT) : Fn := fnOf (m_Hall_give Ad) 2
def m_Hall_grow (Ad : AdT) : MS :=
  (sSeq (sUn (mMeth 2 (F_Hall_log Ad) "Hall" "log" (mVar 0) (mCons (mVar 1) mNil)) (gT (unCons (gN 3) (unCons (gN 4) unNil)) ((gN 3).ix ++ ((gN 4).ix ++ []))))
  sNo)
def F_Hall_grow (Ad : AdT) : Fn := fnOf (m_Hall_grow Ad) 6
def m_Hall_hold (Ad : AdT) : MS :=
  (sSeq (sSet 3 (mMeth 2 (F_Hall_machine Ad) "Hall" "machine" (mVar 0) (mCons (mVar 1) mNil)))
  sNo)
def F_Hall_hold (Ad : AdT) : Fn := fnOf (m_Hall_hold Ad) 5
def m_check_label (Ad : AdT) : MS :=
  (sSeq (sIf (mNot (mTru (mCall 1 (F_is_word Ad) (mCons (mVar 0) mNil)))) (sRaise "NotAllowed") sNx)
  (sRet (mC .none)))
def F_check_label (Ad : AdT) : Fn := fnOf (m_check_label Ad) 1
def m_Hall_promise (Ad : AdT) : MS :=
  (sSeq (sDrop (mCall 1 (F_check_label Ad) (mCons (mVar 1) mNil)))
  (sSeq (sDrop (mMeth 2 (F_Hall_machine Ad) "Hall" "machine" (mVar 0) (mCons (mVar 2) mNil)))
  (sSeq (sDrop (mMeth 2 (F_Hall_machine Ad) "Hall" "machine" (mVar 0) (mCons (mVar 3) mNil)))
  sNo)))
def F_Hall_promise (Ad : AdT) : Fn := fnOf (m_Hall_promise Ad) 4
def F_Hall_put_machine (Ad : AdT) : Fn := gapF
def m_Hall_release (Ad : AdT) : MS :=
  (sSeq (sIf (mTru (isNr false (mCall 2 (F_found_in Ad) (mCons (mIxG (mFld "Hall" "now" (mVar 0)) (mC (.int 2))) (mCons (mVar 1) mNil))))) (sRaise "Missing") sNx)
  sNo)
def F_Hall_release (Ad : AdT) : Fn := fnOf (m_Hall_release Ad) 2
def m_Hall_undo (Ad : AdT) : MS :=
  (sSeq (sIf (mTru (m2 (lift2 pEq) (mBind (mBo (mFld "Hall" "past" (mVar 0))) gLen) (mC (.int 0)))) (sRaise "Missing") sNx)
  sNo)
def F_Hall_undo (Ad : AdT) : Fn := fnOf (m_Hall_undo Ad) 1
def m_States___init__ (Ad : AdT) : MS :=
  (sSeq (sFldS "States" "words" (mVar 0) (mVar 1))
  (sSeq (sFldS "States" "found" (mVar 0) (mFz (mLst mNil)))
  (sFldS "States" "left" (mVar 0) (mC (.int 0)))))
def F_States___init__ (Ad : AdT) : Fn := fnOf (m_States___init__ Ad) 2
def F_States_take (Ad : AdT) : Fn := gapF
def m_rising (Ad : AdT) : MS :=
  (sRet (mBind (mBf (mLc (mZip (mVar 0) (mSl (mVar 0) (mPart (mC (.int 1))) (mRet none))) (gT (unCons (gN 1) (unCons (gN 2) unNil)) ((gN 1).ix ++ ((gN 2).ix ++ []))) mYes (m2 (lift2 pLt) (mVar 1) (mVar 2)) [1, 2])) gAll))
def F_rising (Ad : AdT) : Fn := fnOf (m_rising Ad) 3
def m_check_words (Ad : AdT) : MS :=
  (sSeq (sIf (mTru (m2 (lift2 pGt) (mBind (mPeek 0) gLen) (mC (.int 4)))) (sRaise "TooLarge") sNx)
  (sSeq (sIf (mOr (mTru (m2 (lift2 pEq) (mBind (mPeek 0) gLen) (mC (.int 0)))) (mOr (mNot (mTru (mCall 1 (F_rising Ad) (mCons (mVar 0) mNil)))) (mNot (mTru (mBind (mBf (mLc (mItems (mVar 0)) (gN 1) mYes (mCall 1 (F_is_word Ad) (mCons (mVar 1) mNil)) [1])) gAll))))) (sRaise "NotAllowed") sNx)
  (sRet (mC .none))))
def F_check_words (Ad : AdT) : Fn := fnOf (m_check_words Ad) 2
def m_check_machine (Ad : AdT) : MS :=
  (sSeq (sUn (mVar 0) (gT (unCons (gN 1) (unCons (gN 2) unNil)) ((gN 1).ix ++ ((gN 2).ix ++ []))))
  (sSeq (sDrop (mCall 1 (F_check_words Ad) (mCons (mVar 1) mNil)))
  (sSeq (sIf (mOr (mTru (m2 (lift2 pGt) (mBind (mPeek 2) gLen) (mC (.int 12)))) (mTru (mBind (mBf (mLc (mItems (mVar 2)) (gT (unCons (gN 3) (unCons (gN 4) (unCons (gN 4) unNil))) ((gN 3).ix ++ ((gN 4).ix ++ ((gN 4).ix ++ [])))) mYes (m2 (lift2 pGt) (mVar 3) (mC (.int 3))) [3, 4])) gAny))) (sRaise "TooLarge") sNx)
  (sSeq (sIf (mOr (mTru (m2 (lift2 pEq) (mBind (mPeek 2) gLen) (mC (.int 0)))) (mTru (m2 (lift2 pNe) (mIxG (mIxNG 2 (mC (.int 0))) (mC (.int 0))) (mC (.int 0))))) (sRaise "NotAllowed") sNx)
  sNo))))
def F_check_machine (Ad : AdT) : Fn := fnOf (m_check_machine Ad) 10
def m_is_one_check_machine (Ad : AdT) : MS :=
  (sSeq (sTryM [(ct4, (sRet (mC (.bool false))))] (sDrop (mCallV 0 Ad.check_machine 1 (F_check_machine Ad) (mCons (mVar 1) mNil))))
  (sRet (mC (.bool true))))
def F_is_one_check_machine (Ad : AdT) : Fn := fnOf (m_is_one_check_machine Ad) 2
def m_read_words (Ad : AdT) : MS :=
  (sSeq (sOwn 2 (mSplit (mVar 0) (mC (.str " "))))
  (sSeq (sIf (mOr (mTru (m2 (lift2 pNe) (mIxNG 2 (mC (.int 0))) (mVar 1))) (mNot (mTru (mBind (mBf (mLc (mItems (mFz (mSlL (mVar 2) (mPart (mC (.int 1))) (mRet none)))) (gN 3) mYes (mCall 1 (F_is_word Ad) (mCons (mVar 3) mNil)) [3])) gAll)))) (sRet (mC .none)) sNx)
  (sRet (mBind (mBf (mSlL (mVar 2) (mPart (mC (.int 1))) (mRet none))) gTupc))))
def F_read_words (Ad : AdT) : Fn := fnOf (m_read_words Ad) 4
def m_read_machine (Ad : AdT) : MS :=
  (sSeq (sUn (mCall 1 (F_rows_in Ad) (mCons (mVar 0) mNil)) (gT (unCons (gN 1) (unCons (gN 2) unNil)) ((gN 1).ix ++ ((gN 2).ix ++ []))))
  (sSeq (sSet 3 (mIf (mTru (m2 (lift2 pGt) (mBind (mPeek 1) gLen) (mC (.int 0)))) (mCall 2 (F_read_words Ad) (mCons (mIxNG 1 (mC (.int 0))) (mCons (mC (.str "words")) mNil))) (mC .none)))
  (sSeq (sIf (mTru (isNr false (mVar 3))) (sRaiseI "BadForm" "line" (mC (.int 1))) sNx)
  (sSeq (sSet 4 (mMake 2 (F_States___init__ Ad) "States" (mCons (mVar 3) mNil)))
  (sSeq (sFor (mEnum (mFz (mSlL (mVar 1) (mPart (mC (.int 1))) (mRet none)))) (gT (unCons (gN 5) (unCons (gN 6) unNil)) ((gN 5).ix ++ ((gN 6).ix ++ [])))
  (sIf (mNot (mTru (mMeth 2 (F_States_take Ad) "States" "take" (mVar 4) (mCons (mVar 6) mNil)))) (sRaiseI "BadForm" "line" (m2 (lift2 pAdd) (mVar 5) (mC (.int 2)))) sNx))
  (sSeq (sIf (mOr (mTru (m2 (lift2 pGt) (mVar 2) (mC (.int 0)))) (mOr (mTru (m2 (lift2 pGt) (mFld "States" "left" (mVar 4)) (mC (.int 0)))) (mNot (mTru (mCall 2 (F_is_one_check_machine Ad) (mCons (mFv Ad.check_machine) (mCons (mTup (mCons (mVar 3) (mCons (mBind (mBo (mFld "States" "found" (mVar 4))) gTupc) mNil))) mNil))))))) (sRaiseI "BadForm" "line" (m2 (lift2 pAdd) (mBind (mPeek 1) gLen) (mC (.int 1)))) sNx)
  (sRet (mTup (mCons (mVar 3) (mCons (mBind (mBo (mFld "States" "found" (mVar 4))) gTupc) mNil))))))))))
def F_read_machine (Ad : AdT) : Fn := fnOf (m_read_machine Ad) 7
def m_told_read_machine (Ad : AdT) : MS :=
  (sSeq (sOwn 2 (mIf (mTru (m2 (lift2 pEq) (mVar 1) (mC (.str "-")))) (mLst mNil) (mSplit (mVar 1) (mC (.str " ; ")))))
  (sTryX ct5 (sRaise "NotAllowed") (sRet (mCallV 0 Ad.read_machine 1 (F_read_machine Ad) (mCons (mJoin (mC (.str "")) (mBf (mLc (mItems (mVar 2)) (gN 3) mYes (m2 (lift2 pAdd) (mVar 3) (mC (.str "
"))) [3]))) mNil)))))
def F_told_read_machine (Ad : AdT) : Fn := fnOf (m_told_read_machine Ad) 4
def m_Desk_changed (Ad : AdT) : MS :=
  (sSeq (sSet 3 (mFld "Desk" "hall" (mVar 0)))
  (sSeq (sIf (mTru (m2 (lift2 pEq) (mVar 1) (mC (.str "machine")))) (sDrop (mMeth 3 (F_Hall_put_machine Ad) "Hall" "put_machine" (mVar 3) (mCons (mIxNG 2 (mC (.int 0))) (mCons (mCallL 2 (F_told_read_machine Ad) (mCons (mFv Ad.read_machine) (mCons (mIxNG 2 (mC (.int 1))) mNil))) mNil)))) (sIf (mTru (m2 (lift2 pEq) (mVar 1) (mC (.str "drop")))) (sDrop (mMeth 2 (F_Hall_drop_machine Ad) "Hall" "drop_machine" (mVar 3) (mCons (mIxNG 2 (mC (.int 0))) mNil))) (sIf (mTru (m2 (lift2 pEq) (mVar 1) (mC (.str "hold")))) (sRet (mBind (mBo (mMeth 3 (F_Hall_hold Ad) "Hall" "hold" (mVar 3) (mCons (mIxNG 2 (mC (.int 0))) (mCons (mCallL 2 (F_told_read_log Ad) (mCons (mFv Ad.read_log) (mCons (mIxNG 2 (mC (.int 1))) mNil))) mNil)))) gStrI)) (sIf (mTru (m2 (lift2 pEq) (mVar 1) (mC (.str "grow")))) (sDrop (mMeth 3 (F_Hall_grow Ad) "Hall" "grow" (mVar 3) (mCons (mIxNG 2 (mC (.int 0))) (mCons (mCallL 2 (F_told_read_log Ad) (mCons (mFv Ad.read_log) (mCons (mIxNG 2 (mC (.int 1))) mNil))) mNil)))) (sIf (mTru (m2 (lift2 pEq) (mVar 1) (mC (.str "give")))) (sDrop (mMeth 2 (F_Hall_give Ad) "Hall" "give" (mVar 3) (mCons (mIxNG 2 (mC (.int 0))) mNil))) (sIf (mTru (m2 (lift2 pEq) (mVar 1) (mC (.str "promise")))) (sDrop (mMeth 4 (F_Hall_promise Ad) "Hall" "promise" (mVar 3) (mCons (mIxNG 2 (mC (.int 0))) (mCons (mIxNG 2 (mC (.int 1))) (mCons (mIxNG 2 (mC (.int 2))) mNil))))) (sIf (mTru (m2 (lift2 pEq) (mVar 1) (mC (.str "release")))) (sDrop (mMeth 2 (F_Hall_release Ad) "Hall" "release" (mVar 3) (mCons (mIxNG 2 (mC (.int 0))) mNil))) (sIf (mTru (m2 (lift2 pEq) (mVar 1) (mC (.str "undo")))) (sDrop (mMeth 1 (F_Hall_undo Ad) "Hall" "undo" (mVar 3) mNil)) (sRet (mC .none))))))))))
  (sRet (mC (.str "ok")))))
def F_Desk_changed (Ad : AdT) : Fn := fnOf (m_Desk_changed Ad) 4
def m_Hall___init__ (Ad : AdT) : MS :=
  (sSeq (sFldS "Hall" "now" (mVar 0) (mTup (mCons (mTup mNil) (mCons (mTup mNil) (mCons (mTup mNil) (mCons (mC (.int 1)) mNil))))))
  (sFldS "Hall" "past" (mVar 0) (mFz (mLst mNil))))
def F_Hall___init__ (Ad : AdT) : Fn := fnOf (m_Hall___init__ Ad) 1
def m_Desk_answered (Ad : AdT) : MS :=
  (sSeq (sIf (mTru (m2 (lift2 pEq) (mVar 1) (mC (.str "hall")))) (sSeq (sFldS "Desk" "hall" (mVar 0) (mMake 1 (F_Hall___init__ Ad) "Hall" mNil))
  (sRet (mC (.str "ok")))) sNx)
  (sSeq (sIf (mTru (isNr false (mFld "Desk" "hall" (mVar 0)))) (sRet (mC (.str "none"))) sNx)
  (sSeq (sSet 3 (mMeth 3 (F_Desk_changed Ad) "Desk" "changed" (mVar 0) (mCons (mVar 1) (mCons (mVar 2) mNil))))
  (sRet (mIf (mTru (isNr false (mVar 3))) (mMeth 3 (F_Desk_asked Ad) "Desk" "asked" (mVar 0) (mCons (mVar 1) (mCons (mVar 2) mNil))) (mVar 3))))))
def F_Desk_answered (Ad : AdT) : Fn := fnOf (m_Desk_answered Ad) 4
def m_read_number (Ad : AdT) : MS :=
  (sSeq (sIf (mOr (mNot (mTru (mChain (lift2 pLe) (lift2 pLe) (mC (.int 1)) (mBind (mPeek 0) gLen) (mC (.int 4))))) (mOr (mNot (mTru (mBind (mBf (mLc (mItems (mVar 0)) (gN 1) mYes (m2b (gInG false) (mVar 1) (mBo (mC (.str "0123456789")))) [1])) gAll))) (mTru (m2 (lift2 pEq) (mIxNG 0 (mC (.int 0))) (mC (.str "0")))))) (sRet (mC .none)) sNx)
  (sRet (mBind (mPeek 0) gIntS)))
def F_read_number (Ad : AdT) : Fn := fnOf (m_read_number Ad) 2
def m_numbered (Ad : AdT) : MS :=
  (sSeq (sSet 3 (mCall 1 (F_read_number Ad) (mCons (mVar 1) mNil)))
  (sRet (mIf (mTru (isNr false (mVar 3))) (mTup (mCons (mC (.str "bad")) (mCons (mTup mNil) mNil))) (mTup (mCons (mVar 0) (mCons (mTup (mCons (mVar 3) (mStar (mPeek 2) mNil))) mNil))))))
def F_numbered (Ad : AdT) : Fn := fnOf (m_numbered Ad) 4
def m_read_line (Ad : AdT) : MS :=
  (sSeq (sIf (mOr (mTru (m2 (lift2 pEq) (mVar 0) (mC (.str "")))) (mTru (m2b (gInG false) (mVar 0) (mBo (mC (.tuple [.str "hall", .str "undo", .str "machines", .str "logs", .str "promises", .str "image"])))))) (sRet (mTup (mCons (mVar 0) (mCons (mTup mNil) mNil)))) sNx)
  (sSeq (sOwn 1 (mSplit (mVar 0) (mC (.str " "))))
  (sSeq (sIf (mAnd (mTru (m2b (gInG false) (mIxNG 1 (mC (.int 0))) (mBo (mC (.tuple [.str "drop", .str "release", .str "least"]))))) (mTru (m2 (lift2 pEq) (mBind (mPeek 1) gLen) (mC (.int 2))))) (sRet (mTup (mCons (mIxNG 1 (mC (.int 0))) (mCons (mTup (mCons (mIxNG 1 (mC (.int 1))) mNil)) mNil)))) sNx)
  (sSeq (sIf (mAnd (mTru (m2b (gInG false) (mIxNG 1 (mC (.int 0))) (mBo (mC (.tuple [.str "give", .str "text", .str "state"]))))) (mTru (m2 (lift2 pEq) (mBind (mPeek 1) gLen) (mC (.int 2))))) (sRet (mCall 3 (F_numbered Ad) (mCons (mIxNG 1 (mC (.int 0))) (mCons (mIxNG 1 (mC (.int 1))) (mCons (mTup mNil) mNil))))) sNx)
  (sSeq (sIf (mAnd (mTru (m2 (lift2 pEq) (mIxNG 1 (mC (.int 0))) (mC (.str "promise")))) (mTru (m2 (lift2 pEq) (mBind (mPeek 1) gLen) (mC (.int 4))))) (sRet (mTup (mCons (mC (.str "promise")) (mCons (mBind (mBf (mSlL (mVar 1) (mPart (mC (.int 1))) (mRet none))) gTupc) mNil)))) sNx)
  (sSeq (sIf (mAnd (mTru (m2b (gInG false) (mIxNG 1 (mC (.int 0))) (mBo (mTup (mCons (mC (.str "machine")) (mCons (mC (.str "hold")) (mCons (mC (.str "good")) mNil))))))) (mTru (m2 (lift2 pGt) (mBind (mPeek 1) gLen) (mC (.int 2))))) (sRet (mTup (mCons (mIxNG 1 (mC (.int 0))) (mCons (mTup (mCons (mIxNG 1 (mC (.int 1))) (mCons (mJoin (mC (.str " ")) (mBf (mSlL (mVar 1) (mPart (mC (.int 2))) (mRet none)))) mNil))) mNil)))) sNx)
  (sSeq (sIf (mAnd (mTru (m2 (lift2 pEq) (mIxNG 1 (mC (.int 0))) (mC (.str "grow")))) (mTru (m2 (lift2 pGt) (mBind (mPeek 1) gLen) (mC (.int 2))))) (sRet (mCall 3 (F_numbered Ad) (mCons (mC (.str "grow")) (mCons (mIxNG 1 (mC (.int 1))) (mCons (mTup (mCons (mJoin (mC (.str " ")) (mBf (mSlL (mVar 1) (mPart (mC (.int 2))) (mRet none)))) mNil)) mNil))))) sNx)
  (sRet (mTup (mCons (mC (.str "bad")) (mCons (mTup mNil) mNil)))))))))))
def F_read_line (Ad : AdT) : Fn := fnOf (m_read_line Ad) 2
def m_Desk_run_row (Ad : AdT) : MS :=
  (sSeq (sUn (mCall 1 (F_read_line Ad) (mCons (mVar 1) mNil)) (gT (unCons (gN 2) (unCons (gN 3) unNil)) ((gN 2).ix ++ ((gN 3).ix ++ []))))
  (sSeq (sIf (mTru (m2b (gInG false) (mVar 2) (mBo (mTup (mCons (mC (.str "")) (mCons (mC (.str "bad")) mNil)))))) (sRet (mVar 2)) sNx)
  (sTryM [(ct0, sNo), (ct1, (sRet (mC (.str "refused")))), (ct2, (sRet (mC (.str "large")))), (ct3, (sRet (mC (.str "missing"))))] (sRet (mMeth 3 (F_Desk_answered Ad) "Desk" "answered" (mVar 0) (mCons (mVar 2) (mCons (mVar 3) mNil)))))))
def F_Desk_run_row (Ad : AdT) : Fn := fnOf (m_Desk_run_row Ad) 5
def m_run_script (Ad : AdT) : MS :=
  (sSeq (sIf (mTru (m2 (lift2 pGt) (mBind (mPeek 0) gLen) (mC (.int 20000)))) (sRaise "TooLarge") sNx)
  (sSeq (sOwn 1 (mSplit (mVar 0) (mC (.str "
"))))
  (sSeq (sIf (mTru (m2 (lift2 pGt) (mBind (mPeek 1) gLen) (mC (.int 80)))) (sRaise "TooLarge") sNx)
  (sSeq (sSet 2 (mMake 1 (F_Desk___init__ Ad) "Desk" mNil))
  (sRet (mFz (mLc (mItems (mVar 1)) (gN 3) mYes (mMeth 2 (F_Desk_run_row Ad) "Desk" "run_row" (mVar 2) (mCons (mVar 3) mNil)) [3])))))))
def F_run_script (Ad : AdT) : Fn := fnOf (m_run_script Ad) 4
def m__law_run (Ad : AdT) : MS :=
  (sTryA "TooLarge" 1 (.list [.str "large"]) (sRet (mCallL 1 (F_run_script Ad) (mCons (mVar 0) mNil))))
def F__law_run (Ad : AdT) : Fn := fnOf (m__law_run Ad) 2
def m__law_same (Ad : AdT) : MS :=
  (sRet (m2 (lift2 pEq) (mBind (mBf (mLst (mCons (mVar 0) mNil))) gRep) (mBind (mBf (mLst (mCons (mVar 1) mNil))) gRep)))
def F__law_same (Ad : AdT) : Fn := fnOf (m__law_same Ad) 2
def m__law_stream (Ad : AdT) : MS :=
  (sSeq (sOwn 1 (mLst mNil))
  (sSeq (sFor (mItems (mFz (mSlL (mVar 0) (mRet none) (mPart (mC (.int 63)))))) (gN 2)
  (sSeq (sSet 3 (mBind (mBo (mBind (mPeek 2) gInt)) gAbs))
  (sIf (mTru (m2 (lift2 pGe) (mVar 3) (m2 (lift2 pPow) (mC (.int 10)) (mC (.int 18))))) (sFor (mRg1 (mC (.int 60))) (gN 4)
  (sSeq (sDrop (mApp 1 (m2 (lift2 pMod) (mBind (mPeek 3) gInt) (mC (.int 1009)))))
  (sSeq (sSet 3 (m2 (lift2 pDiv) (mVar 3) (mC (.int 1009))))
  (sIf (mTru (m2 (lift2 pEq) (mVar 3) (mC (.int 0)))) sBk sNx)))) (sSeq (sSet 5 (m2 (lift2 pMod) (mBind (mPeek 3) gInt) (mC (.int 2147483647))))
  (sFor (mRg1 (mC (.int 10))) (gN 4)
  (sSeq (sSet 5 (m2 (lift2 pMod) (mBind (mBo (m2 (lift2 pAdd) (m2 (lift2 pAdd) (m2 (lift2 pMulT) (mVar 5) (mC (.int 48271))) (m2 (lift2 pMulT) (mC (.int 7)) (mVar 4))) (mC (.int 11)))) gInt) (mC (.int 2147483647))))
  (sDrop (mApp 1 (m2 (lift2 pMod) (m2 (lift2 pMod) (mBind (mBo (m2 (lift2 pAdd) (m2 (lift2 pMulT) (mVar 5) (mC (.int 69621))) (mVar 4))) gInt) (mC (.int 2147483629))) (mC (.int 1009)))))))))))
  (sSeq (sIf (mTru (m2 (lift2 pEq) (mBind (mPeek 1) gLen) (mC (.int 0)))) (sDrop (mApp 1 (mC (.int 0)))) sNx)
  (sRet (mVar 1)))))
def F__law_stream (Ad : AdT) : Fn := fnOf (m__law_stream Ad) 6
def m_law (Ad : AdT) : MS :=
  (sSeq (sSet 1 (mNewD (mCons (mCall 1 (F__law_stream Ad) (mCons (mVar 0) mNil)) (mCons (mC (.int 0)) mNil))))
  (sSeq (sFor (mRg1 (mC (.int 3))) (gN 2)
  (sSeq (sOwn 3 (mLc (mRg1 (m2 (lift2 pAdd) (mC (.int 1)) (mCall 2 (F__law_next Ad) (mCons (mVar 1) (mCons (mC (.int 60)) mNil))))) (gN 4) mYes (mCall 1 (F__law_row Ad) (mCons (mVar 1) mNil)) [4]))
  (sSeq (sOwn 5 (mLc (mItems (mVar 3)) (gN 6) mYes (m2 (lift2 pMulS) (mIxG (mFz (mLst (mCons (mC (.str "none")) (mCons (mC (.str "bad")) mNil)))) (mBind (mBo (mNotV (mCallL 1 (F__law_has_form Ad) (mCons (mVar 6) mNil)))) gInt)) (mBind (mBo (m2 (lift2 pNe) (mVar 6) (mC (.str "")))) gInt)) [6]))
  (sSeq (sIf (mNot (mTru (mCall 2 (F__law_same Ad) (mCons (mCallL 1 (F_run_script Ad) (mCons (mJoin (mC (.str "
")) (mPeek 3)) mNil)) (mCons (mVar 5) mNil))))) (sRet (mC (.bool false))) sNx)
  (sSeq (sSet 7 (mCallL 1 (F_run_script Ad) (mCons (mJoin (mC (.str "
")) (mBf (mCat (mFz (mLst (mCons (mC (.str "hall")) mNil))) (mVar 3)))) mNil)))
  (sFor (mRg1 (mBind (mPeek 3) gLen)) (gN 4)
  (sSeq (sSet 8 (mAndV (m2 (lift2 pNe) (mIxNG 3 (mVar 4)) (mC (.str ""))) (mNotV (mCallL 1 (F__law_has_form Ad) (mCons (mIxNG 3 (mVar 4)) mNil)))))
  (sIf (mOr (mTru (m2 (lift2 pNe) (mIxNG 7 (mC (.int 0))) (mC (.str "ok")))) (mOr (mTru (m2 (lift2 pNe) (m2 (lift2 pEq) (mIxNG 7 (m2 (lift2 pAdd) (mVar 4) (mC (.int 1)))) (mC (.str "bad"))) (mVar 8))) (mOr (mTru (m2 (lift2 pNe) (m2 (lift2 pEq) (mIxNG 7 (m2 (lift2 pAdd) (mVar 4) (mC (.int 1)))) (mC (.str ""))) (m2 (lift2 pEq) (mIxNG 3 (mVar 4)) (mC (.str ""))))) (mTru (m2 (lift2 pEq) (mIxNG 7 (m2 (lift2 pAdd) (mVar 4) (mC (.int 1)))) (mC (.str "none"))))))) (sRet (mC (.bool false))) sNx))))))))
  (sSeq (sOwn 9 (mLst (mCons (mCallL 1 (F__law_run Ad) (mCons (m2 (lift2 pMulS) (mC (.str "
")) (mC (.int 79))) mNil)) (mCons (mCallL 1 (F__law_run Ad) (mCons (m2 (lift2 pMulS) (mC (.str "
")) (mC (.int 80))) mNil)) (mCons (mCallL 1 (F__law_run Ad) (mCons (m2 (lift2 pMulS) (mC (.str "x")) (mC (.int 20000))) mNil)) (mCons (mCallL 1 (F__law_run Ad) (mCons (m2 (lift2 pMulS) (mC (.str "x")) (mC (.int 20001))) mNil)) mNil))))))
  (sRet (mAndV (m2 (lift2 pEq) (mVar 9) (mFz (mLst (mCons (mFz (mBind (mLst (mCons (mC (.str "")) mNil)) (gRepL 80))) (mCons (mFz (mLst (mCons (mC (.str "large")) mNil))) (mCons (mFz (mLst (mCons (mC (.str "bad")) mNil))) (mCons (mFz (mLst (mCons (mC (.str "large")) mNil))) mNil))))))) (m2 (lift2 pEq) (mTup (mCons (mC (.int 80)) (mCons (mC (.int 20000)) mNil))) (mTup (mCons (mC (.int 80)) (mCons (mC (.int 20000)) mNil)))))))))
def F_law (Ad : AdT) : Fn := fnOf (m_law Ad) 10
theorem xp_BadForm : XiP s_BadForm___init__ "BadForm.__init__" "line" "line" "row " := ⟨_, _, _, _, _, _, _, _, _, _, _, _, _, _, ⟨rfl, rfl, rfl, rfl, by decide +kernel, rfl, rfl, rfl, rfl, ⟨_, rfl, rfl⟩, by decide, by decide⟩, ⟨fun s fd vs hx hl => by
  obtain ⟨kV, doc, pm, an, cda, ct, cc, e⟩ := hx
  subst e
  match vs, hl with
  | [a, b], _ => exact .of_eq rfl, xi_len (by decide), fun _ => rfl⟩⟩
/-- what the written part says -/
structure Txt (P : Program) (K : PySem.W.Frag) (mg : Str → Option Value) where
  b_abs : mg "abs" = none
  b_all : mg "all" = none
  b_any : mg "any" = none
  b_enumerate : mg "enumerate" = none
  b_int : mg "int" = none
  b_isinstance : mg "isinstance" = none
  b_len : mg "len" = none
  b_range : mg "range" = none
  b_repr : mg "repr" = none
  b_str : mg "str" = none
  b_tuple : mg "tuple" = none
  b_zip : mg "zip" = none
  t_FIRST : Tok
  c_FIRST : mg "FIRST" = some (.str "abcdefghijklmnopqrstuvwxyz" t_FIRST)
  t_LATER : Tok
  c_LATER : mg "LATER" = some (.str "abcdefghijklmnopqrstuvwxyz0123456789" t_LATER)
  t_MAX_HELD : Tok
  c_MAX_HELD : mg "MAX_HELD" = some (.int 3 t_MAX_HELD)
  t_MAX_LOG : Tok
  c_MAX_LOG : mg "MAX_LOG" = some (.int 60 t_MAX_LOG)
  t_MAX_NAME : Tok
  c_MAX_NAME : mg "MAX_NAME" = some (.int 999 t_MAX_NAME)
  t_MAX_ROWS : Tok
  c_MAX_ROWS : mg "MAX_ROWS" = some (.int 80 t_MAX_ROWS)
  t_MAX_SIGNS : Tok
  c_MAX_SIGNS : mg "MAX_SIGNS" = some (.int 20000 t_MAX_SIGNS)
  t_MAX_STATES : Tok
  c_MAX_STATES : mg "MAX_STATES" = some (.int 12 t_MAX_STATES)
  t_MAX_TEXT : Tok
  c_MAX_TEXT : mg "MAX_TEXT" = some (.int 40000 t_MAX_TEXT)
  t_MAX_WORD : Tok
  c_MAX_WORD : mg "MAX_WORD" = some (.int 12 t_MAX_WORD)
  a_NAMED : Addr
  c_NAMED : mg "NAMED" = some (.ref a_NAMED)
  q_NAMED : ∀ H, SqT K H a_NAMED [.str "drop", .str "release", .str "least"]
  a_NUMBERED : Addr
  c_NUMBERED : mg "NUMBERED" = some (.ref a_NUMBERED)
  q_NUMBERED : ∀ H, SqT K H a_NUMBERED [.str "give", .str "text", .str "state"]
  a_SINGLE : Addr
  c_SINGLE : mg "SINGLE" = some (.ref a_SINGLE)
  q_SINGLE : ∀ H, SqT K H a_SINGLE [.str "hall", .str "undo", .str "machines", .str "logs", .str "promises", .str "image"]
  a__law_is_digits : Addr
  d__law_is_digits : FuncData
  u__law_is_digits : L2.Fun K "_law_is_digits" "_law_is_digits" s__law_is_digits a__law_is_digits d__law_is_digits
  n__law_is_digits : Binds K d__law_is_digits ["text"] []
  g__law_is_digits : mg "_law_is_digits" = some (.ref a__law_is_digits)
  a__law_has_form : Addr
  d__law_has_form : FuncData
  u__law_has_form : L2.Fun K "_law_has_form" "_law_has_form" s__law_has_form a__law_has_form d__law_has_form
  n__law_has_form : Binds K d__law_has_form ["row"] []
  g__law_has_form : mg "_law_has_form" = some (.ref a__law_has_form)
  a__law_next : Addr
  d__law_next : FuncData
  u__law_next : L2.Fun K "_law_next" "_law_next" s__law_next a__law_next d__law_next
  n__law_next : Binds K d__law_next ["state", "many"] []
  g__law_next : mg "_law_next" = some (.ref a__law_next)
  a__law_one : Addr
  d__law_one : FuncData
  u__law_one : L2.Fun K "_law_one" "_law_one" s__law_one a__law_one d__law_one
  n__law_one : Binds K d__law_one ["state", "rows"] []
  g__law_one : mg "_law_one" = some (.ref a__law_one)
  a__law_row : Addr
  d__law_row : FuncData
  u__law_row : L2.Fun K "_law_row" "_law_row" s__law_row a__law_row d__law_row
  n__law_row : Binds K d__law_row ["state"] []
  g__law_row : mg "_law_row" = some (.ref a__law_row)
  a_Desk___init__ : Addr
  d_Desk___init__ : FuncData
  u_Desk___init__ : L2.Fun K "__init__" "Desk.__init__" s_Desk___init__ a_Desk___init__ d_Desk___init__
  n_Desk___init__ : Binds K d_Desk___init__ ["self"] []
  a_Hall_image : Addr
  d_Hall_image : FuncData
  u_Hall_image : L2.Fun K "image" "Hall.image" s_Hall_image a_Hall_image d_Hall_image
  n_Hall_image : Binds K d_Hall_image ["self"] []
  a_found_in : Addr
  d_found_in : FuncData
  u_found_in : L2.Fun K "found_in" "found_in" s_found_in a_found_in d_found_in
  n_found_in : Binds K d_found_in ["rows", "name"] []
  g_found_in : mg "found_in" = some (.ref a_found_in)
  a_Hall_log : Addr
  d_Hall_log : FuncData
  u_Hall_log : L2.Fun K "log" "Hall.log" s_Hall_log a_Hall_log d_Hall_log
  n_Hall_log : Binds K d_Hall_log ["self", "number"] []
  a_Hall_logs : Addr
  d_Hall_logs : FuncData
  u_Hall_logs : L2.Fun K "logs" "Hall.logs" s_Hall_logs a_Hall_logs d_Hall_logs
  n_Hall_logs : Binds K d_Hall_logs ["self"] []
  a_Hall_machine : Addr
  d_Hall_machine : FuncData
  u_Hall_machine : L2.Fun K "machine" "Hall.machine" s_Hall_machine a_Hall_machine d_Hall_machine
  n_Hall_machine : Binds K d_Hall_machine ["self", "name"] []
  a_Hall_machines : Addr
  d_Hall_machines : FuncData
  u_Hall_machines : L2.Fun K "machines" "Hall.machines" s_Hall_machines a_Hall_machines d_Hall_machines
  n_Hall_machines : Binds K d_Hall_machines ["self"] []
  a_Hall_promises : Addr
  d_Hall_promises : FuncData
  u_Hall_promises : L2.Fun K "promises" "Hall.promises" s_Hall_promises a_Hall_promises d_Hall_promises
  n_Hall_promises : Binds K d_Hall_promises ["self"] []
  a_is_good : Addr
  d_is_good : FuncData
  u_is_good : L2.Fun K "is_good" "is_good" s_is_good a_is_good d_is_good
  n_is_good : Binds K d_is_good ["machine", "log"] []
  g_is_good : mg "is_good" = some (.ref a_is_good)
  a_least_good : Addr
  d_least_good : FuncData
  u_least_good : L2.Fun K "least_good" "least_good" s_least_good a_least_good d_least_good
  n_least_good : Binds K d_least_good ["machine"] []
  g_least_good : mg "least_good" = some (.ref a_least_good)
  a_listed : Addr
  d_listed : FuncData
  u_listed : L2.Fun K "listed" "listed" s_listed a_listed d_listed
  n_listed : Binds K d_listed ["words"] []
  g_listed : mg "listed" = some (.ref a_listed)
  a_log_text : Addr
  d_log_text : FuncData
  u_log_text : L2.Fun K "log_text" "log_text" s_log_text a_log_text d_log_text
  n_log_text : Binds K d_log_text ["log"] []
  g_log_text : mg "log_text" = some (.ref a_log_text)
  a_is_word : Addr
  d_is_word : FuncData
  u_is_word : L2.Fun K "is_word" "is_word" s_is_word a_is_word d_is_word
  n_is_word : Binds K d_is_word ["text"] []
  g_is_word : mg "is_word" = some (.ref a_is_word)
  a_check_log : Addr
  d_check_log : FuncData
  u_check_log : L2.Fun K "check_log" "check_log" s_check_log a_check_log d_check_log
  n_check_log : Binds K d_check_log ["log"] []
  g_check_log : mg "check_log" = some (.ref a_check_log)
  a_is_one : Addr
  d_is_one : FuncData
  u_is_one : L2.Fun K "is_one" "is_one" s_is_one a_is_one d_is_one
  n_is_one : Binds K d_is_one ["check", "told"] []
  g_is_one : mg "is_one" = some (.ref a_is_one)
  a_number_of : Addr
  d_number_of : FuncData
  u_number_of : L2.Fun K "number_of" "number_of" s_number_of a_number_of d_number_of
  n_number_of : Binds K d_number_of ["text"] []
  g_number_of : mg "number_of" = some (.ref a_number_of)
  a_rows_in : Addr
  d_rows_in : FuncData
  u_rows_in : L2.Fun K "rows_in" "rows_in" s_rows_in a_rows_in d_rows_in
  n_rows_in : Binds K d_rows_in ["text"] []
  g_rows_in : mg "rows_in" = some (.ref a_rows_in)
  a_read_log : Addr
  d_read_log : FuncData
  u_read_log : L2.Fun K "read_log" "read_log" s_read_log a_read_log d_read_log
  n_read_log : Binds K d_read_log ["text"] []
  g_read_log : mg "read_log" = some (.ref a_read_log)
  a_rows_told : Addr
  d_rows_told : FuncData
  u_rows_told : L2.Fun K "rows_told" "rows_told" s_rows_told a_rows_told d_rows_told
  n_rows_told : Binds K d_rows_told ["text"] []
  g_rows_told : mg "rows_told" = some (.ref a_rows_told)
  a_told : Addr
  d_told : FuncData
  u_told : L2.Fun K "told" "told" s_told a_told d_told
  n_told : Binds K d_told ["read", "text"] []
  g_told : mg "told" = some (.ref a_told)
  a_Desk_asked : Addr
  d_Desk_asked : FuncData
  u_Desk_asked : L2.Fun K "asked" "Desk.asked" s_Desk_asked a_Desk_asked d_Desk_asked
  n_Desk_asked : Binds K d_Desk_asked ["self", "word", "parts"] []
  a_Hall_drop_machine : Addr
  d_Hall_drop_machine : FuncData
  u_Hall_drop_machine : L2.Fun K "drop_machine" "Hall.drop_machine" s_Hall_drop_machine a_Hall_drop_machine d_Hall_drop_machine
  n_Hall_drop_machine : Binds K d_Hall_drop_machine ["self", "name"] []
  a_Hall_give : Addr
  d_Hall_give : FuncData
  u_Hall_give : L2.Fun K "give" "Hall.give" s_Hall_give a_Hall_give d_Hall_give
  n_Hall_give : Binds K d_Hall_give ["self", "number"] []
  a_Hall_grow : Addr
  d_Hall_grow : FuncData
  u_Hall_grow : L2.Fun K "grow" "Hall.grow" s_Hall_grow a_Hall_grow d_Hall_grow
  n_Hall_grow : Binds K d_Hall_grow ["self", "number", "events"] []
  a_Hall_hold : Addr
  d_Hall_hold : FuncData
  u_Hall_hold : L2.Fun K "hold" "Hall.hold" s_Hall_hold a_Hall_hold d_Hall_hold
  n_Hall_hold : Binds K d_Hall_hold ["self", "name", "log"] []
  a_check_label : Addr
  d_check_label : FuncData
  u_check_label : L2.Fun K "check_label" "check_label" s_check_label a_check_label d_check_label
  n_check_label : Binds K d_check_label ["name"] []
  g_check_label : mg "check_label" = some (.ref a_check_label)
  a_Hall_promise : Addr
  d_Hall_promise : FuncData
  u_Hall_promise : L2.Fun K "promise" "Hall.promise" s_Hall_promise a_Hall_promise d_Hall_promise
  n_Hall_promise : Binds K d_Hall_promise ["self", "name", "first", "second"] []
  a_Hall_put_machine : Addr
  d_Hall_put_machine : FuncData
  u_Hall_put_machine : L2.Fun K "put_machine" "Hall.put_machine" s_Hall_put_machine a_Hall_put_machine d_Hall_put_machine
  n_Hall_put_machine : Binds K d_Hall_put_machine ["self", "name", "machine"] []
  a_Hall_release : Addr
  d_Hall_release : FuncData
  u_Hall_release : L2.Fun K "release" "Hall.release" s_Hall_release a_Hall_release d_Hall_release
  n_Hall_release : Binds K d_Hall_release ["self", "name"] []
  a_Hall_undo : Addr
  d_Hall_undo : FuncData
  u_Hall_undo : L2.Fun K "undo" "Hall.undo" s_Hall_undo a_Hall_undo d_Hall_undo
  n_Hall_undo : Binds K d_Hall_undo ["self"] []
  a_States___init__ : Addr
  d_States___init__ : FuncData
  u_States___init__ : L2.Fun K "__init__" "States.__init__" s_States___init__ a_States___init__ d_States___init__
  n_States___init__ : Binds K d_States___init__ ["self", "words"] []
  a_States_take : Addr
  d_States_take : FuncData
  u_States_take : L2.Fun K "take" "States.take" s_States_take a_States_take d_States_take
  n_States_take : Binds K d_States_take ["self", "row"] []
  a_rising : Addr
  d_rising : FuncData
  u_rising : L2.Fun K "rising" "rising" s_rising a_rising d_rising
  n_rising : Binds K d_rising ["row"] []
  g_rising : mg "rising" = some (.ref a_rising)
  a_check_words : Addr
  d_check_words : FuncData
  u_check_words : L2.Fun K "check_words" "check_words" s_check_words a_check_words d_check_words
  n_check_words : Binds K d_check_words ["words"] []
  g_check_words : mg "check_words" = some (.ref a_check_words)
  a_check_machine : Addr
  d_check_machine : FuncData
  u_check_machine : L2.Fun K "check_machine" "check_machine" s_check_machine a_check_machine d_check_machine
  n_check_machine : Binds K d_check_machine ["machine"] []
  g_check_machine : mg "check_machine" = some (.ref a_check_machine)
  a_read_words : Addr
  d_read_words : FuncData
  u_read_words : L2.Fun K "read_words" "read_words" s_read_words a_read_words d_read_words
  n_read_words : Binds K d_read_words ["row", "word"] []
  g_read_words : mg "read_words" = some (.ref a_read_words)
  a_read_machine : Addr
  d_read_machine : FuncData
  u_read_machine : L2.Fun K "read_machine" "read_machine" s_read_machine a_read_machine d_read_machine
  n_read_machine : Binds K d_read_machine ["text"] []
  g_read_machine : mg "read_machine" = some (.ref a_read_machine)
  a_Desk_changed : Addr
  d_Desk_changed : FuncData
  u_Desk_changed : L2.Fun K "changed" "Desk.changed" s_Desk_changed a_Desk_changed d_Desk_changed
  n_Desk_changed : Binds K d_Desk_changed ["self", "word", "parts"] []
  a_Hall___init__ : Addr
  d_Hall___init__ : FuncData
  u_Hall___init__ : L2.Fun K "__init__" "Hall.__init__" s_Hall___init__ a_Hall___init__ d_Hall___init__
  n_Hall___init__ : Binds K d_Hall___init__ ["self"] []
  a_Desk_answered : Addr
  d_Desk_answered : FuncData
  u_Desk_answered : L2.Fun K "answered" "Desk.answered" s_Desk_answered a_Desk_answered d_Desk_answered
  n_Desk_answered : Binds K d_Desk_answered ["self", "word", "parts"] []
  a_read_number : Addr
  d_read_number : FuncData
  u_read_number : L2.Fun K "read_number" "read_number" s_read_number a_read_number d_read_number
  n_read_number : Binds K d_read_number ["text"] []
  g_read_number : mg "read_number" = some (.ref a_read_number)
  a_numbered : Addr
  d_numbered : FuncData
  u_numbered : L2.Fun K "numbered" "numbered" s_numbered a_numbered d_numbered
  n_numbered : Binds K d_numbered ["word", "digits", "more"] []
  g_numbered : mg "numbered" = some (.ref a_numbered)
  a_read_line : Addr
  d_read_line : FuncData
  u_read_line : L2.Fun K "read_line" "read_line" s_read_line a_read_line d_read_line
  n_read_line : Binds K d_read_line ["row"] []
  g_read_line : mg "read_line" = some (.ref a_read_line)
  a_Desk_run_row : Addr
  d_Desk_run_row : FuncData
  u_Desk_run_row : L2.Fun K "run_row" "Desk.run_row" s_Desk_run_row a_Desk_run_row d_Desk_run_row
  n_Desk_run_row : Binds K d_Desk_run_row ["self", "row"] []
  a_run_script : Addr
  d_run_script : FuncData
  u_run_script : L2.Fun K "run_script" "run_script" s_run_script a_run_script d_run_script
  n_run_script : Binds K d_run_script ["text"] []
  g_run_script : mg "run_script" = some (.ref a_run_script)
  a__law_run : Addr
  d__law_run : FuncData
  u__law_run : L2.Fun K "_law_run" "_law_run" s__law_run a__law_run d__law_run
  n__law_run : Binds K d__law_run ["text"] []
  g__law_run : mg "_law_run" = some (.ref a__law_run)
  a__law_same : Addr
  d__law_same : FuncData
  u__law_same : L2.Fun K "_law_same" "_law_same" s__law_same a__law_same d__law_same
  n__law_same : Binds K d__law_same ["told_v", "due"] []
  g__law_same : mg "_law_same" = some (.ref a__law_same)
  a__law_stream : Addr
  d__law_stream : FuncData
  u__law_stream : L2.Fun K "_law_stream" "_law_stream" s__law_stream a__law_stream d__law_stream
  n__law_stream : Binds K d__law_stream ["script"] []
  g__law_stream : mg "_law_stream" = some (.ref a__law_stream)
  a_law : Addr
  d_law : FuncData
  u_law : L2.Fun K "law" "law" s_law a_law d_law
  n_law : Binds K d_law ["script"] []
  g_law : mg "law" = some (.ref a_law)
  C_Desk : Addr
  K_Desk : ClsF K mg "Desk" C_Desk
  Mk_Desk : Mk K C_Desk a_Desk___init__
  C_Hall : Addr
  K_Hall : ClsF K mg "Hall" C_Hall
  Mk_Hall : Mk K C_Hall a_Hall___init__
  C_States : Addr
  K_States : ClsF K mg "States" C_States
  Mk_States : Mk K C_States a_States___init__
  na_Desk_hall : NoAttr K C_Desk "hall"
  na_Hall_now : NoAttr K C_Hall "now"
  na_Hall_past : NoAttr K C_Hall "past"
  na_States_found : NoAttr K C_States "found"
  na_States_left : NoAttr K C_States "left"
  na_States_words : NoAttr K C_States "words"
  M_Hall_image : Meth K C_Hall "image" a_Hall_image
  M_Hall_log : Meth K C_Hall "log" a_Hall_log
  M_Hall_logs : Meth K C_Hall "logs" a_Hall_logs
  M_Hall_machine : Meth K C_Hall "machine" a_Hall_machine
  M_Hall_machines : Meth K C_Hall "machines" a_Hall_machines
  M_Hall_promises : Meth K C_Hall "promises" a_Hall_promises
  M_Desk_asked : Meth K C_Desk "asked" a_Desk_asked
  M_Hall_drop_machine : Meth K C_Hall "drop_machine" a_Hall_drop_machine
  M_Hall_give : Meth K C_Hall "give" a_Hall_give
  M_Hall_grow : Meth K C_Hall "grow" a_Hall_grow
  M_Hall_hold : Meth K C_Hall "hold" a_Hall_hold
  M_Hall_promise : Meth K C_Hall "promise" a_Hall_promise
  M_Hall_put_machine : Meth K C_Hall "put_machine" a_Hall_put_machine
  M_Hall_release : Meth K C_Hall "release" a_Hall_release
  M_Hall_undo : Meth K C_Hall "undo" a_Hall_undo
  M_States_take : Meth K C_States "take" a_States_take
  M_Desk_changed : Meth K C_Desk "changed" a_Desk_changed
  M_Desk_answered : Meth K C_Desk "answered" a_Desk_answered
  M_Desk_run_row : Meth K C_Desk "run_row" a_Desk_run_row
  C_Missing : Addr
  x_Missing : ExcK K mg "Missing" C_Missing
  C_NotAllowed : Addr
  x_NotAllowed : ExcK K mg "NotAllowed" C_NotAllowed
  C_TooLarge : Addr
  x_TooLarge : ExcK K mg "TooLarge" C_TooLarge
  C_BadForm : Addr
  I_BadForm : Addr
  gx_BadForm : mg "BadForm" = some (.ref C_BadForm)
  X_BadForm : XiF P K mg C_BadForm I_BadForm "BadForm.__init__" "line" "line" "row " s_BadForm___init__
  w_BadForm : mg "BadForm" = some (.ref C_BadForm)
  C_Broken : Addr
  w_Broken : mg "Broken" = some (.ref C_Broken)
  w_Missing : mg "Missing" = some (.ref C_Missing)
  w_NotAllowed : mg "NotAllowed" = some (.ref C_NotAllowed)
  w_TooLarge : mg "TooLarge" = some (.ref C_TooLarge)
  C_WardenError : Addr
  w_WardenError : mg "WardenError" = some (.ref C_WardenError)
  xm_BadForm_BadForm : PySem.W.exmOne K (.ref C_BadForm) (.ref C_BadForm) = some true
  xm_Missing_Broken : PySem.W.exmOne K (.ref C_Missing) (.ref C_Broken) = some false
  xm_Missing_Missing : PySem.W.exmOne K (.ref C_Missing) (.ref C_Missing) = some true
  xm_Missing_NotAllowed : PySem.W.exmOne K (.ref C_Missing) (.ref C_NotAllowed) = some false
  xm_Missing_TooLarge : PySem.W.exmOne K (.ref C_Missing) (.ref C_TooLarge) = some false
  xm_NotAllowed_Broken : PySem.W.exmOne K (.ref C_NotAllowed) (.ref C_Broken) = some false
  xm_NotAllowed_NotAllowed : PySem.W.exmOne K (.ref C_NotAllowed) (.ref C_NotAllowed) = some true
  xm_NotAllowed_WardenError : PySem.W.exmOne K (.ref C_NotAllowed) (.ref C_WardenError) = some true
  xm_TooLarge_Broken : PySem.W.exmOne K (.ref C_TooLarge) (.ref C_Broken) = some false
  xm_TooLarge_NotAllowed : PySem.W.exmOne K (.ref C_TooLarge) (.ref C_NotAllowed) = some false
  xm_TooLarge_TooLarge : PySem.W.exmOne K (.ref C_TooLarge) (.ref C_TooLarge) = some true
  xm_TooLarge_WardenError : PySem.W.exmOne K (.ref C_TooLarge) (.ref C_WardenError) = some true
  ki_TooLarge_WardenError : PySem.W.kitOne K (.ref C_TooLarge) (.ref C_WardenError) = some true
  ki_TooLarge_NotAllowed : PySem.W.kitOne K (.ref C_TooLarge) (.ref C_NotAllowed) = some false
  ec_TooLarge : ExcC K C_TooLarge
section
variable {P : Program} {w : World} {K : PySem.W.Frag} {mg : Str → Option Value}
abbrev Txt.k__law_is_digits (T : Txt P K mg) : PySem.W.keepIn K (.ref T.a__law_is_digits) = true := T.u__law_is_digits.kp
abbrev Txt.k__law_has_form (T : Txt P K mg) : PySem.W.keepIn K (.ref T.a__law_has_form) = true := T.u__law_has_form.kp
abbrev Txt.k__law_next (T : Txt P K mg) : PySem.W.keepIn K (.ref T.a__law_next) = true := T.u__law_next.kp
abbrev Txt.k__law_one (T : Txt P K mg) : PySem.W.keepIn K (.ref T.a__law_one) = true := T.u__law_one.kp
abbrev Txt.k__law_row (T : Txt P K mg) : PySem.W.keepIn K (.ref T.a__law_row) = true := T.u__law_row.kp
abbrev Txt.k_Desk___init__ (T : Txt P K mg) : PySem.W.keepIn K (.ref T.a_Desk___init__) = true := T.u_Desk___init__.kp
abbrev Txt.k_Hall_image (T : Txt P K mg) : PySem.W.keepIn K (.ref T.a_Hall_image) = true := T.u_Hall_image.kp
abbrev Txt.k_found_in (T : Txt P K mg) : PySem.W.keepIn K (.ref T.a_found_in) = true := T.u_found_in.kp
abbrev Txt.k_Hall_log (T : Txt P K mg) : PySem.W.keepIn K (.ref T.a_Hall_log) = true := T.u_Hall_log.kp
abbrev Txt.k_Hall_logs (T : Txt P K mg) : PySem.W.keepIn K (.ref T.a_Hall_logs) = true := T.u_Hall_logs.kp
abbrev Txt.k_Hall_machine (T : Txt P K mg) : PySem.W.keepIn K (.ref T.a_Hall_machine) = true := T.u_Hall_machine.kp
abbrev Txt.k_Hall_machines (T : Txt P K mg) : PySem.W.keepIn K (.ref T.a_Hall_machines) = true := T.u_Hall_machines.kp
abbrev Txt.k_Hall_promises (T : Txt P K mg) : PySem.W.keepIn K (.ref T.a_Hall_promises) = true := T.u_Hall_promises.kp
abbrev Txt.k_is_good (T : Txt P K mg) : PySem.W.keepIn K (.ref T.a_is_good) = true := T.u_is_good.kp
abbrev Txt.k_least_good (T : Txt P K mg) : PySem.W.keepIn K (.ref T.a_least_good) = true := T.u_least_good.kp
abbrev Txt.k_listed (T : Txt P K mg) : PySem.W.keepIn K (.ref T.a_listed) = true := T.u_listed.kp
abbrev Txt.k_log_text (T : Txt P K mg) : PySem.W.keepIn K (.ref T.a_log_text) = true := T.u_log_text.kp
abbrev Txt.k_is_word (T : Txt P K mg) : PySem.W.keepIn K (.ref T.a_is_word) = true := T.u_is_word.kp
abbrev Txt.k_check_log (T : Txt P K mg) : PySem.W.keepIn K (.ref T.a_check_log) = true := T.u_check_log.kp
abbrev Txt.k_is_one (T : Txt P K mg) : PySem.W.keepIn K (.ref T.a_is_one) = true := T.u_is_one.kp
abbrev Txt.k_number_of (T : Txt P K mg) : PySem.W.keepIn K (.ref T.a_number_of) = true := T.u_number_of.kp
abbrev Txt.k_rows_in (T : Txt P K mg) : PySem.W.keepIn K (.ref T.a_rows_in) = true := T.u_rows_in.kp
abbrev Txt.k_read_log (T : Txt P K mg) : PySem.W.keepIn K (.ref T.a_read_log) = true := T.u_read_log.kp
abbrev Txt.k_rows_told (T : Txt P K mg) : PySem.W.keepIn K (.ref T.a_rows_told) = true := T.u_rows_told.kp
abbrev Txt.k_told (T : Txt P K mg) : PySem.W.keepIn K (.ref T.a_told) = true := T.u_told.kp
abbrev Txt.k_Desk_asked (T : Txt P K mg) : PySem.W.keepIn K (.ref T.a_Desk_asked) = true := T.u_Desk_asked.kp
abbrev Txt.k_Hall_drop_machine (T : Txt P K mg) : PySem.W.keepIn K (.ref T.a_Hall_drop_machine) = true := T.u_Hall_drop_machine.kp
abbrev Txt.k_Hall_give (T : Txt P K mg) : PySem.W.keepIn K (.ref T.a_Hall_give) = true := T.u_Hall_give.kp
abbrev Txt.k_Hall_grow (T : Txt P K mg) : PySem.W.keepIn K (.ref T.a_Hall_grow) = true := T.u_Hall_grow.kp
abbrev Txt.k_Hall_hold (T : Txt P K mg) : PySem.W.keepIn K (.ref T.a_Hall_hold) = true := T.u_Hall_hold.kp
abbrev Txt.k_check_label (T : Txt P K mg) : PySem.W.keepIn K (.ref T.a_check_label) = true := T.u_check_label.kp
abbrev Txt.k_Hall_promise (T : Txt P K mg) : PySem.W.keepIn K (.ref T.a_Hall_promise) = true := T.u_Hall_promise.kp
abbrev Txt.k_Hall_put_machine (T : Txt P K mg) : PySem.W.keepIn K (.ref T.a_Hall_put_machine) = true := T.u_Hall_put_machine.kp
abbrev Txt.k_Hall_release (T : Txt P K mg) : PySem.W.keepIn K (.ref T.a_Hall_release) = true := T.u_Hall_release.kp
abbrev Txt.k_Hall_undo (T : Txt P K mg) : PySem.W.keepIn K (.ref T.a_Hall_undo) = true := T.u_Hall_undo.kp
abbrev Txt.k_States___init__ (T : Txt P K mg) : PySem.W.keepIn K (.ref T.a_States___init__) = true := T.u_States___init__.kp
abbrev Txt.k_States_take (T : Txt P K mg) : PySem.W.keepIn K (.ref T.a_States_take) = true := T.u_States_take.kp
abbrev Txt.k_rising (T : Txt P K mg) : PySem.W.keepIn K (.ref T.a_rising) = true := T.u_rising.kp
abbrev Txt.k_check_words (T : Txt P K mg) : PySem.W.keepIn K (.ref T.a_check_words) = true := T.u_check_words.kp
abbrev Txt.k_check_machine (T : Txt P K mg) : PySem.W.keepIn K (.ref T.a_check_machine) = true := T.u_check_machine.kp
abbrev Txt.k_read_words (T : Txt P K mg) : PySem.W.keepIn K (.ref T.a_read_words) = true := T.u_read_words.kp
abbrev Txt.k_read_machine (T : Txt P K mg) : PySem.W.keepIn K (.ref T.a_read_machine) = true := T.u_read_machine.kp
abbrev Txt.k_Desk_changed (T : Txt P K mg) : PySem.W.keepIn K (.ref T.a_Desk_changed) = true := T.u_Desk_changed.kp
abbrev Txt.k_Hall___init__ (T : Txt P K mg) : PySem.W.keepIn K (.ref T.a_Hall___init__) = true := T.u_Hall___init__.kp
abbrev Txt.k_Desk_answered (T : Txt P K mg) : PySem.W.keepIn K (.ref T.a_Desk_answered) = true := T.u_Desk_answered.kp
abbrev Txt.k_read_number (T : Txt P K mg) : PySem.W.keepIn K (.ref T.a_read_number) = true := T.u_read_number.kp
abbrev Txt.k_numbered (T : Txt P K mg) : PySem.W.keepIn K (.ref T.a_numbered) = true := T.u_numbered.kp
abbrev Txt.k_read_line (T : Txt P K mg) : PySem.W.keepIn K (.ref T.a_read_line) = true := T.u_read_line.kp
abbrev Txt.k_Desk_run_row (T : Txt P K mg) : PySem.W.keepIn K (.ref T.a_Desk_run_row) = true := T.u_Desk_run_row.kp
abbrev Txt.k_run_script (T : Txt P K mg) : PySem.W.keepIn K (.ref T.a_run_script) = true := T.u_run_script.kp
abbrev Txt.k__law_run (T : Txt P K mg) : PySem.W.keepIn K (.ref T.a__law_run) = true := T.u__law_run.kp
abbrev Txt.k__law_same (T : Txt P K mg) : PySem.W.keepIn K (.ref T.a__law_same) = true := T.u__law_same.kp
abbrev Txt.k__law_stream (T : Txt P K mg) : PySem.W.keepIn K (.ref T.a__law_stream) = true := T.u__law_stream.kp
abbrev Txt.k_law (T : Txt P K mg) : PySem.W.keepIn K (.ref T.a_law) = true := T.u_law.kp
abbrev Txt.ad (T : Txt P K mg) : AdT := ⟨T.a_check_log, T.a_check_machine, T.a_read_log, T.a_read_machine⟩
theorem ct0_f (T : Txt P K mg) : CatchF K mg ct0 (.ref T.C_Broken) := ⟨fun nm b cv h e => by
  unfold ct0 at h
  by_cases h0 : nm = "Missing"
  · rw [if_pos h0] at h
    cases h
    rw [h0] at e
    cases T.x_Missing.gC.symm.trans e
    exact T.xm_Missing_Broken
  rw [if_neg h0] at h
  by_cases h1 : nm = "NotAllowed"
  · rw [if_pos h1] at h
    cases h
    rw [h1] at e
    cases T.x_NotAllowed.gC.symm.trans e
    exact T.xm_NotAllowed_Broken
  rw [if_neg h1] at h
  by_cases h2 : nm = "TooLarge"
  · rw [if_pos h2] at h
    cases h
    rw [h2] at e
    cases T.x_TooLarge.gC.symm.trans e
    exact T.xm_TooLarge_Broken
  rw [if_neg h2] at h
  cases h⟩
theorem ct1_f (T : Txt P K mg) : CatchF K mg ct1 (.ref T.C_NotAllowed) := ⟨fun nm b cv h e => by
  unfold ct1 at h
  by_cases h0 : nm = "Missing"
  · rw [if_pos h0] at h
    cases h
    rw [h0] at e
    cases T.x_Missing.gC.symm.trans e
    exact T.xm_Missing_NotAllowed
  rw [if_neg h0] at h
  by_cases h1 : nm = "NotAllowed"
  · rw [if_pos h1] at h
    cases h
    rw [h1] at e
    cases T.x_NotAllowed.gC.symm.trans e
    exact T.xm_NotAllowed_NotAllowed
  rw [if_neg h1] at h
  by_cases h2 : nm = "TooLarge"
  · rw [if_pos h2] at h
    cases h
    rw [h2] at e
    cases T.x_TooLarge.gC.symm.trans e
    exact T.xm_TooLarge_NotAllowed
  rw [if_neg h2] at h
  cases h⟩
theorem ct2_f (T : Txt P K mg) : CatchF K mg ct2 (.ref T.C_TooLarge) := ⟨fun nm b cv h e => by
  unfold ct2 at h
  by_cases h0 : nm = "Missing"
  · rw [if_pos h0] at h
    cases h
    rw [h0] at e
    cases T.x_Missing.gC.symm.trans e
    exact T.xm_Missing_TooLarge
  rw [if_neg h0] at h
  by_cases h1 : nm = "TooLarge"
  · rw [if_pos h1] at h
    cases h
    rw [h1] at e
    cases T.x_TooLarge.gC.symm.trans e
    exact T.xm_TooLarge_TooLarge
  rw [if_neg h1] at h
  cases h⟩
theorem ct3_f (T : Txt P K mg) : CatchF K mg ct3 (.ref T.C_Missing) := ⟨fun nm b cv h e => by
  unfold ct3 at h
  by_cases h0 : nm = "Missing"
  · rw [if_pos h0] at h
    cases h
    rw [h0] at e
    cases T.x_Missing.gC.symm.trans e
    exact T.xm_Missing_Missing
  rw [if_neg h0] at h
  cases h⟩
theorem ct4_f (T : Txt P K mg) : CatchF K mg ct4 (.ref T.C_WardenError) := ⟨fun nm b cv h e => by
  unfold ct4 at h
  by_cases h0 : nm = "NotAllowed"
  · rw [if_pos h0] at h
    cases h
    rw [h0] at e
    cases T.x_NotAllowed.gC.symm.trans e
    exact T.xm_NotAllowed_WardenError
  rw [if_neg h0] at h
  by_cases h1 : nm = "TooLarge"
  · rw [if_pos h1] at h
    cases h
    rw [h1] at e
    cases T.x_TooLarge.gC.symm.trans e
    exact T.xm_TooLarge_WardenError
  rw [if_neg h1] at h
  cases h⟩
theorem ct5_f (T : Txt P K mg) : CatchF K mg ct5 (.ref T.C_BadForm) := ⟨fun nm b cv h e => by
  unfold ct5 at h
  by_cases h0 : nm = "BadForm"
  · rw [if_pos h0] at h
    cases h
    rw [h0] at e
    cases T.gx_BadForm.symm.trans e
    exact T.xm_BadForm_BadForm
  rw [if_neg h0] at h
  cases h⟩
theorem ok__law_is_digits (T : Txt P K mg) (base : Heap) : FnG P w K mg base (L2N.CX P w) 1 T.a__law_is_digits T.d__law_is_digits ["text"] (spC ⟨K, w⟩ mg (F__law_is_digits T.ad) 1) := by
  refine fn_clean T.u__law_is_digits sc__law_is_digits fun cdv A outer s H E μ hr => ?_
  have hu : (A.deeper (envOfC "_law_is_digits" (defScope s__law_is_digits) s.heap.objs.size T.a__law_is_digits cdv)).units + 100 < cLine := by
    have := hr.room.un
    omega
  exact (css_one (cs_ret (ce_and (ce_chain (opp_le hu).c (opp_le hu).c ce_int (ce_len (cb_var 0) T.b_len) ce_int) (ce_and (ce_cmp (cc_of (opp_eq hu).c (ce_len (cb_f (cf_lc (own := [("sign", 1)]) rfl sc__law_is_digits.nd (ci_of (ce_var 0)) (blkOk_by (N := ["text", "sign"]) (sc := defScope s__law_is_digits) (by decide +kernel)) (by decide) (fun _ _ _ _ _ => (cg_name 1 sc__law_is_digits.nd)) (fun _ _ _ _ _ => pts_c fun _ _ => (ct_cmp (cc_b (opb_notInG hu) (ce_var 1) (cb_of ce_str)))) (fun _ _ _ _ _ _ _ => (ce_var 1)))) T.b_len) ce_int)) (ce_one (ce_cmp (cc_of (opp_ne hu).c (ce_ixng 0 hu ce_int) ce_str)))))))
theorem ok__law_has_form (T : Txt P K mg) (base : Heap) : FnG P w K mg base (L2N.CX P w) 2 T.a__law_has_form T.d__law_has_form ["row"] (spC ⟨K, w⟩ mg (F__law_has_form T.ad) 1) := by
  refine fn_clean T.u__law_has_form sc__law_has_form fun cdv A outer s H E μ hr => ?_
  have hu : (A.deeper (envOfC "_law_has_form" (defScope s__law_has_form) s.heap.objs.size T.a__law_has_form cdv)).units + 100 < cLine := by
    have := hr.room.un
    omega
  exact (css_cons (cs_if (ct_cmp (cc_b (opb_inG hu) (ce_var 0) (cb_f (cf_lst (ca_cons ce_str (ca_cons ce_str (ca_cons ce_str (ca_cons ce_str (ca_cons ce_str (ca_cons ce_str ca_nil)))))))))) (css_one (cs_ret ce_bool)) css_nil)
    (css_cons (cs_own 1 (cf_split (ce_var 0) ce_str) sc__law_has_form.nd)
    (css_cons (cs_own 2 (cf_sl (ce_var 1) (cp_some ce_int) cp_none) sc__law_has_form.nd)
    (css_cons (cs_if (ct_cmp (cc_b (opb_inG hu) (ce_ixng 1 hu ce_int) (cb_f (cf_lst (ca_cons ce_str (ca_cons ce_str (ca_cons ce_str ca_nil))))))) (css_one (cs_ret (ce_cmp (cc_of (opp_eq hu).c (ce_len (cb_var 2) T.b_len) ce_int)))) css_nil)
    (css_cons (cs_if (ct_cmp (cc_b (opb_inG hu) (ce_ixng 1 hu ce_int) (cb_f (cf_lst (ca_cons ce_str (ca_cons ce_str (ca_cons ce_str ca_nil))))))) (css_one (cs_ret (ce_and (ce_cmp (cc_of (opp_eq hu).c (ce_len (cb_var 2) T.b_len) ce_int)) (ce_one (ce_call (ok__law_is_digits T base) (hr.mono (by decide)) T.g__law_is_digits T.k__law_is_digits T.n__law_is_digits (L2N.takes_of rfl rfl rfl rfl) (ca_cons (ce_ixng 2 hu ce_int) ca_nil)))))) css_nil)
    (css_cons (cs_if (ct_cmp (cc_of (opp_eq hu).c (ce_ixng 1 hu ce_int) ce_str)) (css_one (cs_ret (ce_and (ce_cmp (cc_of (opp_ge hu).c (ce_len (cb_var 2) T.b_len) ce_int)) (ce_one (ce_call (ok__law_is_digits T base) (hr.mono (by decide)) T.g__law_is_digits T.k__law_is_digits T.n__law_is_digits (L2N.takes_of rfl rfl rfl rfl) (ca_cons (ce_ixng 2 hu ce_int) ca_nil)))))) css_nil)
    (css_cons (cs_if (ct_cmp (cc_b (opb_inG hu) (ce_ixng 1 hu ce_int) (cb_f (cf_lst (ca_cons ce_str (ca_cons ce_str (ca_cons ce_str ca_nil))))))) (css_one (cs_ret (ce_cmp (cc_of (opp_ge hu).c (ce_len (cb_var 2) T.b_len) ce_int)))) css_nil)
    (css_one (cs_ret (ce_and (ce_cmp (cc_of (opp_eq hu).c (ce_ixng 1 hu ce_int) ce_str)) (ce_one (ce_cmp (cc_of (opp_eq hu).c (ce_len (cb_var 2) T.b_len) ce_int)))))))))))))
theorem ok__law_next (T : Txt P K mg) (base : Heap) : FnG P w K mg base (L2N.CX P w) 1 T.a__law_next T.d__law_next ["state", "many"] (spC ⟨K, w⟩ mg (F__law_next T.ad) 2) := by
  refine fn_clean T.u__law_next sc__law_next fun cdv A outer s H E μ hr => ?_
  have hu : (A.deeper (envOfC "_law_next" (defScope s__law_next) s.heap.objs.size T.a__law_next cdv)).units + 100 < cLine := by
    have := hr.room.un
    omega
  exact (css_cons (cs_putG 0 hu (ce_bin opp_add.c (ce_ixng 0 hu ce_int) ce_int) ce_int)
    (css_cons (cs_set 2 (ce_bin opp_div.c (ce_ixng 0 hu ce_int) (ce_len (cb_of (ce_ixng 0 hu ce_int)) T.b_len)) sc__law_next.nd)
    (css_one (cs_ret (ce_bin opp_mod.c (ce_intc (cb_of (ce_bin opp_add.c (ce_bin opp_add.c (ce_ixg hu (ce_ixng 0 hu ce_int) (ce_bin opp_mod.c (ce_ixng 0 hu ce_int) (ce_len (cb_of (ce_ixng 0 hu ce_int)) T.b_len))) (ce_bin opp_mulT.c (ce_var 2) ce_int)) (ce_bin opp_mulT.c (ce_bin opp_mulT.c (ce_ixng 0 hu ce_int) (ce_var 2)) ce_int))) T.b_int) (ce_var 1))))))
theorem ok__law_one (T : Txt P K mg) (base : Heap) : FnG P w K mg base (L2N.CX P w) 2 T.a__law_one T.d__law_one ["state", "rows"] (spC ⟨K, w⟩ mg (F__law_one T.ad) 2) := by
  refine fn_clean T.u__law_one sc__law_one fun cdv A outer s H E μ hr => ?_
  have hu : (A.deeper (envOfC "_law_one" (defScope s__law_one) s.heap.objs.size T.a__law_one cdv)).units + 100 < cLine := by
    have := hr.room.un
    omega
  exact (css_one (cs_ret (ce_ixng 1 hu (ce_call (ok__law_next T base) (hr.mono (by decide)) T.g__law_next T.k__law_next T.n__law_next (L2N.takes_of rfl rfl rfl rfl) (ca_cons (ce_var 0) (ca_cons (ce_len (cb_var 1) T.b_len) ca_nil))))))
theorem ok__law_row (T : Txt P K mg) (base : Heap) : FnG P w K mg base (L2N.CX P w) 3 T.a__law_row T.d__law_row ["state"] (spC ⟨K, w⟩ mg (F__law_row T.ad) 1) := by
  refine fn_clean T.u__law_row sc__law_row fun cdv A outer s H E μ hr => ?_
  have hu : (A.deeper (envOfC "_law_row" (defScope s__law_row) s.heap.objs.size T.a__law_row cdv)).units + 100 < cLine := by
    have := hr.room.un
    omega
  exact (css_cons (cs_set 1 (ce_call (ok__law_one T base) (hr.mono (by decide)) T.g__law_one T.k__law_one T.n__law_one (L2N.takes_of rfl rfl rfl rfl) (ca_cons (ce_var 0) (ca_cons (ce_f (cf_lst (ca_cons ce_str (ca_cons ce_str (ca_cons ce_str (ca_cons ce_str (ca_cons ce_str (ca_cons ce_str ca_nil)))))))) ca_nil))) sc__law_row.nd)
    (css_cons (cs_set 2 (ce_call (ok__law_one T base) (hr.mono (by decide)) T.g__law_one T.k__law_one T.n__law_one (L2N.takes_of rfl rfl rfl rfl) (ca_cons (ce_var 0) (ca_cons (ce_f (cf_lst (ca_cons ce_str (ca_cons ce_str (ca_cons ce_str (ca_cons ce_str (ca_cons ce_str (ca_cons ce_str (ca_cons ce_str (ca_cons ce_str (ca_cons ce_str (ca_cons ce_str ca_nil)))))))))))) ca_nil))) sc__law_row.nd)
    (css_cons (cs_own 3 (cf_lst (ca_cons ce_str (ca_cons ce_str (ca_cons ce_str (ca_cons ce_str (ca_cons ce_str (ca_cons ce_str (ca_cons (ce_bin opp_add.c ce_str (ce_var 1)) (ca_cons ce_str (ca_cons ce_str (ca_cons (ce_bin opp_add.c ce_str (ce_var 1)) (ca_cons (ce_bin opp_add.c ce_str (ce_var 1)) (ca_cons ce_str ca_nil))))))))))))) sc__law_row.nd)
    (css_cons (cs_own 3 (cf_cat (ce_var 3) (ce_f (cf_lst (ca_cons (ce_bin opp_add.c ce_str (ce_var 2)) (ca_cons (ce_bin opp_add.c ce_str (ce_var 2)) (ca_cons (ce_bin opp_add.c ce_str (ce_var 2)) (ca_cons ce_str (ca_cons (ce_bin opp_add.c (ce_bin opp_add.c ce_str (ce_var 2)) ce_str) (ca_cons ce_str ca_nil))))))))) sc__law_row.nd)
    (css_cons (cs_own 3 (cf_cat (ce_var 3) (ce_f (cf_lst (ca_cons (ce_bin opp_add.c (ce_bin opp_add.c ce_str (ce_var 2)) ce_str) (ca_cons ce_str (ca_cons ce_str (ca_cons (ce_bin opp_add.c ce_str (ce_var 1)) ca_nil))))))) sc__law_row.nd)
    (css_cons (cs_own 3 (cf_cat (ce_var 3) (ce_f (cf_lst (ca_cons ce_str (ca_cons ce_str (ca_cons ce_str (ca_cons ce_str (ca_cons ce_str (ca_cons (ce_bin opp_add.c (ce_bin opp_add.c ce_str (ce_var 1)) ce_str) (ca_cons ce_str (ca_cons (ce_bin opp_add.c (ce_bin opp_add.c ce_str (ce_var 1)) ce_str) (ca_cons ce_str (ca_cons ce_str (ca_cons ce_str (ca_cons ce_str ca_nil))))))))))))))) sc__law_row.nd)
    (css_one (cs_ret (ce_call (ok__law_one T base) (hr.mono (by decide)) T.g__law_one T.k__law_one T.n__law_one (L2N.takes_of rfl rfl rfl rfl) (ca_cons (ce_var 0) (ca_cons (ce_var 3) ca_nil)))))))))))
theorem ok_Desk___init__ (T : Txt P K mg) (base : Heap) : FnG P w K mg base (L2N.CX P w) 1 T.a_Desk___init__ T.d_Desk___init__ ["self"] (spC ⟨K, w⟩ mg (F_Desk___init__ T.ad) 1) := by
  refine fn_clean T.u_Desk___init__ sc_Desk___init__ fun cdv A outer s H E μ hr => ?_
  have hu : (A.deeper (envOfC "Desk.__init__" (defScope s_Desk___init__) s.heap.objs.size T.a_Desk___init__ cdv)).units + 100 < cLine := by
    have := hr.room.un
    omega
  exact (css_one (cs_fld T.K_Desk T.na_Desk_hall (ce_var 0) ce_none))
theorem ok_Hall_image (T : Txt P K mg) (base : Heap) : FnG P w K mg base (L2N.CX P w) 1 T.a_Hall_image T.d_Hall_image ["self"] (spC ⟨K, w⟩ mg (F_Hall_image T.ad) 1) := by
  refine fn_clean T.u_Hall_image sc_Hall_image fun cdv A outer s H E μ hr => ?_
  have hu : (A.deeper (envOfC "Hall.image" (defScope s_Hall_image) s.heap.objs.size T.a_Hall_image cdv)).units + 100 < cLine := by
    have := hr.room.un
    omega
  exact (css_cons (cs_un (ce_fld T.K_Hall T.na_Hall_now (ce_var 0)) (cg_tup rfl (cgs_cons (cg_name 1 sc_Hall_image.nd) (cgs_cons (cg_name 2 sc_Hall_image.nd) (cgs_cons (cg_name 3 sc_Hall_image.nd) (cgs_cons (cg_name 4 sc_Hall_image.nd) cgs_nil)))) (unCons_len (unCons_len (unCons_len (unCons_len unNil_len))))))
    (css_cons (cs_own 5 (cf_lst (ca_cons (ce_fs (.txt (.fmt (ce_var 4) .nil))) ca_nil)) sc_Hall_image.nd)
    (css_cons (cs_for (passes_of rfl) rfl (ci_of (ce_var 1)) (cg_tup rfl (cgs_cons (cg_name 6 sc_Hall_image.nd) (cgs_cons (cg_name 7 sc_Hall_image.nd) cgs_nil)) (unCons_len (unCons_len unNil_len)))
    css_no)
    (css_cons (cs_expr (ce_extend 5 (cb_f (cf_lc (own := [("name", 6), ("first", 9), ("second", 10)]) rfl sc_Hall_image.nd (ci_of (ce_var 3)) (blkOk_by (N := ["self", "machines", "logs", "promises", "number", "rows", "name", "machine", "row", "first", "second", "own", "log"]) (sc := defScope s_Hall_image) (by decide +kernel)) (by decide) (fun _ _ _ _ _ => (cg_tup rfl (cgs_cons (cg_name 6 sc_Hall_image.nd) (cgs_cons (cg_name 9 sc_Hall_image.nd) (cgs_cons (cg_name 10 sc_Hall_image.nd) cgs_nil))) (unCons_len (unCons_len (unCons_len unNil_len))))) (fun _ _ _ _ _ => pts_yes) (fun _ _ _ _ _ _ _ => ce_no)))))
    (css_cons (cs_for (passes_of rfl) rfl (ci_of (ce_var 2)) (cg_tup rfl (cgs_cons (cg_name 11 sc_Hall_image.nd) (cgs_cons (cg_name 6 sc_Hall_image.nd) (cgs_cons (cg_name 12 sc_Hall_image.nd) cgs_nil))) (unCons_len (unCons_len (unCons_len unNil_len))))
    css_no)
    (css_one (cs_ret (ce_join ce_str (cb_f (cf_lc (own := [("row", 8)]) rfl sc_Hall_image.nd (ci_of (ce_var 5)) (blkOk_by (N := ["self", "machines", "logs", "promises", "number", "rows", "name", "machine", "row", "first", "second", "own", "log"]) (sc := defScope s_Hall_image) (by decide +kernel)) (by decide) (fun _ _ _ _ _ => (cg_name 8 sc_Hall_image.nd)) (fun _ _ _ _ _ => pts_yes) (fun _ _ _ _ _ _ _ => (ce_bin opp_add.c (ce_var 8) ce_str))))))))))))
theorem ok_found_in (T : Txt P K mg) (base : Heap) : FnG P w K mg base (L2N.CX P w) 1 T.a_found_in T.d_found_in ["rows", "name"] (spC ⟨K, w⟩ mg (F_found_in T.ad) 2) := by
  refine fn_clean T.u_found_in sc_found_in fun cdv A outer s H E μ hr => ?_
  have hu : (A.deeper (envOfC "found_in" (defScope s_found_in) s.heap.objs.size T.a_found_in cdv)).units + 100 < cLine := by
    have := hr.room.un
    omega
  exact (css_cons (cs_for (passes_of rfl) rfl (ci_of (ce_var 0)) (cg_name 2 sc_found_in.nd)
    (css_one (cs_if (ct_cmp (cc_of (opp_eq hu).c (ce_ixng 2 hu ce_int) (ce_var 1))) (css_one (cs_ret (ce_var 2))) css_nil)))
    (css_one (cs_ret ce_none)))
theorem ok_Hall_log (T : Txt P K mg) (base : Heap) : FnG P w K mg base (L2N.CX P w) 2 T.a_Hall_log T.d_Hall_log ["self", "number"] (spC ⟨K, w⟩ mg (F_Hall_log T.ad) 2) := by
  refine fn_clean T.u_Hall_log sc_Hall_log fun cdv A outer s H E μ hr => ?_
  have hu : (A.deeper (envOfC "Hall.log" (defScope s_Hall_log) s.heap.objs.size T.a_Hall_log cdv)).units + 100 < cLine := by
    have := hr.room.un
    omega
  exact (css_cons (cs_set 2 (ce_call (ok_found_in T base) (hr.mono (by decide)) T.g_found_in T.k_found_in T.n_found_in (L2N.takes_of rfl rfl rfl rfl) (ca_cons (ce_ixg hu (ce_fld T.K_Hall T.na_Hall_now (ce_var 0)) ce_int) (ca_cons (ce_var 1) ca_nil))) sc_Hall_log.nd)
    (css_cons (cs_if (ct_cmp (cc_isNr (ce_var 2))) (css_one (cs_raise rfl (L2N.takes_of rfl rfl rfl rfl) T.x_Missing)) css_nil)
    (css_one (cs_ret (ce_sl (ce_var 2) (cp_some ce_int) cp_none)))))
theorem ok_Hall_logs (T : Txt P K mg) (base : Heap) : FnG P w K mg base (L2N.CX P w) 1 T.a_Hall_logs T.d_Hall_logs ["self"] (spC ⟨K, w⟩ mg (F_Hall_logs T.ad) 1) := by
  refine fn_clean T.u_Hall_logs sc_Hall_logs fun cdv A outer s H E μ hr => ?_
  have hu : (A.deeper (envOfC "Hall.logs" (defScope s_Hall_logs) s.heap.objs.size T.a_Hall_logs cdv)).units + 100 < cLine := by
    have := hr.room.un
    omega
  exact (css_one (cs_ret (ce_ixg hu (ce_fld T.K_Hall T.na_Hall_now (ce_var 0)) ce_int)))
theorem ok_Hall_machine (T : Txt P K mg) (base : Heap) : FnG P w K mg base (L2N.CX P w) 2 T.a_Hall_machine T.d_Hall_machine ["self", "name"] (spC ⟨K, w⟩ mg (F_Hall_machine T.ad) 2) := by
  refine fn_clean T.u_Hall_machine sc_Hall_machine fun cdv A outer s H E μ hr => ?_
  have hu : (A.deeper (envOfC "Hall.machine" (defScope s_Hall_machine) s.heap.objs.size T.a_Hall_machine cdv)).units + 100 < cLine := by
    have := hr.room.un
    omega
  exact (css_cons (cs_set 2 (ce_call (ok_found_in T base) (hr.mono (by decide)) T.g_found_in T.k_found_in T.n_found_in (L2N.takes_of rfl rfl rfl rfl) (ca_cons (ce_ixg hu (ce_fld T.K_Hall T.na_Hall_now (ce_var 0)) ce_int) (ca_cons (ce_var 1) ca_nil))) sc_Hall_machine.nd)
    (css_cons (cs_if (ct_cmp (cc_isNr (ce_var 2))) (css_one (cs_raise rfl (L2N.takes_of rfl rfl rfl rfl) T.x_Missing)) css_nil)
    (css_one (cs_ret (ce_ixng 2 hu ce_int)))))
theorem ok_Hall_machines (T : Txt P K mg) (base : Heap) : FnG P w K mg base (L2N.CX P w) 1 T.a_Hall_machines T.d_Hall_machines ["self"] (spC ⟨K, w⟩ mg (F_Hall_machines T.ad) 1) := by
  refine fn_clean T.u_Hall_machines sc_Hall_machines fun cdv A outer s H E μ hr => ?_
  have hu : (A.deeper (envOfC "Hall.machines" (defScope s_Hall_machines) s.heap.objs.size T.a_Hall_machines cdv)).units + 100 < cLine := by
    have := hr.room.un
    omega
  exact (css_one (cs_ret (ce_ixg hu (ce_fld T.K_Hall T.na_Hall_now (ce_var 0)) ce_int)))
theorem ok_Hall_promises (T : Txt P K mg) (base : Heap) : FnG P w K mg base (L2N.CX P w) 1 T.a_Hall_promises T.d_Hall_promises ["self"] (spC ⟨K, w⟩ mg (F_Hall_promises T.ad) 1) := by
  refine fn_clean T.u_Hall_promises sc_Hall_promises fun cdv A outer s H E μ hr => ?_
  have hu : (A.deeper (envOfC "Hall.promises" (defScope s_Hall_promises) s.heap.objs.size T.a_Hall_promises cdv)).units + 100 < cLine := by
    have := hr.room.un
    omega
  exact (css_one (cs_ret (ce_ixg hu (ce_fld T.K_Hall T.na_Hall_now (ce_var 0)) ce_int)))
theorem ok_is_good (T : Txt P K mg) (base : Heap) : FnG P w K mg base (L2N.CX P w) 1 T.a_is_good T.d_is_good ["machine", "log"] (spC ⟨K, w⟩ mg (F_is_good T.ad) 2) := fnG_gap
theorem ok_least_good (T : Txt P K mg) (base : Heap) : FnG P w K mg base (L2N.CX P w) 1 T.a_least_good T.d_least_good ["machine"] (spC ⟨K, w⟩ mg (F_least_good T.ad) 1) := fnG_gap
theorem ok_listed (T : Txt P K mg) (base : Heap) : FnG P w K mg base (L2N.CX P w) 1 T.a_listed T.d_listed ["words"] (spC ⟨K, w⟩ mg (F_listed T.ad) 1) := by
  refine fn_clean T.u_listed sc_listed fun cdv A outer s H E μ hr => ?_
  have hu : (A.deeper (envOfC "listed" (defScope s_listed) s.heap.objs.size T.a_listed cdv)).units + 100 < cLine := by
    have := hr.room.un
    omega
  exact (css_one (cs_ret (ce_if (ct_cmp (cc_of (opp_gt hu).c (ce_len (cb_var 0) T.b_len) ce_int)) (ce_join ce_str (cb_var 0)) ce_str)))
theorem ok_log_text (T : Txt P K mg) (base : Heap) : FnG P w K mg base (L2N.CX P w) 1 T.a_log_text T.d_log_text ["log"] (spC ⟨K, w⟩ mg (F_log_text T.ad) 1) := fnG_gap
theorem ok_is_word (T : Txt P K mg) (base : Heap) : FnG P w K mg base (L2N.CX P w) 1 T.a_is_word T.d_is_word ["text"] (spC ⟨K, w⟩ mg (F_is_word T.ad) 1) := by
  refine fn_clean T.u_is_word sc_is_word fun cdv A outer s H E μ hr => ?_
  have hu : (A.deeper (envOfC "is_word" (defScope s_is_word) s.heap.objs.size T.a_is_word cdv)).units + 100 < cLine := by
    have := hr.room.un
    omega
  exact (css_cons (cs_if (ct_w (cw_or (ct_not (ct_chain (opp_le hu).c (opp_le hu).c ce_int (ce_len (cb_var 0) T.b_len) (ce_glob (y := .int 12) (v := .int 12) T.c_MAX_WORD ⟨_, rfl⟩ (fun _ => den_int _)))) (cw_or1 (ct_cmp (cc_b (opb_notInG hu) (ce_ixng 0 hu ce_int) (cb_of (ce_glob (y := .str "abcdefghijklmnopqrstuvwxyz") (v := .str "abcdefghijklmnopqrstuvwxyz") T.c_FIRST ⟨_, rfl⟩ (fun _ => den_str _)))))))) (css_one (cs_ret ce_bool)) css_nil)
    (css_one (cs_ret (ce_all rfl (cb_f (cf_lc (own := [("sign", 1)]) rfl sc_is_word.nd (ci_of (ce_var 0)) (blkOk_by (N := ["text", "sign"]) (sc := defScope s_is_word) (by decide +kernel)) (by decide) (fun _ _ _ _ _ => (cg_name 1 sc_is_word.nd)) (fun _ _ _ _ _ => pts_yes) (fun _ _ _ _ _ _ _ => (ce_cmp (cc_b (opb_inG hu) (ce_var 1) (cb_of (ce_glob (y := .str "abcdefghijklmnopqrstuvwxyz0123456789") (v := .str "abcdefghijklmnopqrstuvwxyz0123456789") T.c_LATER ⟨_, rfl⟩ (fun _ => den_str _)))))))) T.b_all))))
theorem ok_check_log (T : Txt P K mg) (base : Heap) : FnG P w K mg base (L2N.CX P w) 2 T.a_check_log T.d_check_log ["log"] (spC ⟨K, w⟩ mg (F_check_log T.ad) 1) := by
  refine fn_clean T.u_check_log sc_check_log fun cdv A outer s H E μ hr => ?_
  have hu : (A.deeper (envOfC "check_log" (defScope s_check_log) s.heap.objs.size T.a_check_log cdv)).units + 100 < cLine := by
    have := hr.room.un
    omega
  exact (css_cons (cs_if (ct_cmp (cc_of (opp_gt hu).c (ce_len (cb_var 0) T.b_len) (ce_glob (y := .int 60) (v := .int 60) T.c_MAX_LOG ⟨_, rfl⟩ (fun _ => den_int _)))) (css_one (cs_raise rfl (L2N.takes_of rfl rfl rfl rfl) T.x_TooLarge)) css_nil)
    (css_cons (cs_if (ct_not (ct_val (ce_all rfl (cb_f (cf_lc (own := [("word", 1), ("name", 2)]) rfl sc_check_log.nd (ci_of (ce_var 0)) (blkOk_by (N := ["log", "word", "name"]) (sc := defScope s_check_log) (by decide +kernel)) (by decide) (fun _ _ _ _ _ => (cg_tup rfl (cgs_cons (cg_name 1 sc_check_log.nd) (cgs_cons (cg_name 2 sc_check_log.nd) cgs_nil)) (unCons_len (unCons_len unNil_len)))) (fun _ _ _ _ _ => pts_yes) (fun _ _ _ _ _ _ _ => (ce_and (ce_call (ok_is_word T base) (hr.mono (by decide)) T.g_is_word T.k_is_word T.n_is_word takes_q (ca_cons (ce_var 1) ca_nil)) (ce_one (ce_chain (opp_le hu).c (opp_le hu).c ce_int (ce_var 2) (ce_glob (y := .int 999) (v := .int 999) T.c_MAX_NAME ⟨_, rfl⟩ (fun _ => den_int _)))))))) T.b_all))) (css_one (cs_raise rfl (L2N.takes_of rfl rfl rfl rfl) T.x_NotAllowed)) css_nil)
    (css_one (cs_ret ce_none))))
theorem ok_is_one_check_log (T : Txt P K mg) (base : Heap) : FnG P w K mg base (L2N.CX P w) 3 T.a_is_one T.d_is_one ["check", "told"] (spC ⟨K, w⟩ mg (F_is_one_check_log T.ad) 2) := by
  refine fn_clean T.u_is_one sc_is_one fun cdv A outer s H E μ hr => ?_
  have hu : (A.deeper (envOfC "is_one" (defScope s_is_one) s.heap.objs.size T.a_is_one cdv)).units + 100 < cLine := by
    have := hr.room.un
    omega
  exact (css_cons (cs_tryN rfl rfl (L2N.takes_of rfl rfl rfl rfl) (.cons ⟨rfl, by decide, Or.inl T.w_WardenError⟩ (ct4_f T) (fun _ _ _ => (css_one (cs_ret ce_bool))) .nil) (fun _ _ _ tk po => (css_one (cs_expr (ce_callV 0 (f := T.a_check_log) (ok_check_log T base) (hr.mono (by decide)) T.k_check_log T.n_check_log tk (ca_cons (ce_var 1) ca_nil))))))
    (css_one (cs_ret ce_bool)))
theorem ok_number_of (T : Txt P K mg) (base : Heap) : FnG P w K mg base (L2N.CX P w) 1 T.a_number_of T.d_number_of ["text"] (spC ⟨K, w⟩ mg (F_number_of T.ad) 1) := by
  refine fn_clean T.u_number_of sc_number_of fun cdv A outer s H E μ hr => ?_
  have hu : (A.deeper (envOfC "number_of" (defScope s_number_of) s.heap.objs.size T.a_number_of cdv)).units + 100 < cLine := by
    have := hr.room.un
    omega
  exact (css_cons (cs_if (ct_w (cw_or (ct_not (ct_chain (opp_le hu).c (opp_le hu).c ce_int (ce_len (cb_var 0) T.b_len) ce_int)) (cw_or1 (ct_not (ct_val (ce_all rfl (cb_f (cf_lc (own := [("sign", 1)]) rfl sc_number_of.nd (ci_of (ce_var 0)) (blkOk_by (N := ["text", "sign"]) (sc := defScope s_number_of) (by decide +kernel)) (by decide) (fun _ _ _ _ _ => (cg_name 1 sc_number_of.nd)) (fun _ _ _ _ _ => pts_yes) (fun _ _ _ _ _ _ _ => (ce_cmp (cc_b (opb_inG hu) (ce_var 1) (cb_of ce_str)))))) T.b_all)))))) (css_one (cs_ret ce_none)) css_nil)
    (css_one (cs_ret (ce_if (ct_w (cw_and (ct_cmp (cc_of (opp_gt hu).c (ce_len (cb_var 0) T.b_len) ce_int)) (cw_and1 (ct_cmp (cc_of (opp_eq hu).c (ce_ixng 0 hu ce_int) ce_str))))) ce_none (ce_intS (cb_var 0) T.b_int)))))
theorem ok_rows_in (T : Txt P K mg) (base : Heap) : FnG P w K mg base (L2N.CX P w) 5 T.a_rows_in T.d_rows_in ["text"] (spC ⟨K, w⟩ mg (F_rows_in T.ad) 1) := by
  refine fn_clean T.u_rows_in sc_rows_in fun cdv A outer s H E μ hr => ?_
  have hu : (A.deeper (envOfC "rows_in" (defScope s_rows_in) s.heap.objs.size T.a_rows_in cdv)).units + 100 < cLine := by
    have := hr.room.un
    omega
  exact (css_cons (cs_if (ct_cmp (cc_of (opp_gt hu).c (ce_len (cb_var 0) T.b_len) (ce_glob (y := .int 40000) (v := .int 40000) T.c_MAX_TEXT ⟨_, rfl⟩ (fun _ => den_int _)))) (css_one (cs_raiseP (k := 0) rfl (L2N.takes_of rfl rfl rfl rfl) T.X_BadForm xp_BadForm (hr.mono (by decide)) T.gx_BadForm ce_int)) css_nil)
    (css_cons (cs_own 1 (cf_split (ce_var 0) ce_str) sc_rows_in.nd)
    (css_one (cs_ret (ce_tup (ca_cons (ce_f (cf_sl (ce_var 1) cp_none (cp_some (ce_neg ce_int)))) (ca_cons (ce_if (ct_cmp (cc_of (opp_ne hu).c (ce_ixng 1 hu (ce_neg ce_int)) ce_str)) (ce_len (cb_var 1) T.b_len) ce_int) ca_nil)))))))
theorem ok_read_log (T : Txt P K mg) (base : Heap) : FnG P w K mg base (L2N.CX P w) 6 T.a_read_log T.d_read_log ["text"] (spC ⟨K, w⟩ mg (F_read_log T.ad) 1) := by
  refine fn_clean T.u_read_log sc_read_log fun cdv A outer s H E μ hr => ?_
  have hu : (A.deeper (envOfC "read_log" (defScope s_read_log) s.heap.objs.size T.a_read_log cdv)).units + 100 < cLine := by
    have := hr.room.un
    omega
  exact (css_cons (cs_un (ce_call (ok_rows_in T base) (hr.mono (by decide)) T.g_rows_in T.k_rows_in T.n_rows_in (L2N.takes_of rfl rfl rfl rfl) (ca_cons (ce_var 0) ca_nil)) (cg_tup rfl (cgs_cons (cg_name 1 sc_read_log.nd) (cgs_cons (cg_name 2 sc_read_log.nd) cgs_nil)) (unCons_len (unCons_len unNil_len))))
    (css_cons (cs_own 3 (cf_lst ca_nil) sc_read_log.nd)
    (css_cons (cs_for (passes_of rfl) rfl (ci_enum T.b_enumerate (ce_var 1)) (cg_tup rfl (cgs_cons (cg_name 4 sc_read_log.nd) (cgs_cons (cg_name 5 sc_read_log.nd) cgs_nil)) (unCons_len (unCons_len unNil_len)))
    (css_cons (cs_own 6 (cf_split (ce_var 5) ce_str) sc_read_log.nd)
    (css_cons (cs_set 7 (ce_if (ct_cmp (cc_of (opp_eq hu).c (ce_len (cb_var 6) T.b_len) ce_int)) (ce_call (ok_number_of T base) (hr.mono (by decide)) T.g_number_of T.k_number_of T.n_number_of (L2N.takes_of rfl rfl rfl rfl) (ca_cons (ce_ixng 6 hu ce_int) ca_nil)) ce_none) sc_read_log.nd)
    (css_cons (cs_if (ct_w (cw_or (ct_cmp (cc_isNr (ce_var 7))) (cw_or (ct_not (ct_val (ce_call (ok_is_word T base) (hr.mono (by decide)) T.g_is_word T.k_is_word T.n_is_word (L2N.takes_of rfl rfl rfl rfl) (ca_cons (ce_ixng 6 hu ce_int) ca_nil)))) (cw_or1 (ct_not (ct_val (ce_call (ok_is_one_check_log T base) (hr.mono (by decide)) T.g_is_one T.k_is_one T.n_is_one (L2N.takes_of rfl rfl rfl rfl) (ca_cons (ce_fv T.g_check_log) (ca_cons (ce_tup (ca_star (cb_var 3) (ca_cons (ce_tup (ca_cons (ce_ixng 6 hu ce_int) (ca_cons (ce_var 7) ca_nil))) ca_nil))) ca_nil))))))))) (css_one (cs_raiseP (k := 0) rfl (L2N.takes_of rfl rfl rfl rfl) T.X_BadForm xp_BadForm (hr.mono (by decide)) T.gx_BadForm (ce_bin opp_add.c (ce_var 4) ce_int))) css_nil)
    (css_one (cs_expr (ce_append 3 (ce_tup (ca_cons (ce_ixng 6 hu ce_int) (ca_cons (ce_var 7) ca_nil))))))))))
    (css_cons (cs_if (ct_cmp (cc_of (opp_gt hu).c (ce_var 2) ce_int)) (css_one (cs_raiseP (k := 0) rfl (L2N.takes_of rfl rfl rfl rfl) T.X_BadForm xp_BadForm (hr.mono (by decide)) T.gx_BadForm (ce_var 2))) css_nil)
    (css_one (cs_ret (ce_tupc (cb_var 3) T.b_tuple)))))))
theorem ok_rows_told (T : Txt P K mg) (base : Heap) : FnG P w K mg base (L2N.CX P w) 1 T.a_rows_told T.d_rows_told ["text"] (spC ⟨K, w⟩ mg (F_rows_told T.ad) 1) := fnG_gap
theorem ok_told_read_log (T : Txt P K mg) (base : Heap) : FnG P w K mg base (L2.CX P w) 7 T.a_told T.d_told ["read", "text"] (spC ⟨K, w⟩ mg (F_told_read_log T.ad) 2) := by
  refine fn_clean2 T.u_told sc_told fun cdv A outer s H E μ hr => ?_
  have hu : (A.deeper (envOfC "told" (defScope s_told) s.heap.objs.size T.a_told cdv)).units + 100 < cLine := by
    have := hr.room.un
    omega
  exact (css_cons (cs_own 2 (cf_if (ct_cmp (cc_of (opp_eq hu).c (ce_var 1) ce_str)) (cf_lst ca_nil) (cf_split (ce_var 1) ce_str)) sc_told.nd)
    (css_one (cs_tryX rfl rfl ⟨rfl, by decide, Or.inl T.w_BadForm⟩ (ct5_f T) (L2H.passesAt_of rfl) (L2.takes_of rfl rfl rfl rfl) (fun _ _ _ tkS hot => (css_one (cs_raiseFrom hot tkS T.x_NotAllowed))) (fun _ _ _ tk po => (css_one (cs_ret (ce_callV 0 (f := T.a_read_log) (ok_read_log T base) (hr.mono (by decide)) T.k_read_log T.n_read_log tk (ca_cons (ce_join ce_str (cb_f (cf_lc (own := [("row", 3)]) rfl sc_told.nd (ci_of (ce_var 2)) (blkOk_by (N := ["read", "text", "rows", "row"]) (sc := defScope s_told) (by decide +kernel)) (by decide) (fun _ _ _ _ _ => (cg_name 3 sc_told.nd)) (fun _ _ _ _ _ => pts_yes) (fun _ _ _ _ _ _ _ => (ce_bin opp_add.c (ce_var 3) ce_str))))) ca_nil))))))))
theorem ok_Desk_asked (T : Txt P K mg) (base : Heap) : FnG P w K mg base (L2.CX P w) 8 T.a_Desk_asked T.d_Desk_asked ["self", "word", "parts"] (spC ⟨K, w⟩ mg (F_Desk_asked T.ad) 3) := by
  refine fn_clean2 T.u_Desk_asked sc_Desk_asked fun cdv A outer s H E μ hr => ?_
  have hu : (A.deeper (envOfC "Desk.asked" (defScope s_Desk_asked) s.heap.objs.size T.a_Desk_asked cdv)).units + 100 < cLine := by
    have := hr.room.un
    omega
  exact (css_cons (cs_set 3 (ce_fld T.K_Desk T.na_Desk_hall (ce_var 0)) sc_Desk_asked.nd)
    (css_cons (cs_if (ct_cmp (cc_of (opp_eq hu).c (ce_var 1) ce_str)) (css_one (cs_ret (ce_call (ok_listed T base) (hr.mono (by decide)) T.g_listed T.k_listed T.n_listed (takes_n (L2.takes_of rfl rfl rfl rfl)) (ca_cons (ce_f (cf_lc (own := [("name", 4), ("_", 5)]) rfl sc_Desk_asked.nd (ci_of (ce_meth0 T.K_Hall T.M_Hall_machines (ok_Hall_machines T base) (hr.mono (by decide)) T.n_Hall_machines (takes_n (L2.takes_of rfl rfl rfl rfl)) (ce_var 3))) (blkOk_by (N := ["self", "word", "parts", "hall", "name", "_", "row", "number", "log", "state", "names", "one"]) (sc := defScope s_Desk_asked) (by decide +kernel)) (by decide) (fun _ _ _ _ _ => (cg_tup rfl (cgs_cons (cg_name 4 sc_Desk_asked.nd) (cgs_cons (cg_name 5 sc_Desk_asked.nd) cgs_nil)) (unCons_len (unCons_len unNil_len)))) (fun _ _ _ _ _ => pts_yes) (fun _ _ _ _ _ _ _ => (ce_var 4)))) ca_nil)))) css_nil)
    (css_cons (cs_if (ct_cmp (cc_of (opp_eq hu).c (ce_var 1) ce_str)) (css_one (cs_ret (ce_call (ok_listed T base) (hr.mono (by decide)) T.g_listed T.k_listed T.n_listed (takes_n (L2.takes_of rfl rfl rfl rfl)) (ca_cons (ce_f (cf_lc (own := [("row", 6)]) rfl sc_Desk_asked.nd (ci_of (ce_meth0 T.K_Hall T.M_Hall_promises (ok_Hall_promises T base) (hr.mono (by decide)) T.n_Hall_promises (takes_n (L2.takes_of rfl rfl rfl rfl)) (ce_var 3))) (blkOk_by (N := ["self", "word", "parts", "hall", "name", "_", "row", "number", "log", "state", "names", "one"]) (sc := defScope s_Desk_asked) (by decide +kernel)) (by decide) (fun _ _ _ _ _ => (cg_name 6 sc_Desk_asked.nd)) (fun _ _ _ _ _ => pts_yes) (fun _ _ _ _ _ _ _ => (ce_ixng 6 hu ce_int)))) ca_nil)))) css_nil)
    (css_cons (cs_if (ct_cmp (cc_of (opp_eq hu).c (ce_var 1) ce_str)) (css_one (cs_ret (ce_call (ok_listed T base) (hr.mono (by decide)) T.g_listed T.k_listed T.n_listed (takes_n (L2.takes_of rfl rfl rfl rfl)) (ca_cons (ce_f (cf_lc (own := [("number", 7), ("name", 4), ("_", 5)]) rfl sc_Desk_asked.nd (ci_of (ce_meth0 T.K_Hall T.M_Hall_logs (ok_Hall_logs T base) (hr.mono (by decide)) T.n_Hall_logs (takes_n (L2.takes_of rfl rfl rfl rfl)) (ce_var 3))) (blkOk_by (N := ["self", "word", "parts", "hall", "name", "_", "row", "number", "log", "state", "names", "one"]) (sc := defScope s_Desk_asked) (by decide +kernel)) (by decide) (fun _ _ _ _ _ => (cg_tup rfl (cgs_cons (cg_name 7 sc_Desk_asked.nd) (cgs_cons (cg_name 4 sc_Desk_asked.nd) (cgs_cons (cg_name 5 sc_Desk_asked.nd) cgs_nil))) (unCons_len (unCons_len (unCons_len unNil_len))))) (fun _ _ _ _ _ => pts_yes) (fun _ _ _ _ _ _ _ => ce_no))) ca_nil)))) css_nil)
    (css_cons (cs_if (ct_cmp (cc_of (opp_eq hu).c (ce_var 1) ce_str)) (css_one (cs_ret (ce_strI (cb_of (ce_len (cb_of (ce_meth0 T.K_Hall T.M_Hall_image (ok_Hall_image T base) (hr.mono (by decide)) T.n_Hall_image (takes_n (L2.takes_of rfl rfl rfl rfl)) (ce_var 3))) T.b_len)) T.b_str))) css_nil)
    (css_cons (cs_if (ct_cmp (cc_of (opp_eq hu).c (ce_var 1) ce_str)) (css_one (cs_ret (ce_call (ok_rows_told T base) (hr.mono (by decide)) T.g_rows_told T.k_rows_told T.n_rows_told (takes_n (L2.takes_of rfl rfl rfl rfl)) (ca_cons (ce_call (ok_log_text T base) (hr.mono (by decide)) T.g_log_text T.k_log_text T.n_log_text (takes_n (L2.takes_of rfl rfl rfl rfl)) (ca_cons (ce_call (ok_least_good T base) (hr.mono (by decide)) T.g_least_good T.k_least_good T.n_least_good (takes_n (L2.takes_of rfl rfl rfl rfl)) (ca_cons (ce_meth T.K_Hall T.M_Hall_machine (ok_Hall_machine T base) (hr.mono (by decide)) T.n_Hall_machine (takes_n (L2.takes_of rfl rfl rfl rfl)) (ce_var 3) (ca_cons (ce_ixng 2 hu ce_int) ca_nil)) ca_nil)) ca_nil)) ca_nil)))) css_nil)
    (css_cons (cs_if (ct_cmp (cc_of (opp_eq hu).c (ce_var 1) ce_str)) (css_cons (cs_set 8 (ce_callL2 (ok_told_read_log T base) (hr.mono (by decide)) T.g_told T.k_told T.n_told (L2.takes_of rfl rfl rfl rfl) (ca_cons (ce_fv T.g_read_log) (ca_cons (ce_ixng 2 hu ce_int) ca_nil))) sc_Desk_asked.nd)
    (css_one (cs_ret (ce_if (ct_val (ce_call (ok_is_good T base) (hr.mono (by decide)) T.g_is_good T.k_is_good T.n_is_good (takes_n (L2.takes_of rfl rfl rfl rfl)) (ca_cons (ce_meth T.K_Hall T.M_Hall_machine (ok_Hall_machine T base) (hr.mono (by decide)) T.n_Hall_machine (takes_n (L2.takes_of rfl rfl rfl rfl)) (ce_var 3) (ca_cons (ce_ixng 2 hu ce_int) ca_nil)) (ca_cons (ce_var 8) ca_nil)))) ce_str ce_str)))) css_nil)
    (css_cons (cs_un (ce_meth T.K_Hall T.M_Hall_log (ok_Hall_log T base) (hr.mono (by decide)) T.n_Hall_log (takes_n (L2.takes_of rfl rfl rfl rfl)) (ce_var 3) (ca_cons (ce_ixng 2 hu ce_int) ca_nil)) (cg_tup rfl (cgs_cons (cg_name 4 sc_Desk_asked.nd) (cgs_cons (cg_name 8 sc_Desk_asked.nd) cgs_nil)) (unCons_len (unCons_len unNil_len))))
    css_no))))))))
theorem ok_Hall_drop_machine (T : Txt P K mg) (base : Heap) : FnG P w K mg base (L2N.CX P w) 3 T.a_Hall_drop_machine T.d_Hall_drop_machine ["self", "name"] (spC ⟨K, w⟩ mg (F_Hall_drop_machine T.ad) 2) := by
  refine fn_clean T.u_Hall_drop_machine sc_Hall_drop_machine fun cdv A outer s H E μ hr => ?_
  have hu : (A.deeper (envOfC "Hall.drop_machine" (defScope s_Hall_drop_machine) s.heap.objs.size T.a_Hall_drop_machine cdv)).units + 100 < cLine := by
    have := hr.room.un
    omega
  exact (css_cons (cs_expr (ce_meth T.K_Hall T.M_Hall_machine (ok_Hall_machine T base) (hr.mono (by decide)) T.n_Hall_machine (L2N.takes_of rfl rfl rfl rfl) (ce_var 0) (ca_cons (ce_var 1) ca_nil)))
    css_no)
theorem ok_Hall_give (T : Txt P K mg) (base : Heap) : FnG P w K mg base (L2N.CX P w) 3 T.a_Hall_give T.d_Hall_give ["self", "number"] (spC ⟨K, w⟩ mg (F_Hall_give T.ad) 2) := by
  refine fn_clean T.u_Hall_give sc_Hall_give fun cdv A outer s H E μ hr => ?_
  have hu : (A.deeper (envOfC "Hall.give" (defScope s_Hall_give) s.heap.objs.size T.a_Hall_give cdv)).units + 100 < cLine := by
    have := hr.room.un
    omega
  exact (css_cons (cs_expr (ce_meth T.K_Hall T.M_Hall_log (ok_Hall_log T base) (hr.mono (by decide)) T.n_Hall_log (L2N.takes_of rfl rfl rfl rfl) (ce_var 0) (ca_cons (ce_var 1) ca_nil)))
    css_no)
theorem ok_Hall_grow (T : Txt P K mg) (base : Heap) : FnG P w K mg base (L2N.CX P w) 3 T.a_Hall_grow T.d_Hall_grow ["self", "number", "events"] (spC ⟨K, w⟩ mg (F_Hall_grow T.ad) 3) := by
  refine fn_clean T.u_Hall_grow sc_Hall_grow fun cdv A outer s H E μ hr => ?_
  have hu : (A.deeper (envOfC "Hall.grow" (defScope s_Hall_grow) s.heap.objs.size T.a_Hall_grow cdv)).units + 100 < cLine := by
    have := hr.room.un
    omega
  exact (css_cons (cs_un (ce_meth T.K_Hall T.M_Hall_log (ok_Hall_log T base) (hr.mono (by decide)) T.n_Hall_log (L2N.takes_of rfl rfl rfl rfl) (ce_var 0) (ca_cons (ce_var 1) ca_nil)) (cg_tup rfl (cgs_cons (cg_name 3 sc_Hall_grow.nd) (cgs_cons (cg_name 4 sc_Hall_grow.nd) cgs_nil)) (unCons_len (unCons_len unNil_len))))
    css_no)
theorem ok_Hall_hold (T : Txt P K mg) (base : Heap) : FnG P w K mg base (L2N.CX P w) 3 T.a_Hall_hold T.d_Hall_hold ["self", "name", "log"] (spC ⟨K, w⟩ mg (F_Hall_hold T.ad) 3) := by
  refine fn_clean T.u_Hall_hold sc_Hall_hold fun cdv A outer s H E μ hr => ?_
  have hu : (A.deeper (envOfC "Hall.hold" (defScope s_Hall_hold) s.heap.objs.size T.a_Hall_hold cdv)).units + 100 < cLine := by
    have := hr.room.un
    omega
  exact (css_cons (cs_set 3 (ce_meth T.K_Hall T.M_Hall_machine (ok_Hall_machine T base) (hr.mono (by decide)) T.n_Hall_machine (L2N.takes_of rfl rfl rfl rfl) (ce_var 0) (ca_cons (ce_var 1) ca_nil)) sc_Hall_hold.nd)
    css_no)
theorem ok_check_label (T : Txt P K mg) (base : Heap) : FnG P w K mg base (L2N.CX P w) 2 T.a_check_label T.d_check_label ["name"] (spC ⟨K, w⟩ mg (F_check_label T.ad) 1) := by
  refine fn_clean T.u_check_label sc_check_label fun cdv A outer s H E μ hr => ?_
  have hu : (A.deeper (envOfC "check_label" (defScope s_check_label) s.heap.objs.size T.a_check_label cdv)).units + 100 < cLine := by
    have := hr.room.un
    omega
  exact (css_cons (cs_if (ct_not (ct_val (ce_call (ok_is_word T base) (hr.mono (by decide)) T.g_is_word T.k_is_word T.n_is_word (L2N.takes_of rfl rfl rfl rfl) (ca_cons (ce_var 0) ca_nil)))) (css_one (cs_raise rfl (L2N.takes_of rfl rfl rfl rfl) T.x_NotAllowed)) css_nil)
    (css_one (cs_ret ce_none)))
theorem ok_Hall_promise (T : Txt P K mg) (base : Heap) : FnG P w K mg base (L2N.CX P w) 3 T.a_Hall_promise T.d_Hall_promise ["self", "name", "first", "second"] (spC ⟨K, w⟩ mg (F_Hall_promise T.ad) 4) := by
  refine fn_clean T.u_Hall_promise sc_Hall_promise fun cdv A outer s H E μ hr => ?_
  have hu : (A.deeper (envOfC "Hall.promise" (defScope s_Hall_promise) s.heap.objs.size T.a_Hall_promise cdv)).units + 100 < cLine := by
    have := hr.room.un
    omega
  exact (css_cons (cs_expr (ce_call (ok_check_label T base) (hr.mono (by decide)) T.g_check_label T.k_check_label T.n_check_label (L2N.takes_of rfl rfl rfl rfl) (ca_cons (ce_var 1) ca_nil)))
    (css_cons (cs_expr (ce_meth T.K_Hall T.M_Hall_machine (ok_Hall_machine T base) (hr.mono (by decide)) T.n_Hall_machine (L2N.takes_of rfl rfl rfl rfl) (ce_var 0) (ca_cons (ce_var 2) ca_nil)))
    (css_cons (cs_expr (ce_meth T.K_Hall T.M_Hall_machine (ok_Hall_machine T base) (hr.mono (by decide)) T.n_Hall_machine (L2N.takes_of rfl rfl rfl rfl) (ce_var 0) (ca_cons (ce_var 3) ca_nil)))
    css_no)))
theorem ok_Hall_put_machine (T : Txt P K mg) (base : Heap) : FnG P w K mg base (L2N.CX P w) 1 T.a_Hall_put_machine T.d_Hall_put_machine ["self", "name", "machine"] (spC ⟨K, w⟩ mg (F_Hall_put_machine T.ad) 3) := fnG_gap
theorem ok_Hall_release (T : Txt P K mg) (base : Heap) : FnG P w K mg base (L2N.CX P w) 2 T.a_Hall_release T.d_Hall_release ["self", "name"] (spC ⟨K, w⟩ mg (F_Hall_release T.ad) 2) := by
  refine fn_clean T.u_Hall_release sc_Hall_release fun cdv A outer s H E μ hr => ?_
  have hu : (A.deeper (envOfC "Hall.release" (defScope s_Hall_release) s.heap.objs.size T.a_Hall_release cdv)).units + 100 < cLine := by
    have := hr.room.un
    omega
  exact (css_cons (cs_if (ct_cmp (cc_isNr (ce_call (ok_found_in T base) (hr.mono (by decide)) T.g_found_in T.k_found_in T.n_found_in (L2N.takes_of rfl rfl rfl rfl) (ca_cons (ce_ixg hu (ce_fld T.K_Hall T.na_Hall_now (ce_var 0)) ce_int) (ca_cons (ce_var 1) ca_nil))))) (css_one (cs_raise rfl (L2N.takes_of rfl rfl rfl rfl) T.x_Missing)) css_nil)
    css_no)
theorem ok_Hall_undo (T : Txt P K mg) (base : Heap) : FnG P w K mg base (L2N.CX P w) 1 T.a_Hall_undo T.d_Hall_undo ["self"] (spC ⟨K, w⟩ mg (F_Hall_undo T.ad) 1) := by
  refine fn_clean T.u_Hall_undo sc_Hall_undo fun cdv A outer s H E μ hr => ?_
  have hu : (A.deeper (envOfC "Hall.undo" (defScope s_Hall_undo) s.heap.objs.size T.a_Hall_undo cdv)).units + 100 < cLine := by
    have := hr.room.un
    omega
  exact (css_cons (cs_if (ct_cmp (cc_of (opp_eq hu).c (ce_len (cb_of (ce_fld T.K_Hall T.na_Hall_past (ce_var 0))) T.b_len) ce_int)) (css_one (cs_raise rfl (L2N.takes_of rfl rfl rfl rfl) T.x_Missing)) css_nil)
    css_no)
theorem ok_States___init__ (T : Txt P K mg) (base : Heap) : FnG P w K mg base (L2N.CX P w) 1 T.a_States___init__ T.d_States___init__ ["self", "words"] (spC ⟨K, w⟩ mg (F_States___init__ T.ad) 2) := by
  refine fn_clean T.u_States___init__ sc_States___init__ fun cdv A outer s H E μ hr => ?_
  have hu : (A.deeper (envOfC "States.__init__" (defScope s_States___init__) s.heap.objs.size T.a_States___init__ cdv)).units + 100 < cLine := by
    have := hr.room.un
    omega
  exact (css_cons (cs_fld T.K_States T.na_States_words (ce_var 0) (ce_var 1))
    (css_cons (cs_fld T.K_States T.na_States_found (ce_var 0) (ce_f (cf_lst ca_nil)))
    (css_one (cs_fld T.K_States T.na_States_left (ce_var 0) ce_int))))
theorem ok_States_take (T : Txt P K mg) (base : Heap) : FnG P w K mg base (L2N.CX P w) 1 T.a_States_take T.d_States_take ["self", "row"] (spC ⟨K, w⟩ mg (F_States_take T.ad) 2) := fnG_gap
theorem ok_rising (T : Txt P K mg) (base : Heap) : FnG P w K mg base (L2N.CX P w) 1 T.a_rising T.d_rising ["row"] (spC ⟨K, w⟩ mg (F_rising T.ad) 1) := by
  refine fn_clean T.u_rising sc_rising fun cdv A outer s H E μ hr => ?_
  have hu : (A.deeper (envOfC "rising" (defScope s_rising) s.heap.objs.size T.a_rising cdv)).units + 100 < cLine := by
    have := hr.room.un
    omega
  exact (css_one (cs_ret (ce_all rfl (cb_f (cf_lc (own := [("one", 1), ("other", 2)]) rfl sc_rising.nd (ci_zip T.b_zip (ce_var 0) (ce_sl (ce_var 0) (cp_some ce_int) cp_none)) (blkOk_by (N := ["row", "one", "other"]) (sc := defScope s_rising) (by decide +kernel)) (by decide) (fun _ _ _ _ _ => (cg_tup rfl (cgs_cons (cg_name 1 sc_rising.nd) (cgs_cons (cg_name 2 sc_rising.nd) cgs_nil)) (unCons_len (unCons_len unNil_len)))) (fun _ _ _ _ _ => pts_yes) (fun _ _ _ _ _ _ _ => (ce_cmp (cc_of (opp_lt hu).c (ce_var 1) (ce_var 2)))))) T.b_all)))
theorem ok_check_words (T : Txt P K mg) (base : Heap) : FnG P w K mg base (L2N.CX P w) 2 T.a_check_words T.d_check_words ["words"] (spC ⟨K, w⟩ mg (F_check_words T.ad) 1) := by
  refine fn_clean T.u_check_words sc_check_words fun cdv A outer s H E μ hr => ?_
  have hu : (A.deeper (envOfC "check_words" (defScope s_check_words) s.heap.objs.size T.a_check_words cdv)).units + 100 < cLine := by
    have := hr.room.un
    omega
  exact (css_cons (cs_if (ct_cmp (cc_of (opp_gt hu).c (ce_len (cb_var 0) T.b_len) ce_int)) (css_one (cs_raise rfl (L2N.takes_of rfl rfl rfl rfl) T.x_TooLarge)) css_nil)
    (css_cons (cs_if (ct_w (cw_or (ct_cmp (cc_of (opp_eq hu).c (ce_len (cb_var 0) T.b_len) ce_int)) (cw_or (ct_not (ct_val (ce_call (ok_rising T base) (hr.mono (by decide)) T.g_rising T.k_rising T.n_rising (L2N.takes_of rfl rfl rfl rfl) (ca_cons (ce_var 0) ca_nil)))) (cw_or1 (ct_not (ct_val (ce_all rfl (cb_f (cf_lc (own := [("word", 1)]) rfl sc_check_words.nd (ci_of (ce_var 0)) (blkOk_by (N := ["words", "word"]) (sc := defScope s_check_words) (by decide +kernel)) (by decide) (fun _ _ _ _ _ => (cg_name 1 sc_check_words.nd)) (fun _ _ _ _ _ => pts_yes) (fun _ _ _ _ _ _ _ => (ce_call (ok_is_word T base) (hr.mono (by decide)) T.g_is_word T.k_is_word T.n_is_word takes_q (ca_cons (ce_var 1) ca_nil))))) T.b_all))))))) (css_one (cs_raise rfl (L2N.takes_of rfl rfl rfl rfl) T.x_NotAllowed)) css_nil)
    (css_one (cs_ret ce_none))))
theorem ok_check_machine (T : Txt P K mg) (base : Heap) : FnG P w K mg base (L2N.CX P w) 3 T.a_check_machine T.d_check_machine ["machine"] (spC ⟨K, w⟩ mg (F_check_machine T.ad) 1) := by
  refine fn_clean T.u_check_machine sc_check_machine fun cdv A outer s H E μ hr => ?_
  have hu : (A.deeper (envOfC "check_machine" (defScope s_check_machine) s.heap.objs.size T.a_check_machine cdv)).units + 100 < cLine := by
    have := hr.room.un
    omega
  exact (css_cons (cs_un (ce_var 0) (cg_tup rfl (cgs_cons (cg_name 1 sc_check_machine.nd) (cgs_cons (cg_name 2 sc_check_machine.nd) cgs_nil)) (unCons_len (unCons_len unNil_len))))
    (css_cons (cs_expr (ce_call (ok_check_words T base) (hr.mono (by decide)) T.g_check_words T.k_check_words T.n_check_words (L2N.takes_of rfl rfl rfl rfl) (ca_cons (ce_var 1) ca_nil)))
    (css_cons (cs_if (ct_w (cw_or (ct_cmp (cc_of (opp_gt hu).c (ce_len (cb_var 2) T.b_len) (ce_glob (y := .int 12) (v := .int 12) T.c_MAX_STATES ⟨_, rfl⟩ (fun _ => den_int _)))) (cw_or1 (ct_val (ce_any rfl (cb_f (cf_lc (own := [("held", 3), ("_", 4)]) rfl sc_check_machine.nd (ci_of (ce_var 2)) (blkOk_by (N := ["machine", "words", "states", "held", "_", "good", "rules", "row", "at", "rule"]) (sc := defScope s_check_machine) (by decide +kernel)) (by decide) (fun _ _ _ _ _ => (cg_tup rfl (cgs_cons (cg_name 3 sc_check_machine.nd) (cgs_cons (cg_name 4 sc_check_machine.nd) (cgs_cons (cg_name 4 sc_check_machine.nd) cgs_nil))) (unCons_len (unCons_len (unCons_len unNil_len))))) (fun _ _ _ _ _ => pts_yes) (fun _ _ _ _ _ _ _ => (ce_cmp (cc_of (opp_gt hu).c (ce_var 3) (ce_glob (y := .int 3) (v := .int 3) T.c_MAX_HELD ⟨_, rfl⟩ (fun _ => den_int _))))))) T.b_any))))) (css_one (cs_raise rfl (L2N.takes_of rfl rfl rfl rfl) T.x_TooLarge)) css_nil)
    (css_cons (cs_if (ct_w (cw_or (ct_cmp (cc_of (opp_eq hu).c (ce_len (cb_var 2) T.b_len) ce_int)) (cw_or1 (ct_cmp (cc_of (opp_ne hu).c (ce_ixg hu (ce_ixng 2 hu ce_int) ce_int) ce_int))))) (css_one (cs_raise rfl (L2N.takes_of rfl rfl rfl rfl) T.x_NotAllowed)) css_nil)
    css_no))))
theorem ok_is_one_check_machine (T : Txt P K mg) (base : Heap) : FnG P w K mg base (L2N.CX P w) 4 T.a_is_one T.d_is_one ["check", "told"] (spC ⟨K, w⟩ mg (F_is_one_check_machine T.ad) 2) := by
  refine fn_clean T.u_is_one sc_is_one fun cdv A outer s H E μ hr => ?_
  have hu : (A.deeper (envOfC "is_one" (defScope s_is_one) s.heap.objs.size T.a_is_one cdv)).units + 100 < cLine := by
    have := hr.room.un
    omega
  exact (css_cons (cs_tryN rfl rfl (L2N.takes_of rfl rfl rfl rfl) (.cons ⟨rfl, by decide, Or.inl T.w_WardenError⟩ (ct4_f T) (fun _ _ _ => (css_one (cs_ret ce_bool))) .nil) (fun _ _ _ tk po => (css_one (cs_expr (ce_callV 0 (f := T.a_check_machine) (ok_check_machine T base) (hr.mono (by decide)) T.k_check_machine T.n_check_machine tk (ca_cons (ce_var 1) ca_nil))))))
    (css_one (cs_ret ce_bool)))
theorem ok_read_words (T : Txt P K mg) (base : Heap) : FnG P w K mg base (L2N.CX P w) 2 T.a_read_words T.d_read_words ["row", "word"] (spC ⟨K, w⟩ mg (F_read_words T.ad) 2) := by
  refine fn_clean T.u_read_words sc_read_words fun cdv A outer s H E μ hr => ?_
  have hu : (A.deeper (envOfC "read_words" (defScope s_read_words) s.heap.objs.size T.a_read_words cdv)).units + 100 < cLine := by
    have := hr.room.un
    omega
  exact (css_cons (cs_own 2 (cf_split (ce_var 0) ce_str) sc_read_words.nd)
    (css_cons (cs_if (ct_w (cw_or (ct_cmp (cc_of (opp_ne hu).c (ce_ixng 2 hu ce_int) (ce_var 1))) (cw_or1 (ct_not (ct_val (ce_all rfl (cb_f (cf_lc (own := [("one", 3)]) rfl sc_read_words.nd (ci_of (ce_f (cf_sl (ce_var 2) (cp_some ce_int) cp_none))) (blkOk_by (N := ["row", "word", "words", "one"]) (sc := defScope s_read_words) (by decide +kernel)) (by decide) (fun _ _ _ _ _ => (cg_name 3 sc_read_words.nd)) (fun _ _ _ _ _ => pts_yes) (fun _ _ _ _ _ _ _ => (ce_call (ok_is_word T base) (hr.mono (by decide)) T.g_is_word T.k_is_word T.n_is_word takes_q (ca_cons (ce_var 3) ca_nil))))) T.b_all)))))) (css_one (cs_ret ce_none)) css_nil)
    (css_one (cs_ret (ce_tupc (cb_f (cf_sl (ce_var 2) (cp_some ce_int) cp_none)) T.b_tuple)))))
theorem ok_read_machine (T : Txt P K mg) (base : Heap) : FnG P w K mg base (L2N.CX P w) 7 T.a_read_machine T.d_read_machine ["text"] (spC ⟨K, w⟩ mg (F_read_machine T.ad) 1) := by
  refine fn_clean T.u_read_machine sc_read_machine fun cdv A outer s H E μ hr => ?_
  have hu : (A.deeper (envOfC "read_machine" (defScope s_read_machine) s.heap.objs.size T.a_read_machine cdv)).units + 100 < cLine := by
    have := hr.room.un
    omega
  exact (css_cons (cs_un (ce_call (ok_rows_in T base) (hr.mono (by decide)) T.g_rows_in T.k_rows_in T.n_rows_in (L2N.takes_of rfl rfl rfl rfl) (ca_cons (ce_var 0) ca_nil)) (cg_tup rfl (cgs_cons (cg_name 1 sc_read_machine.nd) (cgs_cons (cg_name 2 sc_read_machine.nd) cgs_nil)) (unCons_len (unCons_len unNil_len))))
    (css_cons (cs_set 3 (ce_if (ct_cmp (cc_of (opp_gt hu).c (ce_len (cb_var 1) T.b_len) ce_int)) (ce_call (ok_read_words T base) (hr.mono (by decide)) T.g_read_words T.k_read_words T.n_read_words (L2N.takes_of rfl rfl rfl rfl) (ca_cons (ce_ixng 1 hu ce_int) (ca_cons ce_str ca_nil))) ce_none) sc_read_machine.nd)
    (css_cons (cs_if (ct_cmp (cc_isNr (ce_var 3))) (css_one (cs_raiseP (k := 0) rfl (L2N.takes_of rfl rfl rfl rfl) T.X_BadForm xp_BadForm (hr.mono (by decide)) T.gx_BadForm ce_int)) css_nil)
    (css_cons (cs_set 4 (ce_make T.K_States T.Mk_States (ok_States___init__ T base) (hr.mono (by decide)) T.n_States___init__ (L2N.takes_of rfl rfl rfl rfl) (ca_cons (ce_var 3) ca_nil)) sc_read_machine.nd)
    (css_cons (cs_for (passes_of rfl) rfl (ci_enum T.b_enumerate (ce_f (cf_sl (ce_var 1) (cp_some ce_int) cp_none))) (cg_tup rfl (cgs_cons (cg_name 5 sc_read_machine.nd) (cgs_cons (cg_name 6 sc_read_machine.nd) cgs_nil)) (unCons_len (unCons_len unNil_len)))
    (css_one (cs_if (ct_not (ct_val (ce_meth T.K_States T.M_States_take (ok_States_take T base) (hr.mono (by decide)) T.n_States_take (L2N.takes_of rfl rfl rfl rfl) (ce_var 4) (ca_cons (ce_var 6) ca_nil)))) (css_one (cs_raiseP (k := 0) rfl (L2N.takes_of rfl rfl rfl rfl) T.X_BadForm xp_BadForm (hr.mono (by decide)) T.gx_BadForm (ce_bin opp_add.c (ce_var 5) ce_int))) css_nil)))
    (css_cons (cs_if (ct_w (cw_or (ct_cmp (cc_of (opp_gt hu).c (ce_var 2) ce_int)) (cw_or (ct_cmp (cc_of (opp_gt hu).c (ce_fld T.K_States T.na_States_left (ce_var 4)) ce_int)) (cw_or1 (ct_not (ct_val (ce_call (ok_is_one_check_machine T base) (hr.mono (by decide)) T.g_is_one T.k_is_one T.n_is_one (L2N.takes_of rfl rfl rfl rfl) (ca_cons (ce_fv T.g_check_machine) (ca_cons (ce_tup (ca_cons (ce_var 3) (ca_cons (ce_tupc (cb_of (ce_fld T.K_States T.na_States_found (ce_var 4))) T.b_tuple) ca_nil))) ca_nil))))))))) (css_one (cs_raiseP (k := 0) rfl (L2N.takes_of rfl rfl rfl rfl) T.X_BadForm xp_BadForm (hr.mono (by decide)) T.gx_BadForm (ce_bin opp_add.c (ce_len (cb_var 1) T.b_len) ce_int))) css_nil)
    (css_one (cs_ret (ce_tup (ca_cons (ce_var 3) (ca_cons (ce_tupc (cb_of (ce_fld T.K_States T.na_States_found (ce_var 4))) T.b_tuple) ca_nil)))))))))))
theorem ok_told_read_machine (T : Txt P K mg) (base : Heap) : FnG P w K mg base (L2.CX P w) 8 T.a_told T.d_told ["read", "text"] (spC ⟨K, w⟩ mg (F_told_read_machine T.ad) 2) := by
  refine fn_clean2 T.u_told sc_told fun cdv A outer s H E μ hr => ?_
  have hu : (A.deeper (envOfC "told" (defScope s_told) s.heap.objs.size T.a_told cdv)).units + 100 < cLine := by
    have := hr.room.un
    omega
  exact (css_cons (cs_own 2 (cf_if (ct_cmp (cc_of (opp_eq hu).c (ce_var 1) ce_str)) (cf_lst ca_nil) (cf_split (ce_var 1) ce_str)) sc_told.nd)
    (css_one (cs_tryX rfl rfl ⟨rfl, by decide, Or.inl T.w_BadForm⟩ (ct5_f T) (L2H.passesAt_of rfl) (L2.takes_of rfl rfl rfl rfl) (fun _ _ _ tkS hot => (css_one (cs_raiseFrom hot tkS T.x_NotAllowed))) (fun _ _ _ tk po => (css_one (cs_ret (ce_callV 0 (f := T.a_read_machine) (ok_read_machine T base) (hr.mono (by decide)) T.k_read_machine T.n_read_machine tk (ca_cons (ce_join ce_str (cb_f (cf_lc (own := [("row", 3)]) rfl sc_told.nd (ci_of (ce_var 2)) (blkOk_by (N := ["read", "text", "rows", "row"]) (sc := defScope s_told) (by decide +kernel)) (by decide) (fun _ _ _ _ _ => (cg_name 3 sc_told.nd)) (fun _ _ _ _ _ => pts_yes) (fun _ _ _ _ _ _ _ => (ce_bin opp_add.c (ce_var 3) ce_str))))) ca_nil))))))))
theorem ok_Desk_changed (T : Txt P K mg) (base : Heap) : FnG P w K mg base (L2.CX P w) 9 T.a_Desk_changed T.d_Desk_changed ["self", "word", "parts"] (spC ⟨K, w⟩ mg (F_Desk_changed T.ad) 3) := by
  refine fn_clean2 T.u_Desk_changed sc_Desk_changed fun cdv A outer s H E μ hr => ?_
  have hu : (A.deeper (envOfC "Desk.changed" (defScope s_Desk_changed) s.heap.objs.size T.a_Desk_changed cdv)).units + 100 < cLine := by
    have := hr.room.un
    omega
  exact (css_cons (cs_set 3 (ce_fld T.K_Desk T.na_Desk_hall (ce_var 0)) sc_Desk_changed.nd)
    (css_cons (cs_if (ct_cmp (cc_of (opp_eq hu).c (ce_var 1) ce_str)) (css_one (cs_expr (ce_meth T.K_Hall T.M_Hall_put_machine (ok_Hall_put_machine T base) (hr.mono (by decide)) T.n_Hall_put_machine (takes_n (L2.takes_of rfl rfl rfl rfl)) (ce_var 3) (ca_cons (ce_ixng 2 hu ce_int) (ca_cons (ce_callL2 (ok_told_read_machine T base) (hr.mono (by decide)) T.g_told T.k_told T.n_told (L2.takes_of rfl rfl rfl rfl) (ca_cons (ce_fv T.g_read_machine) (ca_cons (ce_ixng 2 hu ce_int) ca_nil))) ca_nil))))) (css_one (cs_if (ct_cmp (cc_of (opp_eq hu).c (ce_var 1) ce_str)) (css_one (cs_expr (ce_meth T.K_Hall T.M_Hall_drop_machine (ok_Hall_drop_machine T base) (hr.mono (by decide)) T.n_Hall_drop_machine (takes_n (L2.takes_of rfl rfl rfl rfl)) (ce_var 3) (ca_cons (ce_ixng 2 hu ce_int) ca_nil)))) (css_one (cs_if (ct_cmp (cc_of (opp_eq hu).c (ce_var 1) ce_str)) (css_one (cs_ret (ce_strI (cb_of (ce_meth T.K_Hall T.M_Hall_hold (ok_Hall_hold T base) (hr.mono (by decide)) T.n_Hall_hold (takes_n (L2.takes_of rfl rfl rfl rfl)) (ce_var 3) (ca_cons (ce_ixng 2 hu ce_int) (ca_cons (ce_callL2 (ok_told_read_log T base) (hr.mono (by decide)) T.g_told T.k_told T.n_told (L2.takes_of rfl rfl rfl rfl) (ca_cons (ce_fv T.g_read_log) (ca_cons (ce_ixng 2 hu ce_int) ca_nil))) ca_nil)))) T.b_str))) (css_one (cs_if (ct_cmp (cc_of (opp_eq hu).c (ce_var 1) ce_str)) (css_one (cs_expr (ce_meth T.K_Hall T.M_Hall_grow (ok_Hall_grow T base) (hr.mono (by decide)) T.n_Hall_grow (takes_n (L2.takes_of rfl rfl rfl rfl)) (ce_var 3) (ca_cons (ce_ixng 2 hu ce_int) (ca_cons (ce_callL2 (ok_told_read_log T base) (hr.mono (by decide)) T.g_told T.k_told T.n_told (L2.takes_of rfl rfl rfl rfl) (ca_cons (ce_fv T.g_read_log) (ca_cons (ce_ixng 2 hu ce_int) ca_nil))) ca_nil))))) (css_one (cs_if (ct_cmp (cc_of (opp_eq hu).c (ce_var 1) ce_str)) (css_one (cs_expr (ce_meth T.K_Hall T.M_Hall_give (ok_Hall_give T base) (hr.mono (by decide)) T.n_Hall_give (takes_n (L2.takes_of rfl rfl rfl rfl)) (ce_var 3) (ca_cons (ce_ixng 2 hu ce_int) ca_nil)))) (css_one (cs_if (ct_cmp (cc_of (opp_eq hu).c (ce_var 1) ce_str)) (css_one (cs_expr (ce_meth T.K_Hall T.M_Hall_promise (ok_Hall_promise T base) (hr.mono (by decide)) T.n_Hall_promise (takes_n (L2.takes_of rfl rfl rfl rfl)) (ce_var 3) (ca_cons (ce_ixng 2 hu ce_int) (ca_cons (ce_ixng 2 hu ce_int) (ca_cons (ce_ixng 2 hu ce_int) ca_nil)))))) (css_one (cs_if (ct_cmp (cc_of (opp_eq hu).c (ce_var 1) ce_str)) (css_one (cs_expr (ce_meth T.K_Hall T.M_Hall_release (ok_Hall_release T base) (hr.mono (by decide)) T.n_Hall_release (takes_n (L2.takes_of rfl rfl rfl rfl)) (ce_var 3) (ca_cons (ce_ixng 2 hu ce_int) ca_nil)))) (css_one (cs_if (ct_cmp (cc_of (opp_eq hu).c (ce_var 1) ce_str)) (css_one (cs_expr (ce_meth0 T.K_Hall T.M_Hall_undo (ok_Hall_undo T base) (hr.mono (by decide)) T.n_Hall_undo (takes_n (L2.takes_of rfl rfl rfl rfl)) (ce_var 3)))) (css_one (cs_ret ce_none)))))))))))))))))
    (css_one (cs_ret ce_str))))
theorem ok_Hall___init__ (T : Txt P K mg) (base : Heap) : FnG P w K mg base (L2N.CX P w) 1 T.a_Hall___init__ T.d_Hall___init__ ["self"] (spC ⟨K, w⟩ mg (F_Hall___init__ T.ad) 1) := by
  refine fn_clean T.u_Hall___init__ sc_Hall___init__ fun cdv A outer s H E μ hr => ?_
  have hu : (A.deeper (envOfC "Hall.__init__" (defScope s_Hall___init__) s.heap.objs.size T.a_Hall___init__ cdv)).units + 100 < cLine := by
    have := hr.room.un
    omega
  exact (css_cons (cs_fld T.K_Hall T.na_Hall_now (ce_var 0) (ce_tup (ca_cons (ce_tup ca_nil) (ca_cons (ce_tup ca_nil) (ca_cons (ce_tup ca_nil) (ca_cons ce_int ca_nil))))))
    (css_one (cs_fld T.K_Hall T.na_Hall_past (ce_var 0) (ce_f (cf_lst ca_nil)))))
theorem ok_Desk_answered (T : Txt P K mg) (base : Heap) : FnG P w K mg base (L2.CX P w) 11 T.a_Desk_answered T.d_Desk_answered ["self", "word", "parts"] (spC ⟨K, w⟩ mg (F_Desk_answered T.ad) 3) := by
  refine fn_clean2 T.u_Desk_answered sc_Desk_answered fun cdv A outer s H E μ hr => ?_
  have hu : (A.deeper (envOfC "Desk.answered" (defScope s_Desk_answered) s.heap.objs.size T.a_Desk_answered cdv)).units + 100 < cLine := by
    have := hr.room.un
    omega
  exact (css_cons (cs_if (ct_cmp (cc_of (opp_eq hu).c (ce_var 1) ce_str)) (css_cons (cs_fld T.K_Desk T.na_Desk_hall (ce_var 0) (ce_make0 T.K_Hall T.Mk_Hall (ok_Hall___init__ T base) (hr.mono (by decide)) T.n_Hall___init__ (takes_n (L2.takes_of rfl rfl rfl rfl))))
    (css_one (cs_ret ce_str))) css_nil)
    (css_cons (cs_if (ct_cmp (cc_isNr (ce_fld T.K_Desk T.na_Desk_hall (ce_var 0)))) (css_one (cs_ret ce_str)) css_nil)
    (css_cons (cs_set 3 (ce_meth2 T.K_Desk T.M_Desk_changed (ok_Desk_changed T base) (hr.mono (by decide)) T.n_Desk_changed (L2.takes_of rfl rfl rfl rfl) (ce_var 0) (ca_cons (ce_var 1) (ca_cons (ce_var 2) ca_nil))) sc_Desk_answered.nd)
    (css_one (cs_ret (ce_if (ct_cmp (cc_isNr (ce_var 3))) (ce_meth2 T.K_Desk T.M_Desk_asked (ok_Desk_asked T base) (hr.mono (by decide)) T.n_Desk_asked (L2.takes_of rfl rfl rfl rfl) (ce_var 0) (ca_cons (ce_var 1) (ca_cons (ce_var 2) ca_nil))) (ce_var 3)))))))
theorem ok_read_number (T : Txt P K mg) (base : Heap) : FnG P w K mg base (L2N.CX P w) 1 T.a_read_number T.d_read_number ["text"] (spC ⟨K, w⟩ mg (F_read_number T.ad) 1) := by
  refine fn_clean T.u_read_number sc_read_number fun cdv A outer s H E μ hr => ?_
  have hu : (A.deeper (envOfC "read_number" (defScope s_read_number) s.heap.objs.size T.a_read_number cdv)).units + 100 < cLine := by
    have := hr.room.un
    omega
  exact (css_cons (cs_if (ct_w (cw_or (ct_not (ct_chain (opp_le hu).c (opp_le hu).c ce_int (ce_len (cb_var 0) T.b_len) ce_int)) (cw_or (ct_not (ct_val (ce_all rfl (cb_f (cf_lc (own := [("sign", 1)]) rfl sc_read_number.nd (ci_of (ce_var 0)) (blkOk_by (N := ["text", "sign"]) (sc := defScope s_read_number) (by decide +kernel)) (by decide) (fun _ _ _ _ _ => (cg_name 1 sc_read_number.nd)) (fun _ _ _ _ _ => pts_yes) (fun _ _ _ _ _ _ _ => (ce_cmp (cc_b (opb_inG hu) (ce_var 1) (cb_of ce_str)))))) T.b_all))) (cw_or1 (ct_cmp (cc_of (opp_eq hu).c (ce_ixng 0 hu ce_int) ce_str)))))) (css_one (cs_ret ce_none)) css_nil)
    (css_one (cs_ret (ce_intS (cb_var 0) T.b_int))))
theorem ok_numbered (T : Txt P K mg) (base : Heap) : FnG P w K mg base (L2N.CX P w) 2 T.a_numbered T.d_numbered ["word", "digits", "more"] (spC ⟨K, w⟩ mg (F_numbered T.ad) 3) := by
  refine fn_clean T.u_numbered sc_numbered fun cdv A outer s H E μ hr => ?_
  have hu : (A.deeper (envOfC "numbered" (defScope s_numbered) s.heap.objs.size T.a_numbered cdv)).units + 100 < cLine := by
    have := hr.room.un
    omega
  exact (css_cons (cs_set 3 (ce_call (ok_read_number T base) (hr.mono (by decide)) T.g_read_number T.k_read_number T.n_read_number (L2N.takes_of rfl rfl rfl rfl) (ca_cons (ce_var 1) ca_nil)) sc_numbered.nd)
    (css_one (cs_ret (ce_if (ct_cmp (cc_isNr (ce_var 3))) (ce_tup (ca_cons ce_str (ca_cons (ce_tup ca_nil) ca_nil))) (ce_tup (ca_cons (ce_var 0) (ca_cons (ce_tup (ca_cons (ce_var 3) (ca_star (cb_var 2) ca_nil))) ca_nil)))))))
theorem ok_read_line (T : Txt P K mg) (base : Heap) : FnG P w K mg base (L2N.CX P w) 3 T.a_read_line T.d_read_line ["row"] (spC ⟨K, w⟩ mg (F_read_line T.ad) 1) := by
  refine fn_clean T.u_read_line sc_read_line fun cdv A outer s H E μ hr => ?_
  have hu : (A.deeper (envOfC "read_line" (defScope s_read_line) s.heap.objs.size T.a_read_line cdv)).units + 100 < cLine := by
    have := hr.room.un
    omega
  exact (css_cons (cs_if (ct_w (cw_or (ct_cmp (cc_of (opp_eq hu).c (ce_var 0) ce_str)) (cw_or1 (ct_cmp (cc_b (opb_inG hu) (ce_var 0) (cb_of (ce_globT (xs := [.str "hall", .str "undo", .str "machines", .str "logs", .str "promises", .str "image"]) (vs := [.str "hall", .str "undo", .str "machines", .str "logs", .str "promises", .str "image"]) T.c_SINGLE T.q_SINGLE (fun _ => (.cons (den_str _) (.cons (den_str _) (.cons (den_str _) (.cons (den_str _) (.cons (den_str _) (.cons (den_str _) .nil)))))))))))))) (css_one (cs_ret (ce_tup (ca_cons (ce_var 0) (ca_cons (ce_tup ca_nil) ca_nil))))) css_nil)
    (css_cons (cs_own 1 (cf_split (ce_var 0) ce_str) sc_read_line.nd)
    (css_cons (cs_if (ct_w (cw_and (ct_cmp (cc_b (opb_inG hu) (ce_ixng 1 hu ce_int) (cb_of (ce_globT (xs := [.str "drop", .str "release", .str "least"]) (vs := [.str "drop", .str "release", .str "least"]) T.c_NAMED T.q_NAMED (fun _ => (.cons (den_str _) (.cons (den_str _) (.cons (den_str _) .nil)))))))) (cw_and1 (ct_cmp (cc_of (opp_eq hu).c (ce_len (cb_var 1) T.b_len) ce_int))))) (css_one (cs_ret (ce_tup (ca_cons (ce_ixng 1 hu ce_int) (ca_cons (ce_tup (ca_cons (ce_ixng 1 hu ce_int) ca_nil)) ca_nil))))) css_nil)
    (css_cons (cs_if (ct_w (cw_and (ct_cmp (cc_b (opb_inG hu) (ce_ixng 1 hu ce_int) (cb_of (ce_globT (xs := [.str "give", .str "text", .str "state"]) (vs := [.str "give", .str "text", .str "state"]) T.c_NUMBERED T.q_NUMBERED (fun _ => (.cons (den_str _) (.cons (den_str _) (.cons (den_str _) .nil)))))))) (cw_and1 (ct_cmp (cc_of (opp_eq hu).c (ce_len (cb_var 1) T.b_len) ce_int))))) (css_one (cs_ret (ce_call (ok_numbered T base) (hr.mono (by decide)) T.g_numbered T.k_numbered T.n_numbered (L2N.takes_of rfl rfl rfl rfl) (ca_cons (ce_ixng 1 hu ce_int) (ca_cons (ce_ixng 1 hu ce_int) (ca_cons (ce_tup ca_nil) ca_nil)))))) css_nil)
    (css_cons (cs_if (ct_w (cw_and (ct_cmp (cc_of (opp_eq hu).c (ce_ixng 1 hu ce_int) ce_str)) (cw_and1 (ct_cmp (cc_of (opp_eq hu).c (ce_len (cb_var 1) T.b_len) ce_int))))) (css_one (cs_ret (ce_tup (ca_cons ce_str (ca_cons (ce_tupc (cb_f (cf_sl (ce_var 1) (cp_some ce_int) cp_none)) T.b_tuple) ca_nil))))) css_nil)
    (css_cons (cs_if (ct_w (cw_and (ct_cmp (cc_b (opb_inG hu) (ce_ixng 1 hu ce_int) (cb_of (ce_tup (ca_cons ce_str (ca_cons ce_str (ca_cons ce_str ca_nil))))))) (cw_and1 (ct_cmp (cc_of (opp_gt hu).c (ce_len (cb_var 1) T.b_len) ce_int))))) (css_one (cs_ret (ce_tup (ca_cons (ce_ixng 1 hu ce_int) (ca_cons (ce_tup (ca_cons (ce_ixng 1 hu ce_int) (ca_cons (ce_join ce_str (cb_f (cf_sl (ce_var 1) (cp_some ce_int) cp_none))) ca_nil))) ca_nil))))) css_nil)
    (css_cons (cs_if (ct_w (cw_and (ct_cmp (cc_of (opp_eq hu).c (ce_ixng 1 hu ce_int) ce_str)) (cw_and1 (ct_cmp (cc_of (opp_gt hu).c (ce_len (cb_var 1) T.b_len) ce_int))))) (css_one (cs_ret (ce_call (ok_numbered T base) (hr.mono (by decide)) T.g_numbered T.k_numbered T.n_numbered (L2N.takes_of rfl rfl rfl rfl) (ca_cons ce_str (ca_cons (ce_ixng 1 hu ce_int) (ca_cons (ce_tup (ca_cons (ce_join ce_str (cb_f (cf_sl (ce_var 1) (cp_some ce_int) cp_none))) ca_nil)) ca_nil)))))) css_nil)
    (css_one (cs_ret (ce_tup (ca_cons ce_str (ca_cons (ce_tup ca_nil) ca_nil))))))))))))
theorem ok_Desk_run_row (T : Txt P K mg) (base : Heap) : FnG P w K mg base (L2.CX P w) 12 T.a_Desk_run_row T.d_Desk_run_row ["self", "row"] (spC ⟨K, w⟩ mg (F_Desk_run_row T.ad) 2) := by
  refine fn_clean2 T.u_Desk_run_row sc_Desk_run_row fun cdv A outer s H E μ hr => ?_
  have hu : (A.deeper (envOfC "Desk.run_row" (defScope s_Desk_run_row) s.heap.objs.size T.a_Desk_run_row cdv)).units + 100 < cLine := by
    have := hr.room.un
    omega
  exact (css_cons (cs_un (ce_call (ok_read_line T base) (hr.mono (by decide)) T.g_read_line T.k_read_line T.n_read_line (takes_n (L2.takes_of rfl rfl rfl rfl)) (ca_cons (ce_var 1) ca_nil)) (cg_tup rfl (cgs_cons (cg_name 2 sc_Desk_run_row.nd) (cgs_cons (cg_name 3 sc_Desk_run_row.nd) cgs_nil)) (unCons_len (unCons_len unNil_len))))
    (css_cons (cs_if (ct_cmp (cc_b (opb_inG hu) (ce_var 2) (cb_of (ce_tup (ca_cons ce_str (ca_cons ce_str ca_nil)))))) (css_one (cs_ret (ce_var 2))) css_nil)
    (css_one (cs_tryZ rfl rfl (L2.takes_of rfl rfl rfl rfl) (.skip ⟨rfl, by decide, Or.inl T.w_Broken⟩ (ct0_f T) ct0_n (.cons ⟨rfl, by decide, Or.inl T.w_NotAllowed⟩ (ct1_f T) (fun _ _ _ => (css_one (cs_ret ce_str))) (.cons ⟨rfl, by decide, Or.inl T.w_TooLarge⟩ (ct2_f T) (fun _ _ _ => (css_one (cs_ret ce_str))) (.cons ⟨rfl, by decide, Or.inl T.w_Missing⟩ (ct3_f T) (fun _ _ _ => (css_one (cs_ret ce_str))) .nil)))) (fun _ _ _ tk po => (css_one (cs_ret (ce_meth2 T.K_Desk T.M_Desk_answered (ok_Desk_answered T base) (hr.mono (by decide)) T.n_Desk_answered tk (ce_var 0) (ca_cons (ce_var 2) (ca_cons (ce_var 3) ca_nil))))))))))
theorem ok_run_script (T : Txt P K mg) (base : Heap) : FnG P w K mg base (L2N.CX P w) 14 T.a_run_script T.d_run_script ["text"] (spC ⟨K, w⟩ mg (F_run_script T.ad) 1) := by
  refine fn_clean T.u_run_script sc_run_script fun cdv A outer s H E μ hr => ?_
  have hu : (A.deeper (envOfC "run_script" (defScope s_run_script) s.heap.objs.size T.a_run_script cdv)).units + 100 < cLine := by
    have := hr.room.un
    omega
  exact (css_cons (cs_if (ct_cmp (cc_of (opp_gt hu).c (ce_len (cb_var 0) T.b_len) (ce_glob (y := .int 20000) (v := .int 20000) T.c_MAX_SIGNS ⟨_, rfl⟩ (fun _ => den_int _)))) (css_one (cs_raise rfl (L2N.takes_of rfl rfl rfl rfl) T.x_TooLarge)) css_nil)
    (css_cons (cs_own 1 (cf_split (ce_var 0) ce_str) sc_run_script.nd)
    (css_cons (cs_if (ct_cmp (cc_of (opp_gt hu).c (ce_len (cb_var 1) T.b_len) (ce_glob (y := .int 80) (v := .int 80) T.c_MAX_ROWS ⟨_, rfl⟩ (fun _ => den_int _)))) (css_one (cs_raise rfl (L2N.takes_of rfl rfl rfl rfl) T.x_TooLarge)) css_nil)
    (css_cons (cs_set 2 (ce_make0 T.K_Desk T.Mk_Desk (ok_Desk___init__ T base) (hr.mono (by decide)) T.n_Desk___init__ (L2N.takes_of rfl rfl rfl rfl)) sc_run_script.nd)
    (css_one (cs_ret (ce_f (cf_lc (own := [("row", 3)]) rfl sc_run_script.nd (ci_of (ce_var 1)) (blkOk_by (N := ["text", "rows", "desk", "row"]) (sc := defScope s_run_script) (by decide +kernel)) (by decide) (fun _ _ _ _ _ => (cg_name 3 sc_run_script.nd)) (fun _ _ _ _ _ => pts_yes) (fun _ _ _ _ _ _ _ => (ce_meth2 T.K_Desk T.M_Desk_run_row (ok_Desk_run_row T base) (hr.mono (by decide)) T.n_Desk_run_row L2.takes_none5 (ce_var 2) (ca_cons (ce_var 3) ca_nil)))))))))))
theorem ok__law_run (T : Txt P K mg) (base : Heap) : FnG P w K mg base (L2N.CX P w) 15 T.a__law_run T.d__law_run ["text"] (spC ⟨K, w⟩ mg (F__law_run T.ad) 1) := by
  refine fn_clean T.u__law_run sc__law_run fun cdv A outer s H E μ hr => ?_
  have hu : (A.deeper (envOfC "_law_run" (defScope s__law_run) s.heap.objs.size T.a__law_run cdv)).units + 100 < cLine := by
    have := hr.room.un
    omega
  exact (css_one (cs_tryA (i := 1) (m := (m_lr)) rfl rfl sc__law_run.nd ⟨rfl, by decide, Or.inl T.w_TooLarge⟩ (L2N.takes_of rfl rfl rfl rfl) T.x_TooLarge.gC T.xm_TooLarge_TooLarge (fun a oe pn zc fl => (css_one (cs_ret (ce_f (cf_mulE (cf_lst (ca_cons ce_str ca_nil)) (fun _ _ => ce_intc (cb_of (ce_and (ce_isE 1 (.head _) T.ec_TooLarge zc fl T.w_WardenError T.ki_TooLarge_WardenError T.b_isinstance) (ce_one (ce_not (ce_isE 1 (.head _) T.ec_TooLarge zc fl T.x_NotAllowed.gC T.ki_TooLarge_NotAllowed T.b_isinstance))))) T.b_int)))))) (fun a c hl => lr_eq a c hl) (fun _ _ _ tk po => (css_one (cs_ret (ce_callL (ok_run_script T base) (hr.mono (by decide)) T.g_run_script T.k_run_script T.n_run_script tk (ca_cons (ce_var 0) ca_nil)))))))
theorem ok__law_same (T : Txt P K mg) (base : Heap) : FnG P w K mg base (L2N.CX P w) 1 T.a__law_same T.d__law_same ["told_v", "due"] (spC ⟨K, w⟩ mg (F__law_same T.ad) 2) := by
  refine fn_clean T.u__law_same sc__law_same fun cdv A outer s H E μ hr => ?_
  have hu : (A.deeper (envOfC "_law_same" (defScope s__law_same) s.heap.objs.size T.a__law_same cdv)).units + 100 < cLine := by
    have := hr.room.un
    omega
  exact (css_one (cs_ret (ce_cmp (cc_of (opp_eq hu).c (ce_repr hr.gd hu (cb_f (cf_lst (ca_cons (ce_var 0) ca_nil))) T.b_repr) (ce_repr hr.gd hu (cb_f (cf_lst (ca_cons (ce_var 1) ca_nil))) T.b_repr)))))
theorem ok__law_stream (T : Txt P K mg) (base : Heap) : FnG P w K mg base (L2N.CX P w) 1 T.a__law_stream T.d__law_stream ["script"] (spC ⟨K, w⟩ mg (F__law_stream T.ad) 1) := by
  refine fn_clean T.u__law_stream sc__law_stream fun cdv A outer s H E μ hr => ?_
  have hu : (A.deeper (envOfC "_law_stream" (defScope s__law_stream) s.heap.objs.size T.a__law_stream cdv)).units + 100 < cLine := by
    have := hr.room.un
    omega
  exact (css_cons (cs_own 1 (cf_lst ca_nil) sc__law_stream.nd)
    (css_cons (cs_for (passes_of rfl) rfl (ci_of (ce_f (cf_sl (ce_var 0) cp_none (cp_some ce_int)))) (cg_name 2 sc__law_stream.nd)
    (css_cons (cs_set 3 (ce_abs (cb_of (ce_intc (cb_var 2) T.b_int)) T.b_abs) sc__law_stream.nd)
    (css_one (cs_if (ct_cmp (cc_of (opp_ge hu).c (ce_var 3) (ce_bin opp_pow.c ce_int ce_int))) (css_one (cs_for (passes_of rfl) rfl (ci_rg1 T.b_range ce_int) (cg_name 4 sc__law_stream.nd)
    (css_cons (cs_expr (ce_append 1 (ce_bin opp_mod.c (ce_intc (cb_var 3) T.b_int) ce_int)))
    (css_cons (cs_set 3 (ce_bin opp_div.c (ce_var 3) ce_int) sc__law_stream.nd)
    (css_one (cs_if (ct_cmp (cc_of (opp_eq hu).c (ce_var 3) ce_int)) (css_one cs_break) css_nil)))))) (css_cons (cs_set 5 (ce_bin opp_mod.c (ce_intc (cb_var 3) T.b_int) ce_int) sc__law_stream.nd)
    (css_one (cs_for (passes_of rfl) rfl (ci_rg1 T.b_range ce_int) (cg_name 4 sc__law_stream.nd)
    (css_cons (cs_set 5 (ce_bin opp_mod.c (ce_intc (cb_of (ce_bin opp_add.c (ce_bin opp_add.c (ce_bin opp_mulT.c (ce_var 5) ce_int) (ce_bin opp_mulT.c ce_int (ce_var 4))) ce_int)) T.b_int) ce_int) sc__law_stream.nd)
    (css_one (cs_expr (ce_append 1 (ce_bin opp_mod.c (ce_bin opp_mod.c (ce_intc (cb_of (ce_bin opp_add.c (ce_bin opp_mulT.c (ce_var 5) ce_int) (ce_var 4))) T.b_int) ce_int) ce_int))))))))))))
    (css_cons (cs_if (ct_cmp (cc_of (opp_eq hu).c (ce_len (cb_var 1) T.b_len) ce_int)) (css_one (cs_expr (ce_append 1 ce_int))) css_nil)
    (css_one (cs_ret (ce_var 1))))))
theorem ok_law (T : Txt P K mg) (base : Heap) : FnG P w K mg base (L2N.CX P w) 16 T.a_law T.d_law ["script"] (spC ⟨K, w⟩ mg (F_law T.ad) 1) := by
  refine fn_clean T.u_law sc_law fun cdv A outer s H E μ hr => ?_
  have hu : (A.deeper (envOfC "law" (defScope s_law) s.heap.objs.size T.a_law cdv)).units + 100 < cLine := by
    have := hr.room.un
    omega
  exact (css_cons (cs_set 1 (ce_newd (ca_cons (ce_call (ok__law_stream T base) (hr.mono (by decide)) T.g__law_stream T.k__law_stream T.n__law_stream (L2N.takes_of rfl rfl rfl rfl) (ca_cons (ce_var 0) ca_nil)) (ca_cons ce_int ca_nil))) sc_law.nd)
    (css_cons (cs_for (passes_of rfl) rfl (ci_rg1 T.b_range ce_int) (cg_name 2 sc_law.nd)
    (css_cons (cs_lcOwn 3 (own := [("k", 4)]) rfl sc_law.nd (ci_rg1 T.b_range (ce_bin opp_add.c ce_int (ce_call (ok__law_next T base) (hr.mono (by decide)) T.g__law_next T.k__law_next T.n__law_next (L2N.takes_of rfl rfl rfl rfl) (ca_cons (ce_var 1) (ca_cons ce_int ca_nil))))) (blkOk_by (N := ["script", "state", "turn", "rows", "k", "due", "row", "told_v", "bad", "limits"]) (sc := defScope s_law) (by decide +kernel)) (by decide) (fun _ _ _ _ _ => (cg_name 4 sc_law.nd)) (fun _ _ _ _ _ => pts_yes) (fun _ _ _ _ _ _ _ => (ce_call (ok__law_row T base) (hr.mono (by decide)) T.g__law_row T.k__law_row T.n__law_row takes_q (ca_cons (ce_var 1) ca_nil))) (sw_true rfl rfl rfl (by decide +kernel)))
    (css_cons (cs_lcOwn 5 (own := [("row", 6)]) rfl sc_law.nd (ci_of (ce_var 3)) (blkOk_by (N := ["script", "state", "turn", "rows", "k", "due", "row", "told_v", "bad", "limits"]) (sc := defScope s_law) (by decide +kernel)) (by decide) (fun _ _ _ _ _ => (cg_name 6 sc_law.nd)) (fun _ _ _ _ _ => pts_yes) (fun _ _ _ _ _ _ _ => (ce_bin opp_mulS.c (ce_ixg hu (ce_f (cf_lst (ca_cons ce_str (ca_cons ce_str ca_nil)))) (ce_intc (cb_of (ce_not (ce_callL (ok__law_has_form T base) (hr.mono (by decide)) T.g__law_has_form T.k__law_has_form T.n__law_has_form takes_q (ca_cons (ce_var 6) ca_nil)))) T.b_int)) (ce_intc (cb_of (ce_cmp (cc_of (opp_ne hu).c (ce_var 6) ce_str))) T.b_int))) (sw_true rfl rfl rfl (by decide +kernel)))
    (css_cons (cs_if (ct_not (ct_val (ce_call (ok__law_same T base) (hr.mono (by decide)) T.g__law_same T.k__law_same T.n__law_same (L2N.takes_of rfl rfl rfl rfl) (ca_cons (ce_callL (ok_run_script T base) (hr.mono (by decide)) T.g_run_script T.k_run_script T.n_run_script (L2N.takes_of rfl rfl rfl rfl) (ca_cons (ce_join ce_str (cb_var 3)) ca_nil)) (ca_cons (ce_var 5) ca_nil))))) (css_one (cs_ret ce_bool)) css_nil)
    (css_cons (cs_set 7 (ce_callL (ok_run_script T base) (hr.mono (by decide)) T.g_run_script T.k_run_script T.n_run_script (L2N.takes_of rfl rfl rfl rfl) (ca_cons (ce_join ce_str (cb_f (cf_cat (ce_f (cf_lst (ca_cons ce_str ca_nil))) (ce_var 3)))) ca_nil)) sc_law.nd)
    (css_one (cs_for (passes_of rfl) rfl (ci_rg1 T.b_range (ce_len (cb_var 3) T.b_len)) (cg_name 4 sc_law.nd)
    (css_cons (cs_set 8 (ce_and (ce_cmp (cc_of (opp_ne hu).c (ce_ixng 3 hu (ce_var 4)) ce_str)) (ce_one (ce_not (ce_callL (ok__law_has_form T base) (hr.mono (by decide)) T.g__law_has_form T.k__law_has_form T.n__law_has_form (L2N.takes_of rfl rfl rfl rfl) (ca_cons (ce_ixng 3 hu (ce_var 4)) ca_nil))))) sc_law.nd)
    (css_one (cs_if (ct_w (cw_or (ct_cmp (cc_of (opp_ne hu).c (ce_ixng 7 hu ce_int) ce_str)) (cw_or (ct_cmp (cc_of (opp_ne hu).c (ce_cmp (cc_of (opp_eq hu).c (ce_ixng 7 hu (ce_bin opp_add.c (ce_var 4) ce_int)) ce_str)) (ce_var 8))) (cw_or (ct_cmp (cc_of (opp_ne hu).c (ce_cmp (cc_of (opp_eq hu).c (ce_ixng 7 hu (ce_bin opp_add.c (ce_var 4) ce_int)) ce_str)) (ce_cmp (cc_of (opp_eq hu).c (ce_ixng 3 hu (ce_var 4)) ce_str)))) (cw_or1 (ct_cmp (cc_of (opp_eq hu).c (ce_ixng 7 hu (ce_bin opp_add.c (ce_var 4) ce_int)) ce_str))))))) (css_one (cs_ret ce_bool)) css_nil))))))))))
    (css_cons (cs_own 9 (cf_lst (ca_cons (ce_callL (ok__law_run T base) (hr.mono (by decide)) T.g__law_run T.k__law_run T.n__law_run (L2N.takes_of rfl rfl rfl rfl) (ca_cons (ce_bin opp_mulS.c ce_str ce_int) ca_nil)) (ca_cons (ce_callL (ok__law_run T base) (hr.mono (by decide)) T.g__law_run T.k__law_run T.n__law_run (L2N.takes_of rfl rfl rfl rfl) (ca_cons (ce_bin opp_mulS.c ce_str ce_int) ca_nil)) (ca_cons (ce_callL (ok__law_run T base) (hr.mono (by decide)) T.g__law_run T.k__law_run T.n__law_run (L2N.takes_of rfl rfl rfl rfl) (ca_cons (ce_bin opp_mulS.c ce_str ce_int) ca_nil)) (ca_cons (ce_callL (ok__law_run T base) (hr.mono (by decide)) T.g__law_run T.k__law_run T.n__law_run (L2N.takes_of rfl rfl rfl rfl) (ca_cons (ce_bin opp_mulS.c ce_str ce_int) ca_nil)) ca_nil))))) sc_law.nd)
    (css_one (cs_ret (ce_and (ce_cmp (cc_of (opp_eq hu).c (ce_var 9) (ce_f (cf_lst (ca_cons (ce_f (cf_mul (cf_lst (ca_cons ce_str ca_nil)))) (ca_cons (ce_f (cf_lst (ca_cons ce_str ca_nil))) (ca_cons (ce_f (cf_lst (ca_cons ce_str ca_nil))) (ca_cons (ce_f (cf_lst (ca_cons ce_str ca_nil))) ca_nil)))))))) (ce_one (ce_cmp (cc_of (opp_eq hu).c (ce_tup (ca_cons (ce_glob (y := .int 80) (v := .int 80) T.c_MAX_ROWS ⟨_, rfl⟩ (fun _ => den_int _)) (ca_cons (ce_glob (y := .int 20000) (v := .int 20000) T.c_MAX_SIGNS ⟨_, rfl⟩ (fun _ => den_int _)) ca_nil))) (ce_tup (ca_cons ce_int (ca_cons ce_int ca_nil))))))))))))
end
end Lw

set_option Elab.async false
set_option maxRecDepth 100000
set_option maxHeartbeats 4000000
namespace Lw
open PySem PySem.Spec PyProof.Rows L2 Cl
/-- where the defs stand that are handed on -/
def Ad0 : AdT := ⟨127, 142, 331, 393⟩
/-! ### all rows that are drawn -/
def rw0 : List Str := ["a", "any", "A", "", "-", "zz"]
def rn0 : List Str := ["0", "1", "7", "01", "-1", "9999", "10000", "", "x", "1.5"]
def rF : List Str := ["undo", "machines", "logs", "promises", "image", "image 1", "drop", "drop a b", "least", "state", "grow 1", "promise a b c", "promise a b", "machine a", "machine a ", "machine a words a", "hold a", "hold a -", "good a", "", " ", "open", "Hall"]
def rW (w : Str) : List Str := ["drop " ++ w, "release " ++ w, "least " ++ w, "promise a b " ++ w, "hold " ++ w ++ " open 1", "good " ++ w ++ " -"]
def rN (n : Str) : List Str := ["give " ++ n, "text " ++ n, "state " ++ n, "grow " ++ n ++ " open 1", "grow " ++ n ++ " "]
def RW : List Str := rF ++ rw0.flatMap rW ++ rn0.flatMap rN
/-! ### what the desk says of them -/
def desk0 : CO := .ins "Desk" [("hall", .d .none)]
def desk1 : CO := .ins "Desk" [("hall", .r 1)]
def hall1 : CO := .ins "Hall" [("now", .d (.tuple [.tuple [], .tuple [], .tuple [], .int 1])), ("past", .d (.list []))]
def strOf : FR → Option (Str × List CO)
  | .ok (.d (.str a)) hp => some (a, hp)
  | _ => none
def isD0 : List CO → Bool
  | [.ins c [(f, .d .none)]] => c == "Desk" && f == "hall"
  | _ => false
def isD1 : List CO → Bool
  | [.ins c [(f, .r 1)], .ins c2 [(f1, .d (.tuple [.tuple [], .tuple [], .tuple [], .int 1])), (f2, .d (.list []))]] => c == "Desk" && f == "hall" && c2 == "Hall" && f1 == "now" && f2 == "past"
  | _ => false
def boolOf : FR → Option Bool
  | .ok (.d (.bool b)) [] => some b
  | _ => none
def formB (r : Str) : Bool := (boolOf (F__law_has_form Ad0 [.d (.str r)] [])).getD false
def ans0 (r : Str) : Str := if r == "" then "" else if formB r then "none" else "bad"
def chk0 (r : Str) : Bool := match strOf (F_Desk_run_row Ad0 [.r 0, .d (.str r)] [desk0]) with
  | some (a, hp) => a == ans0 r && isD0 hp
  | none => false
def ans1 (r : Str) : Str := match strOf (F_Desk_run_row Ad0 [.r 0, .d (.str r)] [desk1, hall1]) with
  | some (a, _) => a
  | none => ""
def chk1 (r : Str) : Bool := match strOf (F_Desk_run_row Ad0 [.r 0, .d (.str r)] [desk1, hall1]) with
  | some (a, hp) => isD1 hp && ((a == "bad") == (!(r == "") && !formB r)) && ((a == "") == (r == "")) && !(a == "none")
  | none => false
def chkF (r : Str) : Bool := (boolOf (F__law_has_form Ad0 [.d (.str r)] [])).isSome
theorem all_chkF : RW.all chkF = true := by decide +kernel
theorem all_chk0 : RW.all chk0 = true := by decide +kernel
theorem all_chk1 : RW.all chk1 = true := by decide +kernel
end Lw

set_option Elab.async false
set_option maxRecDepth 100000
set_option maxHeartbeats 4000000
namespace Lw
open PySem PySem.Spec PyProof.Rows L2 Cl
open TL (tl spl mk_tl tl_mk len_tl joinL spl_join)
/-! ### from the checks to equations -/
theorem strOf_ok {x : FR} {a : Str} {hp : List CO} (h : strOf x = some (a, hp)) : x = .ok (.d (.str a)) hp := by
  unfold strOf at h
  split at h
  · cases h
    rfl
  · cases h
theorem isD0_ok {hp : List CO} (h : isD0 hp = true) : hp = [desk0] := by
  unfold isD0 at h
  split at h
  · rw [Bool.and_eq_true, beq_iff_eq, beq_iff_eq] at h
    obtain ⟨rfl, rfl⟩ := h
    rfl
  · cases h
theorem isD1_ok {hp : List CO} (h : isD1 hp = true) : hp = [desk1, hall1] := by
  unfold isD1 at h
  split at h
  · simp only [Bool.and_eq_true, beq_iff_eq] at h
    obtain ⟨⟨⟨⟨rfl, rfl⟩, rfl⟩, rfl⟩, rfl⟩ := h
    rfl
  · cases h
theorem boolOf_ok {x : FR} {b : Bool} (h : boolOf x = some b) : x = .ok (.d (.bool b)) [] := by
  unfold boolOf at h
  split at h
  · cases h
    rfl
  · cases h
theorem run0 {r : Str} (h : r ∈ RW) : F_Desk_run_row Ad0 [.r 0, .d (.str r)] [desk0] = .ok (.d (.str (ans0 r))) [desk0] := by
  have k := List.all_eq_true.mp all_chk0 r h
  unfold chk0 at k
  cases e : strOf (F_Desk_run_row Ad0 [.r 0, .d (.str r)] [desk0]) with
  | none => rw [e] at k; cases k
  | some z =>
    obtain ⟨a, hp⟩ := z
    rw [e] at k
    dsimp only at k
    rw [Bool.and_eq_true, beq_iff_eq] at k
    rw [strOf_ok e, k.1, isD0_ok k.2]
theorem run1 {r : Str} (h : r ∈ RW) : F_Desk_run_row Ad0 [.r 0, .d (.str r)] [desk1, hall1] = .ok (.d (.str (ans1 r))) [desk1, hall1] ∧
    ((ans1 r == "bad") == (!(r == "") && !formB r)) = true ∧ ((ans1 r == "") == (r == "")) = true ∧ (ans1 r == "none") = false := by
  have k := List.all_eq_true.mp all_chk1 r h
  unfold chk1 at k
  unfold ans1
  cases e : strOf (F_Desk_run_row Ad0 [.r 0, .d (.str r)] [desk1, hall1]) with
  | none => rw [e] at k; cases k
  | some z =>
    obtain ⟨a, hp⟩ := z
    rw [e] at k
    dsimp only at k ⊢
    simp only [Bool.and_eq_true] at k
    obtain ⟨⟨⟨k1, k2⟩, k3⟩, k4⟩ := k
    exact ⟨by rw [strOf_ok e, isD1_ok k1], k2, k3, by simpa using k4⟩
theorem form_eq {r : Str} (h : r ∈ RW) : F__law_has_form Ad0 [.d (.str r)] [] = .ok (.d (.bool (formB r))) [] := by
  have k := List.all_eq_true.mp all_chkF r h
  unfold chkF at k
  unfold formB
  cases e : boolOf (F__law_has_form Ad0 [.d (.str r)] []) with
  | none => rw [e] at k; cases k
  | some b => exact boolOf_ok e
theorem run_hall : F_Desk_run_row Ad0 [.r 0, .d (.str "hall")] [desk0] = .ok (.d (.str "ok")) [desk1, hall1] := by kernel_rfl
/-! ### rows one behind the other -/
def joinN (rs : List Str) : Str := mkS (joinL [10] (rs.map tl))
def noNl (r : Str) : Bool := (tl r).all (· != 10) && decide (r.length ≤ 30)
theorem all_noNl : RW.all noNl = true := by decide +kernel
theorem nl_ok {r : Str} (h : r ∈ RW) : (10 : Nat) ∉ tl r ∧ r.length ≤ 30 := by
  have k := List.all_eq_true.mp all_noNl r h
  unfold noNl at k
  rw [Bool.and_eq_true, decide_eq_true_eq] at k
  refine ⟨fun z => ?_, k.2⟩
  have := List.all_eq_true.mp k.1 10 z
  simp at this
theorem joinL_len {n : Nat} : ∀ {ps : List (List Nat)}, (∀ p ∈ ps, p.length ≤ n) → (joinL [10] ps).length ≤ ps.length * (n + 1)
  | [], _ => by simp [joinL]
  | [p], h => by
    have := h p (.head _)
    simp only [joinL, List.length_cons, List.length_nil]
    omega
  | p :: q :: r, h => by
    have h1 := h p (.head _)
    have h2 := joinL_len (n := n) (ps := q :: r) fun x m => h x (.tail _ m)
    simp only [joinL, List.length_append, List.length_cons, List.length_nil] at h2 ⊢
    rw [Nat.succ_mul]
    omega
theorem join_len {n : Nat} {rs : List Str} (h : ∀ r ∈ rs, r.length ≤ n) : (joinN rs).length ≤ rs.length * (n + 1) := by
  rw [len_tl]
  show (joinL [10] (rs.map tl)).length ≤ _
  have := joinL_len (n := n) (ps := rs.map tl) fun p m => by
    obtain ⟨r, hr, rfl⟩ := List.mem_map.mp m
    rw [← len_tl]
    exact h r hr
  rwa [List.length_map] at this
theorem split_rows {rs : List Str} (hne : rs ≠ []) (h : ∀ r ∈ rs, (10 : Nat) ∉ tl r) (hl : (joinN rs).length ≤ 20000) : splitS (joinN rs) "\n" = some (rs.map .str) := by
  unfold splitS
  rw [if_pos ⟨by decide, by omega, by decide +kernel⟩]
  have e : tl ("\n" : Str) = [10] := by kernel_rfl
  have e2 : tl (joinN rs) = joinL [10] (rs.map tl) := rfl
  rw [e, e2, spl_join (by simpa using hne) (fun p m => by
    obtain ⟨r, hr, rfl⟩ := List.mem_map.mp m
    exact h r hr), List.map_map]
  refine congrArg some (List.map_congr_left fun r _ => ?_)
  show PyData.str (mkS (tl r)) = .str r
  exact congrArg PyData.str (mk_tl r)
/-! ### the script -/
theorem gt_str {t : Str} {i : Nat} {k : Int} {sl : List Sl} {hp : List CO} (h : sl[i]? = some (.v (.d (.str t)))) (hl : t.length ≤ 16777216) :
    mTru (m2 (lift2 pGt) (mBind (mPeek i) gLen) (mC (.int k))) ⟨sl, hp⟩ = .ok (decide (k < (t.length : Nat))) ⟨sl, hp⟩ := by
  have e : mBind (mPeek i) gLen ⟨sl, hp⟩ = .ok (.d (.int (t.length : Nat))) ⟨sl, hp⟩ := by
    rw [mBind_ap, mPeek_ap, h, rdP_v, rb_ok]
    unfold gLen
    rw [gO_ap]
    show mOpt (Option.map _ (if t.length ≤ 16777216 then some t.length else none)) _ = _
    rw [if_pos hl]
    rfl
  rw [mTru_ap, m2_ap, e, rb_ok, mBind_ap, mC_ap, rb_ok, lift2_ap, pGt_int]
  rfl
theorem gt_own {xs : List PyData} {i : Nat} {k : Int} {sl : List Sl} {hp : List CO} (h : sl[i]? = some (.ol xs)) :
    mTru (m2 (lift2 pGt) (mBind (mPeek i) gLen) (mC (.int k))) ⟨sl, hp⟩ = .ok (decide (k < (xs.length : Nat))) ⟨sl, hp⟩ := by
  have e : mBind (mPeek i) gLen ⟨sl, hp⟩ = .ok (.d (.int (xs.length : Nat))) ⟨sl, hp⟩ := by
    rw [mBind_ap, mPeek_ap, h, rdP_ol, rb_ok]
    unfold gLen
    rw [gO_ap]
    rfl
  rw [mTru_ap, m2_ap, e, rb_ok, mBind_ap, mC_ap, rb_ok, lift2_ap, pGt_int]
  rfl
theorem split_ap {t : Str} {xs : List PyData} {sl : List Sl} {hp : List CO} (h : sl[0]? = some (.v (.d (.str t)))) (e : splitS t "\n" = some xs) : mSplit (mVar 0) (mC (.str "\n")) ⟨sl, hp⟩ = .ok xs ⟨sl, hp⟩ := by
  unfold mSplit
  rw [mBind_ap, mVar_ap, h, rdV_v, rb_ok, mBind_ap]
  show Res.bind (Res.ok t _) _ = _
  rw [rb_ok, mBind_ap, mC_ap, rb_ok, mBind_ap]
  show Res.bind (Res.ok ("\n" : Str) _) _ = _
  rw [rb_ok, e]
  rfl
theorem meth_ap {n : Nat} {F : Fn} {cn m : Str} {mo : Mo CV} {ma : Mo (List CV)} {c c1 c2 : CS} {x : CV} {xs : List CV} (e1 : mo c = .ok x c1) (e2 : chkI cn m x c1 = .ok () c1) (e3 : ma c1 = .ok xs c2) : mMeth n F cn m mo ma c = runF n F (x :: xs) c2 := by
  unfold mMeth
  rw [mBind_ap, e1, rb_ok, mBind_ap, e2, rb_ok, mBind_ap, e3, rb_ok]
theorem rs_run {t : Str} {rows : List Str} (H : List PyData → List CO) (ac : List PyData → List PyData) (hsp : splitS t "\n" = some (rows.map .str)) (hlen : t.length ≤ 20000) (hr : rows.length ≤ 80) (h0 : H [] = [desk0]) (a0 : ac [] = [])
    (hrun : ∀ pre r post, rows.map PyData.str = pre ++ .str r :: post → ∃ y, F_Desk_run_row Ad0 [.r 0, .d (.str r)] (H pre) = .ok (.d y) (H (pre ++ [.str r])) ∧ ac (pre ++ [.str r]) = ac pre ++ [y]) (hins : ∀ pre, ∃ z rest, H pre = .ins "Desk" [("hall", z)] :: rest) :
    ∃ hp, F_run_script Ad0 [.d (.str t)] [] = .ok (.d (.list (ac (rows.map .str)))) hp := by
  refine fn_wp (m := m_run_script Ad0) (n := 4) (P := fun r => ∃ hp, r = .ok (.d (.list (ac (rows.map .str)))) hp) ?_
  refine .seq (.iff (c1 := ⟨[.v (.d (.str t)), .un, .un, .un], []⟩) ?_ (.nx ?_))
  · refine (gt_str (t := t) (sl := [.v (.d (.str t)), .un, .un, .un]) (hp := []) rfl (by omega)).trans ?_
    rw [decide_eq_false (by omega)]
  refine .seq (.own (x := rows.map .str) (c1 := ⟨[.v (.d (.str t)), .un, .un, .un], []⟩) (split_ap rfl hsp) ?_)
  refine .seq (.iff (c1 := ⟨[.v (.d (.str t)), .ol (rows.map .str), .un, .un], []⟩) ?_ (.nx ?_))
  · refine (gt_own (xs := rows.map .str) (sl := [.v (.d (.str t)), .ol (rows.map .str), .un, .un]) (hp := []) rfl).trans ?_
    rw [List.length_map, decide_eq_false (by omega)]
  refine .seq (.set (x := .r 0) (c1 := ⟨[.v (.d (.str t)), .ol (rows.map .str), .un, .un], [desk0]⟩) rfl ?_)
  obtain ⟨acc, w, ⟨rfl, rfl⟩, e⟩ := lc_inv (mi := mItems (mVar 1)) (g := gN 3) (tt := mYes) (te := mMeth 2 (F_Desk_run_row Ad0) "Desk" "run_row" (mVar 2) (mCons (mVar 3) mNil)) (vs := [3]) (xs := rows.map .str)
    (c := ⟨[.v (.d (.str t)), .ol (rows.map .str), .v (.r 0), .un], [desk0]⟩) (c0 := ⟨[.v (.d (.str t)), .v (.d (.list (rows.map .str))), .v (.r 0), .un], [desk0]⟩) rfl (by rw [List.length_map]; omega)
    (fun pre acc w => acc = ac pre ∧ w = ⟨[.v (.d (.str t)), .v (.d (.list (rows.map .str))), .v (.r 0), .un], H pre⟩) ⟨a0.symm, by rw [h0]; rfl⟩ fun pre x post acc w ex ⟨ea, ew⟩ => by
      subst ea ew
      have hx : ∃ r, x = .str r := by
        have : x ∈ rows.map PyData.str := by rw [ex]; exact List.mem_append.mpr (.inr (.head _))
        obtain ⟨r, _, rfl⟩ := List.mem_map.mp this
        exact ⟨r, rfl⟩
      obtain ⟨r, rfl⟩ := hx
      obtain ⟨y, q1, q2⟩ := hrun pre r post ex
      obtain ⟨z, rest, hz⟩ := hins pre
      refine ⟨⟨[.v (.d (.str t)), .v (.d (.list (rows.map .str))), .v (.r 0), .v (.d (.str r))], H pre⟩, true, _, rfl, rfl, (fun h => by cases h), fun _ => ⟨y, ⟨[.v (.d (.str t)), .v (.d (.list (rows.map .str))), .v (.r 0), .v (.d (.str r))], H (pre ++ [.str r])⟩, ?_, q2.symm, rfl⟩⟩
      rw [hz] at q1 ⊢
      refine (meth_ap (n := 2) (F := F_Desk_run_row Ad0) (cn := "Desk") (m := "run_row") (mo := mVar 2) (ma := mCons (mVar 3) mNil) (x := .r 0) (xs := [.d (.str r)]) (c1 := ⟨[.v (.d (.str t)), .v (.d (.list (rows.map .str))), .v (.r 0), .v (.d (.str r))], .ins "Desk" [("hall", z)] :: rest⟩) (c2 := ⟨[.v (.d (.str t)), .v (.d (.list (rows.map .str))), .v (.r 0), .v (.d (.str r))], .ins "Desk" [("hall", z)] :: rest⟩) rfl (by kernel_rfl) rfl).trans ?_
      refine (runF_ap (n := 2) (F := F_Desk_run_row Ad0) (xs := [.r 0, .d (.str r)]) rfl).trans ?_
      rw [q1]
      rfl
  refine .ret (x := .d (.list (ac (rows.map .str)))) (c1 := restC [3] ⟨[.v (.d (.str t)), .v (.d (.list (rows.map .str))), .v (.r 0), .un], [desk0]⟩ ⟨[.v (.d (.str t)), .v (.d (.list (rows.map .str))), .v (.r 0), .un], H (rows.map .str)⟩) ?_ ⟨_, rfl⟩
  show Res.bind (mLc (mItems (mVar 1)) (gN 3) mYes (mMeth 2 (F_Desk_run_row Ad0) "Desk" "run_row" (mVar 2) (mCons (mVar 3) mNil)) [3] ⟨[.v (.d (.str t)), .ol (rows.map .str), .v (.r 0), .un], [desk0]⟩) _ = _
  rw [e]
  rfl
/-- no hall -/
theorem rs0 {rs : List Str} (hne : rs ≠ []) (hr : rs.length ≤ 80) (h : ∀ r ∈ rs, r ∈ RW) : ∃ hp, F_run_script Ad0 [.d (.str (joinN rs))] [] = .ok (.d (.list (rs.map fun r => .str (ans0 r)))) hp := by
  have hl := join_len (n := 30) fun r m => (nl_ok (h r m)).2
  have hl2 : (joinN rs).length ≤ 20000 := by
    have := Nat.mul_le_mul hr (Nat.le_refl 31)
    omega
  have hs := split_rows hne (fun r m => (nl_ok (h r m)).1) hl2
  let f : PyData → PyData := fun x => match x with
    | .str r => .str (ans0 r)
    | x => x
  obtain ⟨hp, e⟩ := rs_run (fun _ => [desk0]) (fun pre => pre.map f) hs hl2 hr rfl rfl (fun pre r post ex => by
    have m : r ∈ rs := by
      have : PyData.str r ∈ rs.map PyData.str := by rw [ex]; exact List.mem_append.mpr (.inr (.head _))
      obtain ⟨q, hq, eq⟩ := List.mem_map.mp this
      cases eq
      exact hq
    exact ⟨_, run0 (h r m), by rw [List.map_append]; rfl⟩) fun _ => ⟨_, _, rfl⟩
  refine ⟨hp, e.trans ?_⟩
  rw [List.map_map]
  rfl
/-- with a hall -/
theorem rs1 {rs : List Str} (hr : rs.length ≤ 79) (h : ∀ r ∈ rs, r ∈ RW) : ∃ hp, F_run_script Ad0 [.d (.str (joinN ("hall" :: rs)))] [] = .ok (.d (.list (.str "ok" :: rs.map fun r => .str (ans1 r)))) hp := by
  have hh : (10 : Nat) ∉ tl ("hall" : Str) ∧ ("hall" : Str).length ≤ 30 := by decide +kernel
  have hall : ∀ r ∈ ("hall" : Str) :: rs, (10 : Nat) ∉ tl r ∧ r.length ≤ 30 := fun r m => by
    rcases List.mem_cons.mp m with rfl | m
    · exact hh
    · exact nl_ok (h r m)
  have hl := join_len (n := 30) fun r m => (hall r m).2
  have hl2 : (joinN ("hall" :: rs)).length ≤ 20000 := by
    rw [List.length_cons] at hl
    have := Nat.mul_le_mul (show rs.length + 1 ≤ 80 by omega) (Nat.le_refl 31)
    omega
  have hs := split_rows (by simp) (fun r m => (hall r m).1) hl2
  let f : PyData → PyData := fun x => match x with
    | .str r => .str (ans1 r)
    | x => x
  let ac : List PyData → List PyData := fun pre => match pre with
    | [] => []
    | _ :: p => .str "ok" :: p.map f
  let H : List PyData → List CO := fun pre => match pre with
    | [] => [desk0]
    | _ => [desk1, hall1]
  obtain ⟨hp, e⟩ := rs_run H ac hs hl2 (by rw [List.length_cons]; omega) rfl rfl (fun pre r post ex => by
    cases pre with
    | nil =>
      have e1 : PyData.str ("hall" : Str) :: rs.map PyData.str = .str r :: post := ex
      injection e1 with e2 e3
      injection e2 with e4
      subst e4
      exact ⟨_, run_hall, rfl⟩
    | cons p pre =>
      have e1 : PyData.str ("hall" : Str) :: rs.map PyData.str = p :: (pre ++ .str r :: post) := ex
      injection e1 with e2 e3
      have m : r ∈ rs := by
        have : PyData.str r ∈ rs.map PyData.str := by rw [e3]; exact List.mem_append.mpr (.inr (.head _))
        obtain ⟨q, hq, eq⟩ := List.mem_map.mp this
        cases eq
        exact hq
      refine ⟨_, (run1 (h r m)).1, ?_⟩
      show PyData.str "ok" :: (pre ++ [PyData.str r]).map f = (PyData.str "ok" :: pre.map f) ++ [PyData.str (ans1 r)]
      rw [List.map_append]
      rfl) fun pre => by
    cases pre with
    | nil => exact ⟨_, _, rfl⟩
    | cons _ _ => exact ⟨_, _, rfl⟩
  refine ⟨hp, e.trans ?_⟩
  show FR.ok (.d (.list (.str "ok" :: (rs.map PyData.str).map f))) hp = _
  rw [List.map_map]
  rfl
end Lw

set_option Elab.async false
set_option maxRecDepth 100000
set_option maxHeartbeats 4000000
namespace Lw
open PySem PySem.Spec PyProof.Rows L2 Cl
theorem next_is : F__law_next Ad0 = F_next := rfl
theorem sFor_congr {m m' : Mo (List PyData)} {g : Tg} {b : MS} {c : CS} (h : m c = m' c) : sFor m g b c = sFor m' g b c := by
  unfold sFor sBind
  rw [h]
theorem fin_is {m : MS} {n : Nat} {xs : List CV} {hp : List CO} : fnOf m n xs hp = fin (m ⟨xs.map .v ++ List.replicate (n - xs.length) .un, hp⟩) := rfl
theorem seq_congr {a a' b : MS} {c : CS} (h : a c = a' c) : sSeq a b c = sSeq a' b c := by
  unfold sSeq
  rw [h]
theorem seq_nx {a b b' : MS} {c c1 : CS} (h : a c = .nx c1) (e : b c1 = b' c1) : sSeq a b c = sSeq a b' c := by
  unfold sSeq
  rw [h]
  exact e
theorem stream_is {xs : List PyData} {hp : List CO} : F__law_stream Ad0 [.d (.list xs)] hp = F_stream [.d (.list xs)] hp := by
  refine (fin_is (m := m__law_stream Ad0) (n := 6)).trans (Eq.trans ?_ (fin_is (m := m_stream) (n := 6)).symm)
  refine congrArg fin (seq_nx (c1 := ⟨[.v (.d (.list xs)), .ol [], .un, .un, .un, .un], hp⟩) rfl (seq_congr (sFor_congr ?_)))
  rfl
structure Strm (nums : List Int) : Prop where
  ne : nums ≠ []
  le : nums.length ≤ 4000
variable {nums : List Int}
theorem call_ok {n : Nat} {F : Fn} {ma : Mo (List CV)} {c : CS} {args : List CV} {sl : List Sl} {hp hp' : List CO} {x : CV} (ha : ma c = .ok args ⟨sl, hp⟩) (hn : args.length = n) (e : F args hp = .ok x hp') : mCall n F ma c = .ok x ⟨sl, hp'⟩ := by
  rw [mCall_ap, ha, rb_ok, runF_ap hn, e]
  rfl
theorem callL_ok {n : Nat} {F : Fn} {ma : Mo (List CV)} {c : CS} {args : List CV} {c1 : CS} {hp' : List CO} {x : PyData} (ha : ma c = .ok args c1) (hn : args.length = n) (hr : noR args = true) (e : F args [] = .ok (.d x) hp') : mCallL n F ma c = .ok (.d x) c1 := by
  unfold mCallL
  rw [mBind_ap, ha, rb_ok]
  unfold runL
  rw [if_pos ⟨hn, hr⟩, e]
theorem callL_ex {n : Nat} {F : Fn} {ma : Mo (List CV)} {c : CS} {args : List CV} {c1 : CS} {hp' : List CO} {x : XC} (ha : ma c = .ok args c1) (hn : args.length = n) (hr : noR args = true) (e : F args [] = .ex x hp') : mCallL n F ma c = .ex x c1 := by
  unfold mCallL
  rw [mBind_ap, ha, rb_ok]
  unfold runL
  rw [if_pos ⟨hn, hr⟩, e]
theorem nxt (h : Strm nums) {k m : Nat} {rest : List CO} (hk : k ≤ 100000) (hm : 0 < m) : ∃ v : Nat, v < m ∧ F__law_next Ad0 [.r 0, .d (.int (m : Nat))] (stO nums (k : Nat) :: rest) = .ok (.d (.int (v : Nat))) (stO nums ((k + 1 : Nat) : Int) :: rest) := by
  have e := next_eq (hp := stO nums (k : Nat) :: rest) (n := 0) (nums := nums) (c := (k : Nat)) (m := (m : Nat)) h.ne h.le (by omega) (by omega) (by omega) rfl
  have b0 : 0 ≤ nextV nums (k : Nat) (m : Nat) := Int.emod_nonneg _ (by omega)
  have b1 : nextV nums (k : Nat) (m : Nat) < m := Int.emod_lt_of_pos _ (by omega)
  refine ⟨(nextV nums (k : Nat) (m : Nat)).toNat, by omega, ?_⟩
  rw [next_is, e, show (((nextV nums (k : Nat) (m : Nat)).toNat : Nat) : Int) = nextV nums (k : Nat) (m : Nat) by omega]
  rfl
theorem atI_nat {α : Type} {xs : List α} {v : Nat} (h : v < xs.length) : L2.atI xs (v : Nat) = some xs[v] := by
  unfold L2.atI L2.ixN
  rw [if_pos (by omega), if_pos (by omega)]
  show xs[((v : Nat) : Int).toNat]? = _
  rw [Int.toNat_natCast, List.getElem?_eq_getElem h]
theorem one_eq (h : Strm nums) {k : Nat} {rest : List CO} {rows : List Str} (hk : k ≤ 100000) (hr : rows ≠ []) (hl : rows.length ≤ 1000) :
    ∃ r ∈ rows, F__law_one Ad0 [.r 0, .d (.list (rows.map .str))] (stO nums (k : Nat) :: rest) = .ok (.d (.str r)) (stO nums ((k + 1 : Nat) : Int) :: rest) := by
  obtain ⟨v, hv, e⟩ := nxt h (k := k) (m := rows.length) (rest := rest) hk (List.length_pos_iff.mpr hr)
  refine ⟨rows[v], List.getElem_mem hv, ?_⟩
  have ev : mCall 2 (F__law_next Ad0) (mCons (mVar 0) (mCons (mBind (mPeek 1) gLen) mNil)) ⟨[.v (.r 0), .v (.d (.list (rows.map .str)))], stO nums (k : Nat) :: rest⟩ = .ok (.d (.int (v : Nat))) ⟨[.v (.r 0), .v (.d (.list (rows.map .str)))], stO nums ((k + 1 : Nat) : Int) :: rest⟩ := by
    refine call_ok (args := [.r 0, .d (.int (rows.length : Nat))]) ?_ rfl e
    show Res.ok [CV.r 0, .d (.int ((rows.map PyData.str).length : Nat))] _ = _
    rw [List.length_map]
  have ix := ixg_list (xs := rows.map PyData.str) (i := (v : Nat)) (x := .str rows[v]) (c := ⟨[.v (.r 0), .v (.d (.list (rows.map .str)))], stO nums ((k + 1 : Nat) : Int) :: rest⟩) (by
    rw [atI_nat (by rw [List.length_map]; exact hv), List.getElem_map])
  refine fn_wp (m := m__law_one Ad0) (n := 2) (P := fun r => r = .ok (.d (.str rows[v])) (stO nums ((k + 1 : Nat) : Int) :: rest)) ?_
  refine .ret (x := .d (.str rows[v])) (c1 := ⟨[.v (.r 0), .v (.d (.list (rows.map .str)))], stO nums ((k + 1 : Nat) : Int) :: rest⟩) ?_ rfl
  rw [mIxNG_ap]
  show Res.bind (Res.ok _ (⟨[.v (.r 0), .v (.d (.list (rows.map .str)))], stO nums (k : Nat) :: rest⟩ : CS)) _ = _
  rw [rb_ok, mBind_ap]
  show Res.bind (mCall 2 (F__law_next Ad0) (mCons (mVar 0) (mCons (mBind (mPeek 1) gLen) mNil)) ⟨[.v (.r 0), .v (.d (.list (rows.map .str)))], stO nums (k : Nat) :: rest⟩) _ = _
  rw [ev, rb_ok]
  exact ix
/-! ### the rows -/
def rA (w : Str) : List Str := ["undo", "machines", "logs", "promises", "image", "image 1", "drop " ++ w, "drop", "drop a b", "release " ++ w, "least " ++ w, "least"]
def rB (n : Str) : List Str := ["give " ++ n, "text " ++ n, "state " ++ n, "state", "grow " ++ n ++ " open 1", "grow 1"]
def rC (w n : Str) : List Str := ["grow " ++ n ++ " ", "promise a b c", "promise a b", "promise a b " ++ w]
def rD (w : Str) : List Str := ["machine a", "machine a ", "machine a words a", "hold a", "hold a -", "hold " ++ w ++ " open 1", "good a", "good " ++ w ++ " -", "", " ", "open", "Hall"]
def inRW (r : Str) : Bool := RW.any (· == r)
theorem inRW_mem {r : Str} (h : inRW r = true) : r ∈ RW := by
  obtain ⟨x, m, e⟩ := List.any_eq_true.mp h
  rw [beq_iff_eq] at e
  exact e ▸ m
theorem all_A : (rw0.all fun w => (rA w).all inRW && (rD w).all inRW && rn0.all fun n => (rC w n).all inRW) = true := by decide +kernel
theorem all_B : (rn0.all fun n => (rB n).all inRW) = true := by decide +kernel
theorem rows_mem {w n r : Str} (hw : w ∈ rw0) (hn : n ∈ rn0) (h : r ∈ rA w ++ rB n ++ rC w n ++ rD w) : r ∈ RW := by
  have ka := List.all_eq_true.mp all_A w hw
  have kb := List.all_eq_true.mp all_B n hn
  rw [Bool.and_eq_true, Bool.and_eq_true] at ka
  have kc := List.all_eq_true.mp ka.2 n hn
  apply inRW_mem
  simp only [List.mem_append] at h
  rcases h with ((h | h) | h) | h
  · exact List.all_eq_true.mp ka.1.1 r h
  · exact List.all_eq_true.mp kb r h
  · exact List.all_eq_true.mp kc r h
  · exact List.all_eq_true.mp ka.1.2 r h
end Lw

set_option Elab.async false
set_option maxRecDepth 100000
set_option maxHeartbeats 4000000
namespace Lw
open PySem PySem.Spec PyProof.Rows L2 Cl
variable {nums : List Int}
theorem pAdd_s {s t : Str} (h : s.length + t.length ≤ 16777216) : pAdd (.str s) (.str t) = some (.str (s ++ t)) := by
  show (if s.length + t.length ≤ 16777216 then some (PyData.str (s ++ t)) else none) = _
  rw [if_pos h]
def shortS (n : Nat) (s : Str) : Prop := s.length ≤ n
theorem rw0_len : (rw0.all fun w => decide (w.length ≤ 10)) = true := by decide +kernel
theorem rn0_len : (rn0.all fun w => decide (w.length ≤ 10)) = true := by decide +kernel
theorem cat_ok {ma mb : Mo CV} {xs ys : List PyData} {c c1 c2 : CS} (h1 : ma c = .ok (.d (.list xs)) c1) (h2 : mb c1 = .ok (.d (.list ys)) c2) (hl : xs.length + ys.length ≤ 16777216) : mCat ma mb c = .ok (xs ++ ys) c2 := by
  unfold mCat
  rw [mBind_ap, h1, rb_ok, mBind_ap, h2, rb_ok]
  show mOpt (if xs.length + ys.length ≤ 16777216 then some (xs ++ ys) else none) c2 = _
  rw [if_pos hl]
  rfl
theorem stepA {w : Str} (hw : w ∈ rw0) {x y : Sl} {hp : List CO} : mLst (mCons (mC (.str "undo")) (mCons (mC (.str "machines")) (mCons (mC (.str "logs")) (mCons (mC (.str "promises")) (mCons (mC (.str "image")) (mCons (mC (.str "image 1")) (mCons (m2 (lift2 pAdd) (mC (.str "drop ")) (mVar 1)) (mCons (mC (.str "drop")) (mCons (mC (.str "drop a b")) (mCons (m2 (lift2 pAdd) (mC (.str "release ")) (mVar 1)) (mCons (m2 (lift2 pAdd) (mC (.str "least ")) (mVar 1)) (mCons (mC (.str "least")) mNil)))))))))))) ⟨[.v (.r 0), .v (.d (.str w)), x, y], hp⟩ = .ok ((rA w).map .str) ⟨[.v (.r 0), .v (.d (.str w)), x, y], hp⟩ := by
  simp only [rw0, List.mem_cons, List.not_mem_nil, or_false] at hw
  rcases hw with rfl | rfl | rfl | rfl | rfl | rfl <;> kernel_rfl
theorem stepB {n : Str} (hn : n ∈ rn0) {w : Str} {y : Sl} {hp : List CO} : mFz (mLst (mCons (m2 (lift2 pAdd) (mC (.str "give ")) (mVar 2)) (mCons (m2 (lift2 pAdd) (mC (.str "text ")) (mVar 2)) (mCons (m2 (lift2 pAdd) (mC (.str "state ")) (mVar 2)) (mCons (mC (.str "state")) (mCons (m2 (lift2 pAdd) (m2 (lift2 pAdd) (mC (.str "grow ")) (mVar 2)) (mC (.str " open 1"))) (mCons (mC (.str "grow 1")) mNil))))))) ⟨[.v (.r 0), .v (.d (.str w)), .v (.d (.str n)), y], hp⟩ = .ok (.d (.list ((rB n).map .str))) ⟨[.v (.r 0), .v (.d (.str w)), .v (.d (.str n)), y], hp⟩ := by
  simp only [rn0, List.mem_cons, List.not_mem_nil, or_false] at hn
  rcases hn with rfl | rfl | rfl | rfl | rfl | rfl | rfl | rfl | rfl | rfl <;> kernel_rfl
theorem stepC {w n : Str} (hw : w ∈ rw0) (hn : n ∈ rn0) {y : Sl} {hp : List CO} : mFz (mLst (mCons (m2 (lift2 pAdd) (m2 (lift2 pAdd) (mC (.str "grow ")) (mVar 2)) (mC (.str " "))) (mCons (mC (.str "promise a b c")) (mCons (mC (.str "promise a b")) (mCons (m2 (lift2 pAdd) (mC (.str "promise a b ")) (mVar 1)) mNil))))) ⟨[.v (.r 0), .v (.d (.str w)), .v (.d (.str n)), y], hp⟩ = .ok (.d (.list ((rC w n).map .str))) ⟨[.v (.r 0), .v (.d (.str w)), .v (.d (.str n)), y], hp⟩ := by
  simp only [rw0, rn0, List.mem_cons, List.not_mem_nil, or_false] at hw hn
  rcases hn with rfl | rfl | rfl | rfl | rfl | rfl | rfl | rfl | rfl | rfl <;> rcases hw with rfl | rfl | rfl | rfl | rfl | rfl <;> kernel_rfl
theorem stepD {w : Str} (hw : w ∈ rw0) {x y : Sl} {hp : List CO} : mFz (mLst (mCons (mC (.str "machine a")) (mCons (mC (.str "machine a ")) (mCons (mC (.str "machine a words a")) (mCons (mC (.str "hold a")) (mCons (mC (.str "hold a -")) (mCons (m2 (lift2 pAdd) (m2 (lift2 pAdd) (mC (.str "hold ")) (mVar 1)) (mC (.str " open 1"))) (mCons (mC (.str "good a")) (mCons (m2 (lift2 pAdd) (m2 (lift2 pAdd) (mC (.str "good ")) (mVar 1)) (mC (.str " -"))) (mCons (mC (.str "")) (mCons (mC (.str " ")) (mCons (mC (.str "open")) (mCons (mC (.str "Hall")) mNil))))))))))))) ⟨[.v (.r 0), .v (.d (.str w)), x, y], hp⟩ = .ok (.d (.list ((rD w).map .str))) ⟨[.v (.r 0), .v (.d (.str w)), x, y], hp⟩ := by
  simp only [rw0, List.mem_cons, List.not_mem_nil, or_false] at hw
  rcases hw with rfl | rfl | rfl | rfl | rfl | rfl <;> kernel_rfl
theorem row_eq (h : Strm nums) {k : Nat} {rest : List CO} (hk : k + 2 ≤ 100000) :
    ∃ r ∈ RW, F__law_row Ad0 [.r 0] (stO nums (k : Nat) :: rest) = .ok (.d (.str r)) (stO nums ((k + 3 : Nat) : Int) :: rest) := by
  obtain ⟨w, hw, e1⟩ := one_eq h (k := k) (rest := rest) (rows := rw0) (by omega) (by decide) (by decide)
  obtain ⟨n, hn, e2⟩ := one_eq h (k := k + 1) (rest := rest) (rows := rn0) (by omega) (by decide) (by decide)
  obtain ⟨r, hr, e3⟩ := one_eq h (k := k + 2) (rest := rest) (rows := rA w ++ rB n ++ rC w n ++ rD w) (by omega) (by simp [rA]) (by simp [rA, rB, rC, rD])
  refine ⟨r, rows_mem hw hn hr, ?_⟩
  refine fn_wp (m := m__law_row Ad0) (n := 4) (P := fun x => x = .ok (.d (.str r)) (stO nums ((k + 3 : Nat) : Int) :: rest)) ?_
  refine .seq (.set (x := .d (.str w)) (c1 := ⟨[.v (.r 0), .un, .un, .un], stO nums ((k + 1 : Nat) : Int) :: rest⟩) (call_ok rfl rfl e1) ?_)
  refine .seq (.set (x := .d (.str n)) (c1 := ⟨[.v (.r 0), .v (.d (.str w)), .un, .un], stO nums ((k + 2 : Nat) : Int) :: rest⟩) (call_ok rfl rfl e2) ?_)
  refine .seq (.own (x := (rA w).map .str) (c1 := ⟨[.v (.r 0), .v (.d (.str w)), .v (.d (.str n)), .un], stO nums ((k + 2 : Nat) : Int) :: rest⟩) (stepA hw) ?_)
  refine .seq (.own (x := (rA w).map .str ++ (rB n).map .str) (c1 := ⟨[.v (.r 0), .v (.d (.str w)), .v (.d (.str n)), .v (.d (.list ((rA w).map .str)))], stO nums ((k + 2 : Nat) : Int) :: rest⟩) (cat_ok rfl (stepB hn) (by simp [rA, rB])) ?_)
  refine .seq (.own (x := (rA w).map .str ++ (rB n).map .str ++ (rC w n).map .str) (c1 := ⟨[.v (.r 0), .v (.d (.str w)), .v (.d (.str n)), .v (.d (.list ((rA w).map .str ++ (rB n).map .str)))], stO nums ((k + 2 : Nat) : Int) :: rest⟩) (cat_ok rfl (stepC hw hn) (by simp [rA, rB, rC])) ?_)
  refine .seq (.own (x := (rA w).map .str ++ (rB n).map .str ++ (rC w n).map .str ++ (rD w).map .str) (c1 := ⟨[.v (.r 0), .v (.d (.str w)), .v (.d (.str n)), .v (.d (.list ((rA w).map .str ++ (rB n).map .str ++ (rC w n).map .str)))], stO nums ((k + 2 : Nat) : Int) :: rest⟩) (cat_ok rfl (stepD hw) (by simp [rA, rB, rC, rD])) ?_)
  refine .ret (x := .d (.str r)) (c1 := ⟨[.v (.r 0), .v (.d (.str w)), .v (.d (.str n)), .v (.d (.list ((rA w).map .str ++ (rB n).map .str ++ (rC w n).map .str ++ (rD w).map .str)))], stO nums ((k + 3 : Nat) : Int) :: rest⟩) (call_ok rfl rfl ?_) rfl
  rw [← List.map_append, ← List.map_append, ← List.map_append]
  exact e3
theorem same_ok {x : PyData} {d s : Nat} (h : Fine d s x) (hd : d ≤ 50) (hs : s ≤ 10000000) (hp : List CO) : F__law_same Ad0 [.d x, .d x] hp = .ok (.d (.bool true)) hp := by
  have hl : Fine (d + 1) (1 * (s + 2) + 3) (.list [x]) := Fine.list (fun y m => by rw [List.mem_singleton.mp m]; exact h) (Nat.le_refl 1)
  have r : bRep (.l [x]) hp = some (PyData.list [x]).shown := hl.repL (by omega) (by omega)
  refine fn_wp (m := m__law_same Ad0) (n := 2) (P := fun r => r = .ok (.d (.bool true)) hp) (.ret (x := .d (.bool true)) (c1 := ⟨[.v (.d x), .v (.d x)], hp⟩) ?_ rfl)
  have e0 : mBind (mBf (mLst (mCons (mVar 0) mNil))) gRep ⟨[.v (.d x), .v (.d x)], hp⟩ = .ok (.d (.str (PyData.list [x]).shown)) ⟨[.v (.d x), .v (.d x)], hp⟩ := by
    show gRep (.l [x]) ⟨[.v (.d x), .v (.d x)], hp⟩ = _
    unfold gRep
    rw [gO_ap, r]
    rfl
  have e1 : mBind (mBf (mLst (mCons (mVar 1) mNil))) gRep ⟨[.v (.d x), .v (.d x)], hp⟩ = .ok (.d (.str (PyData.list [x]).shown)) ⟨[.v (.d x), .v (.d x)], hp⟩ := by
    show gRep (.l [x]) ⟨[.v (.d x), .v (.d x)], hp⟩ = _
    unfold gRep
    rw [gO_ap, r]
    rfl
  rw [m2_ap]
  show Res.bind (mBind (mBf (mLst (mCons (mVar 0) mNil))) gRep ⟨[.v (.d x), .v (.d x)], hp⟩) _ = _
  rw [e0, rb_ok, mBind_ap, e1, rb_ok, lift2_ap, pEq_str]
  simp
end Lw

set_option Elab.async false
set_option maxRecDepth 100000
set_option maxHeartbeats 4000000
namespace Lw
open PySem PySem.Spec PyProof.Rows L2 Cl
open TL (tl spl mk_tl tl_mk len_tl joinL spl_join)
theorem in_strs {ts : List Str} {t : Str} {c : CS} (h : t ∉ ts) : gInG false (.d (.str t)) (.c (.d (.tuple (ts.map .str)))) c = .ok (.d (.bool false)) c := by
  have h1 : PyData.plainAll (ts.map PyData.str) = true := plainAll_of fun x m => by
    obtain ⟨_, _, rfl⟩ := List.mem_map.mp m
    rfl
  have h2 : ((ts.map PyData.str).any fun z => PyData.eqv z (.str t)) = false := by
    rw [Bool.eq_false_iff]
    intro q
    obtain ⟨x, m, e⟩ := List.any_eq_true.mp q
    obtain ⟨z, m', rfl⟩ := List.mem_map.mp m
    have : z = t := by simpa [PyData.eqv] using e
    exact h (this ▸ m')
  show mOpt ((if PyData.plainAll (ts.map PyData.str) = true ∧ PyData.plain (.str t) = true ∧ min (PyData.depthAll (ts.map PyData.str)) (PyData.depth (.str t)) ≤ 60 then some (.bool (if false then !((ts.map PyData.str).any fun z => PyData.eqv z (.str t)) else (ts.map PyData.str).any fun z => PyData.eqv z (.str t))) else none).map CV.d) c = _
  rw [if_pos ⟨h1, rfl, by simp [PyData.depth]⟩, h2]
  rfl
theorem in_cond {ts : List Str} {t : Str} {ma mb : Mo CV} {c : CS} (h1 : ma c = .ok (.d (.str t)) c) (h2 : mb c = .ok (.d (.tuple (ts.map .str))) c) (h : t ∉ ts) : mTru (m2b (gInG false) ma (mBo mb)) c = .ok false c := by
  rw [mTru_ap, m2b_ap, h1, rb_ok, mBind_ap, mBo_ap, h2, rb_ok, mRet_ap, rb_ok, in_strs h]
  rfl
theorem eq_cond {s t : Str} {ma mb : Mo CV} {c : CS} (h1 : ma c = .ok (.d (.str t)) c) (h2 : mb c = .ok (.d (.str s)) c) (h : t ≠ s) : mTru (m2 (lift2 pEq) ma mb) c = .ok false c := by
  rw [mTru_ap, m2_ap, h1, rb_ok, mBind_ap, h2, rb_ok, lift2_ap, pEq_str, beq_false_of_ne h]
  rfl
theorem and_f {a b : Mo Bool} {c c1 : CS} (h : a c = .ok false c1) : mAnd a b c = .ok false c1 := by
  unfold mAnd
  rw [mBind_ap, h]
  rfl
theorem or_ff {a b : Mo Bool} {c c1 c2 : CS} (h : a c = .ok false c1) (h2 : b c1 = .ok false c2) : mOr a b c = .ok false c2 := by
  unfold mOr
  rw [mBind_ap, h, rb_ok]
  exact h2
theorem Wp.un {D : RS → Prop} {m : Mo CV} {g : Tg} {x : CV} {c c1 c2 : CS} (e : m c = .ok x c1) (e2 : g.f x c1 = some c2) (h : D (.nx c2)) : Wp D (sUn m g) c := by
  refine ⟨?_⟩
  unfold sUn
  rw [sBind_ap, e]
  show D (match g.f x c1 with
  | some c1 => .nx c1
  | none => .no)
  rw [e2]
  exact h
/-- a long row without a space -/
structure Lng (t : Str) : Prop where
  lo : 20 < t.length
  hi : t.length ≤ 20000
  sp : (32 : Nat) ∉ tl t
  nl : (10 : Nat) ∉ tl t
theorem Lng.ne {t s : Str} (h : Lng t) (hs : s.length ≤ 20) : t ≠ s := fun e => by
  have := h.lo
  rw [e] at this
  omega
theorem Lng.nin {t : Str} (h : Lng t) {ts : List Str} (hs : ∀ s ∈ ts, s.length ≤ 20) : t ∉ ts := fun m => h.ne (hs t m) rfl
theorem Lng.split {t : Str} (h : Lng t) : splitS t " " = some [.str t] := by
  unfold splitS
  rw [if_pos ⟨by decide, by have := h.hi; omega, by decide +kernel⟩]
  have e : tl (" " : Str) = [32] := by kernel_rfl
  rw [e, TL.spl_last1 h.sp]
  show some [PyData.str (mkS (tl t))] = _
  exact congrArg (fun z => some [PyData.str z]) (mk_tl t)
theorem shorts {ts : List Str} (h : (ts.all fun s => decide (s.length ≤ 20)) = true) : ∀ s ∈ ts, s.length ≤ 20 := fun s m => of_decide_eq_true (List.all_eq_true.mp h s m)
theorem splitC {t : Str} {hp : List CO} (h : Lng t) : mSplit (mVar 0) (mC (.str " ")) ⟨[.v (.d (.str t)), .un], hp⟩ = .ok [.str t] ⟨[.v (.d (.str t)), .un], hp⟩ := by
  unfold mSplit
  rw [mBind_ap, mVar_ap]
  show Res.bind (Res.ok (CV.d (.str t)) _) _ = _
  rw [rb_ok, mBind_ap]
  show Res.bind (Res.ok t _) _ = _
  rw [rb_ok, mBind_ap, mC_ap, rb_ok, mBind_ap]
  show Res.bind (Res.ok (" " : Str) _) _ = _
  rw [rb_ok, h.split]
  rfl
theorem rl_bad {t : Str} (h : Lng t) (hp : List CO) : F_read_line Ad0 [.d (.str t)] hp = .ok (.d (.tuple [.str "bad", .tuple []])) hp := by
  refine fn_wp (m := m_read_line Ad0) (n := 2) (P := fun r => r = .ok (.d (.tuple [.str "bad", .tuple []])) hp) ?_
  refine .seq (.iff (c1 := ⟨[.v (.d (.str t)), .un], hp⟩) (or_ff (eq_cond rfl rfl (h.ne (by decide))) (in_cond (ts := ["hall", "undo", "machines", "logs", "promises", "image"]) rfl rfl (h.nin (shorts (by decide +kernel))))) (.nx ?_))
  refine .seq (.own (x := [.str t]) (c1 := ⟨[.v (.d (.str t)), .un], hp⟩) (splitC h) ?_)
  refine .seq (.iff (c1 := ⟨[.v (.d (.str t)), .ol [.str t]], hp⟩) (and_f (in_cond (ts := ["drop", "release", "least"]) rfl rfl (h.nin (shorts (by decide +kernel))))) (.nx ?_))
  refine .seq (.iff (c1 := ⟨[.v (.d (.str t)), .ol [.str t]], hp⟩) (and_f (in_cond (ts := ["give", "text", "state"]) rfl rfl (h.nin (shorts (by decide +kernel))))) (.nx ?_))
  refine .seq (.iff (c1 := ⟨[.v (.d (.str t)), .ol [.str t]], hp⟩) (and_f (eq_cond rfl rfl (h.ne (by decide +kernel)))) (.nx ?_))
  refine .seq (.iff (c1 := ⟨[.v (.d (.str t)), .ol [.str t]], hp⟩) (and_f (in_cond (ts := ["machine", "hold", "good"]) rfl rfl (h.nin (shorts (by decide +kernel))))) (.nx ?_))
  refine .seq (.iff (c1 := ⟨[.v (.d (.str t)), .ol [.str t]], hp⟩) (and_f (eq_cond rfl rfl (h.ne (by decide +kernel)))) (.nx ?_))
  exact .ret (x := .d (.tuple [.str "bad", .tuple []])) (c1 := ⟨[.v (.d (.str t)), .ol [.str t]], hp⟩) rfl rfl
theorem rr_bad {t : Str} (h : Lng t) (hp : List CO) : F_Desk_run_row Ad0 [.r 0, .d (.str t)] hp = .ok (.d (.str "bad")) hp := by
  refine fn_wp (m := m_Desk_run_row Ad0) (n := 5) (P := fun r => r = .ok (.d (.str "bad")) hp) ?_
  refine .seq (Wp.un (x := .d (.tuple [.str "bad", .tuple []])) (c1 := ⟨[.v (.r 0), .v (.d (.str t)), .un, .un, .un], hp⟩) (c2 := ⟨[.v (.r 0), .v (.d (.str t)), .v (.d (.str "bad")), .v (.d (.tuple [])), .un], hp⟩) (call_ok rfl rfl (rl_bad h hp)) rfl ?_)
  refine .seq (.ift (c1 := ⟨[.v (.r 0), .v (.d (.str t)), .v (.d (.str "bad")), .v (.d (.tuple [])), .un], hp⟩) (by kernel_rfl) ?_)
  exact .ret (x := .d (.str "bad")) (c1 := ⟨[.v (.r 0), .v (.d (.str t)), .v (.d (.str "bad")), .v (.d (.tuple [])), .un], hp⟩) rfl rfl
theorem joinN1 (t : Str) : joinN [t] = t := mk_tl t
theorem rs_long {t : Str} (h : Lng t) : ∃ hp, F_run_script Ad0 [.d (.str t)] [] = .ok (.d (.list [.str "bad"])) hp := by
  have hs := split_rows (rs := [t]) (by simp) (fun r m => by rw [List.mem_singleton.mp m]; exact h.nl) (by rw [joinN1]; exact h.hi)
  rw [joinN1] at hs
  exact rs_run (rows := [t]) (fun _ => [desk0]) (fun pre => pre.map fun _ => .str "bad") hs h.hi (by simp) rfl rfl (fun pre r post ex => by
    have m : r = t := by
      have : PyData.str r ∈ [t].map PyData.str := by rw [ex]; exact List.mem_append.mpr (.inr (.head _))
      simpa using this
    subst m
    exact ⟨_, rr_bad h _, by rw [List.map_append]; rfl⟩) fun _ => ⟨_, _, rfl⟩
/-! ### texts that repeat one sign -/
theorem fold_rep (a : Array Nat) : ∀ (n : Nat) (b : Array Nat), ((List.replicate n a).foldl (· ++ ·) b).toList = b.toList ++ (List.replicate n a.toList).flatten
  | 0, b => by simp
  | n + 1, b => by
    rw [List.replicate_succ, List.foldl_cons, fold_rep a n, Array.toList_append, List.replicate_succ, List.flatten_cons, List.append_assoc]
theorem flat1 (x : Nat) : ∀ n : Nat, (List.replicate n [x]).flatten = List.replicate n x
  | 0 => rfl
  | n + 1 => by
    rw [List.replicate_succ, List.flatten_cons, flat1 x n]
    rfl
theorem tl_rep {t : Str} {x : Nat} {n : Nat} (h : tl t = [x]) (hn : 2 ≤ n) : tl (repS t (n : Nat)) = List.replicate n x := by
  unfold repS
  have h1 : t.length = 1 := by rw [len_tl, h]; rfl
  rw [if_neg (by omega), if_neg (by
    rw [Bool.or_eq_true, h1]
    simp
    omega)]
  show ((List.replicate ((n : Nat) : Int).toNat t.cps).foldl (· ++ ·) #[]).toList = _
  rw [Int.toNat_natCast, fold_rep]
  have e : t.cps.toList = [x] := h
  rw [e, flat1]
  rfl
theorem len_rep {t : Str} {x : Nat} {n : Nat} (h : tl t = [x]) (hn : 2 ≤ n) : (repS t (n : Nat)).length = n := by
  rw [len_tl, tl_rep h hn, List.length_replicate]
theorem lng_x : Lng (repS "x" 20000) := by
  have e : tl ("x" : Str) = [120] := by kernel_rfl
  have l := len_rep (n := 20000) e (by omega)
  have t := tl_rep (n := 20000) e (by omega)
  refine ⟨?_, ?_, ?_, ?_⟩
  · rw [show (20000 : Int) = ((20000 : Nat) : Int) from rfl, l]; omega
  · rw [show (20000 : Int) = ((20000 : Nat) : Int) from rfl, l]; omega
  · rw [show (20000 : Int) = ((20000 : Nat) : Int) from rfl, t]
    intro m
    cases List.eq_of_mem_replicate m
  · rw [show (20000 : Int) = ((20000 : Nat) : Int) from rfl, t]
    intro m
    cases List.eq_of_mem_replicate m
/-! ### _law_run -/
theorem lr_ok {t : Str} {x : PyData} {hp0 hp : List CO} (e : F_run_script Ad0 [.d (.str t)] [] = .ok (.d x) hp0) : F__law_run Ad0 [.d (.str t)] hp = .ok (.d x) hp := by
  have q : sRet (mCallL 1 (F_run_script Ad0) (mCons (mVar 0) mNil)) ⟨[.v (.d (.str t)), .un], hp⟩ = .rt (.d x) ⟨[.v (.d (.str t)), .un], hp⟩ := by
    rw [sRet_ap, callL_ok (n := 1) (ma := mCons (mVar 0) mNil) (args := [.d (.str t)]) (c1 := ⟨[.v (.d (.str t)), .un], hp⟩) rfl rfl rfl e]
    rfl
  show fin (m__law_run Ad0 ⟨[.v (.d (.str t)), .un], hp⟩) = _
  unfold m__law_run sTryA
  rw [q]
  rfl
theorem lr_ex {t : Str} {hp0 hp : List CO} (e : F_run_script Ad0 [.d (.str t)] [] = .ex ⟨"TooLarge", []⟩ hp0) : F__law_run Ad0 [.d (.str t)] hp = .ok (.d (.list [.str "large"])) hp := by
  have q : sRet (mCallL 1 (F_run_script Ad0) (mCons (mVar 0) mNil)) ⟨[.v (.d (.str t)), .un], hp⟩ = .ex ⟨"TooLarge", []⟩ ⟨[.v (.d (.str t)), .un], hp⟩ := by
    rw [sRet_ap, callL_ex (n := 1) (ma := mCons (mVar 0) mNil) (args := [.d (.str t)]) (c1 := ⟨[.v (.d (.str t)), .un], hp⟩) rfl rfl rfl e]
    rfl
  show fin (m__law_run Ad0 ⟨[.v (.d (.str t)), .un], hp⟩) = _
  unfold m__law_run sTryA
  rw [q]
  rfl
theorem gt_strT {t : Str} {i : Nat} {k : Int} {sl : List Sl} {hp : List CO} (h : sl[i]? = some (.v (.d (.str t)))) (hl : t.length ≤ 16777216) (hk : k < (t.length : Nat)) :
    mTru (m2 (lift2 pGt) (mBind (mPeek i) gLen) (mC (.int k))) ⟨sl, hp⟩ = .ok true ⟨sl, hp⟩ := by
  rw [gt_str h hl, decide_eq_true hk]
theorem rs_many {t : Str} (h1 : 20000 < t.length) (h2 : t.length ≤ 16777216) : F_run_script Ad0 [.d (.str t)] [] = .ex ⟨"TooLarge", []⟩ [] := by
  refine fn_wp (m := m_run_script Ad0) (n := 4) (P := fun r => r = .ex ⟨"TooLarge", []⟩ []) ?_
  exact .seq (.ift (c1 := ⟨[.v (.d (.str t)), .un, .un, .un], []⟩) (gt_strT (t := t) (sl := [.v (.d (.str t)), .un, .un, .un]) (hp := []) rfl h2 (by omega)) (.raise rfl))
theorem rs_rows {t : Str} {xs : List PyData} (h1 : t.length ≤ 20000) (hs : splitS t "\n" = some xs) (h2 : 80 < xs.length) : F_run_script Ad0 [.d (.str t)] [] = .ex ⟨"TooLarge", []⟩ [] := by
  refine fn_wp (m := m_run_script Ad0) (n := 4) (P := fun r => r = .ex ⟨"TooLarge", []⟩ []) ?_
  refine .seq (.iff (c1 := ⟨[.v (.d (.str t)), .un, .un, .un], []⟩) ?_ (.nx ?_))
  · refine (gt_str (t := t) (sl := [.v (.d (.str t)), .un, .un, .un]) (hp := []) rfl (by omega)).trans ?_
    rw [decide_eq_false (by omega)]
  refine .seq (.own (x := xs) (c1 := ⟨[.v (.d (.str t)), .un, .un, .un], []⟩) (split_ap rfl hs) ?_)
  refine .seq (.ift (c1 := ⟨[.v (.d (.str t)), .ol xs, .un, .un], []⟩) ?_ (.raise rfl))
  refine (gt_own (xs := xs) (sl := [.v (.d (.str t)), .ol xs, .un, .un]) (hp := []) rfl).trans ?_
  rw [decide_eq_true (by omega)]
theorem nl79 : repS "\n" 79 = joinN (List.replicate 80 "") := by kernel_rfl
theorem nl80 : repS "\n" 80 = joinN (List.replicate 81 "") := by kernel_rfl
theorem empRW : ("" : Str) ∈ RW := inRW_mem (by decide +kernel)
theorem ans_emp : ans0 "" = "" := by kernel_rfl
theorem lim1 (hp : List CO) : F__law_run Ad0 [.d (.str (repS "\n" 79))] hp = .ok (.d (.list (List.replicate 80 (.str "")))) hp := by
  obtain ⟨hp0, e⟩ := rs0 (rs := List.replicate 80 "") (by decide) (by decide) fun r m => by
    rw [List.eq_of_mem_replicate m]
    exact empRW
  rw [nl79]
  rw [List.map_replicate, ans_emp] at e
  exact lr_ok e
theorem lim2 (hp : List CO) : F__law_run Ad0 [.d (.str (repS "\n" 80))] hp = .ok (.d (.list [.str "large"])) hp := by
  have hs := split_rows (rs := List.replicate 81 "") (by decide) (fun r m => by
    rw [List.eq_of_mem_replicate m]
    exact (nl_ok empRW).1) (by
    have := join_len (n := 0) (rs := List.replicate 81 "") fun r m => by
      rw [List.eq_of_mem_replicate m]
      decide
    rw [List.length_replicate] at this
    omega)
  rw [nl80]
  refine lr_ex (rs_rows ?_ hs (by rw [List.length_map, List.length_replicate]; omega))
  have := join_len (n := 0) (rs := List.replicate 81 "") fun r m => by
    rw [List.eq_of_mem_replicate m]
    decide
  rw [List.length_replicate] at this
  omega
theorem lim3 (hp : List CO) : F__law_run Ad0 [.d (.str (repS "x" 20000))] hp = .ok (.d (.list [.str "bad"])) hp := by
  obtain ⟨hp0, e⟩ := rs_long lng_x
  exact lr_ok e
theorem lim4 (hp : List CO) : F__law_run Ad0 [.d (.str (repS "x" 20001))] hp = .ok (.d (.list [.str "large"])) hp := by
  have e : tl ("x" : Str) = [120] := by kernel_rfl
  have l : (repS "x" 20001).length = 20001 := len_rep (n := 20001) e (by omega)
  exact lr_ex (rs_many (by omega) (by omega))
end Lw

set_option Elab.async false
set_option maxRecDepth 100000
set_option maxHeartbeats 4000000
namespace Lw
open PySem PySem.Spec PyProof.Rows L2 Cl
open TL (tl spl mk_tl tl_mk len_tl joinL spl_join)
variable {nums : List Int}
/-- the state of the law's locals -/
abbrev sS (scr : PyData) (s2 s3 s4 s5 s6 s7 s8 : Sl) (hp : List CO) : CS := ⟨[.v (.d scr), .v (.r 0), s2, s3, s4, s5, s6, s7, s8, .un], hp⟩
def keep (s : Sl) : Sl := match s with
  | .v x => .v x
  | _ => .un
def rowsD (rs : List Str) : PyData := .list (rs.map .str)
def dueL (rs : List Str) : List PyData := rs.map fun r => .str (ans0 r)
section
variable {scr : PyData} {s2 s3 s4 s5 s6 s7 s8 : Sl} {hp : List CO}
/-- the rows are drawn -/
theorem t_rows (h : Strm nums) {k : Nat} (hk : k ≤ 1000) :
    ∃ rs : List Str, rs ≠ [] ∧ rs.length ≤ 60 ∧ (∀ r ∈ rs, r ∈ RW) ∧ ∃ k2 : Nat, k2 ≤ k + 190 ∧
      mLc (mRg1 (m2 (lift2 pAdd) (mC (.int 1)) (mCall 2 (F__law_next Ad0) (mCons (mVar 1) (mCons (mC (.int 60)) mNil))))) (gN 4) mYes (mCall 1 (F__law_row Ad0) (mCons (mVar 1) mNil)) [4] (sS scr s2 s3 s4 s5 s6 s7 s8 [stO nums (k : Nat)]) =
        .ok (rs.map .str) (sS scr s2 s3 (keep s4) s5 s6 s7 s8 [stO nums (k2 : Nat)]) := by
  obtain ⟨v, hv, e1⟩ := nxt h (k := k) (m := 60) (rest := []) (by omega) (by decide)
  have e2 : mCall 2 (F__law_next Ad0) (mCons (mVar 1) (mCons (mC (.int 60)) mNil)) (sS scr s2 s3 s4 s5 s6 s7 s8 [stO nums (k : Nat)]) = .ok (.d (.int (v : Nat))) (sS scr s2 s3 s4 s5 s6 s7 s8 [stO nums ((k + 1 : Nat) : Int)]) := call_ok rfl rfl e1
  have e3 : mRg1 (m2 (lift2 pAdd) (mC (.int 1)) (mCall 2 (F__law_next Ad0) (mCons (mVar 1) (mCons (mC (.int 60)) mNil)))) (sS scr s2 s3 s4 s5 s6 s7 s8 [stO nums (k : Nat)]) = .ok (rgL 0 (v + 1)) (sS scr s2 s3 s4 s5 s6 s7 s8 [stO nums ((k + 1 : Nat) : Int)]) := by
    rw [mRg1_ap, m2_ap, mC_ap, rb_ok, mBind_ap, e2, rb_ok, lift2_ap, pAdd_int]
    show Res.bind (Res.ok (CV.d (.int (1 + (v : Nat)))) _) _ = _
    rw [rb_ok, mBind_ap]
    show Res.bind (Res.ok (1 + ((v : Nat) : Int)) _) _ = _
    rw [rb_ok]
    have ok : okRg (1 + ((v : Nat) : Int)) = true := by
      unfold okRg
      simp
      omega
    rw [if_pos ok, mRet_ap, show (1 + ((v : Nat) : Int)).toNat = v + 1 by omega]
  obtain ⟨acc, w, ⟨rs, q1, q2, q3, q4⟩, e⟩ := lc_inv (mi := mRg1 (m2 (lift2 pAdd) (mC (.int 1)) (mCall 2 (F__law_next Ad0) (mCons (mVar 1) (mCons (mC (.int 60)) mNil))))) (g := gN 4) (tt := mYes) (te := mCall 1 (F__law_row Ad0) (mCons (mVar 1) mNil)) (vs := [4]) e3 (by rw [len_rgL]; omega)
    (fun pre acc w => ∃ rs : List Str, acc = rs.map .str ∧ rs.length = pre.length ∧ (∀ r ∈ rs, r ∈ RW) ∧ w = sS scr s2 s3 .un s5 s6 s7 s8 [stO nums ((k + 1 + 3 * pre.length : Nat) : Int)]) ⟨[], rfl, rfl, (fun r m => by cases m), rfl⟩ fun pre x post acc w ex ⟨rs, q1, q2, q3, q4⟩ => by
      subst q1 q4
      have hpre : pre.length + 1 ≤ v + 1 := by
        have := congrArg List.length ex
        rw [len_rgL, List.length_append, List.length_cons] at this
        omega
      obtain ⟨r, hr, er⟩ := row_eq h (k := k + 1 + 3 * pre.length) (rest := []) (by omega)
      refine ⟨sS scr s2 s3 (.v (.d x)) s5 s6 s7 s8 [stO nums ((k + 1 + 3 * pre.length : Nat) : Int)], true, _, rfl, rfl, (fun z => by cases z), fun _ => ⟨.str r, sS scr s2 s3 (.v (.d x)) s5 s6 s7 s8 [stO nums ((k + 1 + 3 * pre.length + 3 : Nat) : Int)], call_ok rfl rfl er, rs ++ [r], ?_, ?_, ?_, ?_⟩⟩
      · rw [List.map_append]
        rfl
      · rw [List.length_append, List.length_append, q2]
        rfl
      · intro z m
        rcases List.mem_append.mp m with m | m
        · exact q3 z m
        · rw [List.mem_singleton.mp m]
          exact hr
      · rw [List.length_append, List.length_singleton, show k + 1 + 3 * (pre.length + 1) = k + 1 + 3 * pre.length + 3 by omega]
        rfl
  rw [len_rgL] at q2 q4
  subst q1 q4
  refine ⟨rs, ?_, by omega, q3, k + 1 + 3 * (v + 1), by omega, ?_⟩
  · intro z
    rw [z] at q2
    cases q2
  · rw [e]
    cases s4 <;> rfl
/-- the due answers -/
theorem t_due {rs : List Str} (hl : rs.length ≤ 60) (hr : ∀ r ∈ rs, r ∈ RW) :
    mLc (mItems (mVar 3)) (gN 6) mYes (m2 (lift2 pMulS) (mIxG (mFz (mLst (mCons (mC (.str "none")) (mCons (mC (.str "bad")) mNil)))) (mBind (mBo (mNotV (mCallL 1 (F__law_has_form Ad0) (mCons (mVar 6) mNil)))) gInt)) (mBind (mBo (m2 (lift2 pNe) (mVar 6) (mC (.str "")))) gInt)) [6] (sS scr s2 (.ol (rs.map .str)) s4 s5 s6 s7 s8 hp) =
      .ok (dueL rs) (sS scr s2 (.v (.d (rowsD rs))) s4 s5 (keep s6) s7 s8 hp) := by
  let f : PyData → PyData := fun x => match x with
    | .str r => .str (ans0 r)
    | x => x
  have e := lc_map (mi := mItems (mVar 3)) (g := gN 6) (te := m2 (lift2 pMulS) (mIxG (mFz (mLst (mCons (mC (.str "none")) (mCons (mC (.str "bad")) mNil)))) (mBind (mBo (mNotV (mCallL 1 (F__law_has_form Ad0) (mCons (mVar 6) mNil)))) gInt)) (mBind (mBo (m2 (lift2 pNe) (mVar 6) (mC (.str "")))) gInt)) (vs := [6]) (xs := rs.map PyData.str)
    (c := sS scr s2 (.ol (rs.map .str)) s4 s5 s6 s7 s8 hp) (c0 := sS scr s2 (.v (.d (rowsD rs))) s4 s5 s6 s7 s8 hp) (w := sS scr s2 (.v (.d (rowsD rs))) s4 s5 .un s7 s8 hp) f rfl (by rw [List.length_map]; omega) rfl fun x m => by
      obtain ⟨r, hm, rfl⟩ := List.mem_map.mp m
      refine ⟨sS scr s2 (.v (.d (rowsD rs))) s4 s5 (.v (.d (.str r))) s7 s8 hp, sS scr s2 (.v (.d (rowsD rs))) s4 s5 (.v (.d (.str r))) s7 s8 hp, rfl, ?_, rfl⟩
      have e1 : mCallL 1 (F__law_has_form Ad0) (mCons (mVar 6) mNil) (sS scr s2 (.v (.d (rowsD rs))) s4 s5 (.v (.d (.str r))) s7 s8 hp) = .ok (.d (.bool (formB r))) (sS scr s2 (.v (.d (rowsD rs))) s4 s5 (.v (.d (.str r))) s7 s8 hp) := callL_ok rfl rfl rfl (form_eq (hr r hm))
      have e2 : mBind (mBo (mNotV (mCallL 1 (F__law_has_form Ad0) (mCons (mVar 6) mNil)))) gInt (sS scr s2 (.v (.d (rowsD rs))) s4 s5 (.v (.d (.str r))) s7 s8 hp) = .ok (.d (.int (if formB r then 0 else 1))) (sS scr s2 (.v (.d (rowsD rs))) s4 s5 (.v (.d (.str r))) s7 s8 hp) := by
        unfold mNotV
        rw [mBind_ap, mBo_ap, mBind_ap, mTru_ap, e1]
        cases formB r <;> rfl
      have e3 : mBind (mBo (m2 (lift2 pNe) (mVar 6) (mC (.str "")))) gInt (sS scr s2 (.v (.d (rowsD rs))) s4 s5 (.v (.d (.str r))) s7 s8 hp) = .ok (.d (.int (if r == "" then 0 else 1))) (sS scr s2 (.v (.d (rowsD rs))) s4 s5 (.v (.d (.str r))) s7 s8 hp) := by
        rw [mBind_ap, mBo_ap, m2_ap]
        show Res.bind (Res.bind (lift2 pNe (.d (.str r)) (.d (.str "")) (sS scr s2 (.v (.d (rowsD rs))) s4 s5 (.v (.d (.str r))) s7 s8 hp)) _) _ = _
        rw [lift2_ap, pNe_str]
        cases r == "" <;> rfl
      rw [m2_ap, mIxG_ap]
      show Res.bind (Res.bind (Res.ok (CV.d (.list [.str "none", .str "bad"])) (sS scr s2 (.v (.d (rowsD rs))) s4 s5 (.v (.d (.str r))) s7 s8 hp)) _) _ = _
      rw [rb_ok, mBind_ap, e2, rb_ok]
      show Res.bind (gIxG (.c (.d (.list [.str "none", .str "bad"]))) (.d (.int (if formB r then 0 else 1))) (sS scr s2 (.v (.d (rowsD rs))) s4 s5 (.v (.d (.str r))) s7 s8 hp)) _ = _
      have e4 : gIxG (.c (.d (.list [.str "none", .str "bad"]))) (.d (.int (if formB r then 0 else 1))) (sS scr s2 (.v (.d (rowsD rs))) s4 s5 (.v (.d (.str r))) s7 s8 hp) = .ok (.d (.str (if formB r then "none" else "bad"))) (sS scr s2 (.v (.d (rowsD rs))) s4 s5 (.v (.d (.str r))) s7 s8 hp) := by
        cases formB r <;> rfl
      rw [e4, rb_ok, mBind_ap, e3, rb_ok, lift2_ap]
      show mOpt (Option.map CV.d (pMulS (.str (if formB r then "none" else "bad")) (.int (if r == "" then 0 else 1)))) _ = .ok (.d (.str (ans0 r))) _
      unfold ans0
      cases r == "" <;> cases formB r <;> kernel_rfl
  rw [e, List.map_map]
  cases s6 <;> rfl
theorem ans0_fine {r : Str} : Fine 0 10 (.str (ans0 r)) := by
  apply fine_str
  unfold ans0
  cases r == "" <;> cases formB r <;> decide +kernel
theorem due_fine {rs : List Str} (hl : rs.length ≤ 60) : Fine 1 (60 * 12 + 3) (.list (dueL rs)) := by
  refine Fine.list (d := 0) (s := 10) (k := 60) (fun x m => ?_) (by unfold dueL; rw [List.length_map]; exact hl)
  obtain ⟨r, _, rfl⟩ := List.mem_map.mp m
  exact ans0_fine
theorem asStrs_map : ∀ rs : List Str, asStrs (rs.map .str) = some rs
  | [] => rfl
  | r :: rs => by
    show (asStrs (rs.map .str)).map (r :: ·) = _
    rw [asStrs_map rs]
    rfl
theorem sum_le {n : Nat} : ∀ {rs : List Str}, (∀ r ∈ rs, r.length ≤ n) → (rs.map (·.length)).sum ≤ rs.length * n
  | [], _ => by simp
  | r :: rs, h => by
    have h1 := h r (.head _)
    have h2 := sum_le (rs := rs) fun x m => h x (.tail _ m)
    rw [List.map_cons, List.sum_cons, List.length_cons, Nat.succ_mul]
    omega
theorem joinS_eq {y : BV} {rs : List Str} {hp : List CO} (hy : bSeq y hp = some (rs.map .str)) (h : ∀ r ∈ rs, r.length ≤ 30) (hl : rs.length ≤ 100) : joinS "\n" y hp = some (joinN rs) := by
  unfold joinS
  rw [hy]
  show (Option.bind (asStrs (rs.map .str)) _) = _
  rw [asStrs_map]
  show (if (rs.map (·.length)).sum + rs.length * Str.length "\n" ≤ 16777216 then some (mkS (joinL (tl "\n") (rs.map tl))) else none) = _
  have := sum_le h
  have l1 : Str.length "\n" = 1 := by kernel_rfl
  rw [if_pos (by
    rw [l1]
    have := Nat.mul_le_mul hl (Nat.le_refl 30)
    omega), show tl ("\n" : Str) = [10] by kernel_rfl]
  rfl
end
end Lw

set_option Elab.async false
set_option maxRecDepth 100000
set_option maxHeartbeats 4000000
namespace Lw
open PySem PySem.Spec PyProof.Rows L2 Cl
open TL (tl spl mk_tl tl_mk len_tl joinL spl_join)
variable {nums : List Int}
theorem rgl_mem {n : Nat} {pre post : List PyData} {x : PyData} (h : rgL 0 n = pre ++ x :: post) : x = .int (pre.length : Nat) ∧ pre.length < n := by
  have hl := congrArg List.length h
  rw [len_rgL, List.length_append, List.length_cons] at hl
  have hlt : pre.length < n := by omega
  have e := congrArg (fun l : List PyData => l[pre.length]?) h
  unfold rgL at e
  simp only [List.getElem?_map, List.getElem?_range hlt, List.getElem?_append_right (Nat.le_refl _), Nat.sub_self, List.getElem?_cons_zero] at e
  simp at e
  exact ⟨e.symm, hlt⟩
def toldL (rs : List Str) : List PyData := .str "ok" :: rs.map fun r => .str (ans1 r)
section
variable {scr : PyData} {s2 s3 s4 s5 s6 s7 s8 : Sl} {hp : List CO}
theorem t_run0 {rs : List Str} (hne : rs ≠ []) (hl : rs.length ≤ 60) (hr : ∀ r ∈ rs, r ∈ RW) {s5 : Sl} :
    mCallL 1 (F_run_script Ad0) (mCons (mJoin (mC (.str "\n")) (mPeek 3)) mNil) (sS scr s2 (.v (.d (rowsD rs))) s4 s5 s6 s7 s8 hp) = .ok (.d (.list (dueL rs))) (sS scr s2 (.v (.d (rowsD rs))) s4 s5 s6 s7 s8 hp) := by
  obtain ⟨hp0, e⟩ := rs0 hne (by omega) hr
  have ej : mJoin (mC (.str "\n")) (mPeek 3) (sS scr s2 (.v (.d (rowsD rs))) s4 s5 s6 s7 s8 hp) = .ok (.d (.str (joinN rs))) (sS scr s2 (.v (.d (rowsD rs))) s4 s5 s6 s7 s8 hp) := by
    unfold mJoin
    rw [mBind_ap, mC_ap, rb_ok, mBind_ap]
    show Res.bind (Res.ok ("\n" : Str) _) _ = _
    rw [rb_ok, mBind_ap, mPeek_ap]
    show Res.bind (Res.ok (BV.c (.d (rowsD rs))) _) _ = _
    rw [rb_ok, gO_ap, joinS_eq (rs := rs) rfl (fun r m => (nl_ok (hr r m)).2) (by omega)]
    rfl
  refine callL_ok (args := [.d (.str (joinN rs))]) ?_ rfl rfl e
  rw [mCons_ap, ej]
  rfl
theorem t_same {rs : List Str} (hne : rs ≠ []) (hl : rs.length ≤ 60) (hr : ∀ r ∈ rs, r ∈ RW) :
    mNot (mTru (mCall 2 (F__law_same Ad0) (mCons (mCallL 1 (F_run_script Ad0) (mCons (mJoin (mC (.str "\n")) (mPeek 3)) mNil)) (mCons (mVar 5) mNil)))) (sS scr s2 (.v (.d (rowsD rs))) s4 (.ol (dueL rs)) s6 s7 s8 hp) =
      .ok false (sS scr s2 (.v (.d (rowsD rs))) s4 (.v (.d (.list (dueL rs)))) s6 s7 s8 hp) := by
  have e : mCall 2 (F__law_same Ad0) (mCons (mCallL 1 (F_run_script Ad0) (mCons (mJoin (mC (.str "\n")) (mPeek 3)) mNil)) (mCons (mVar 5) mNil)) (sS scr s2 (.v (.d (rowsD rs))) s4 (.ol (dueL rs)) s6 s7 s8 hp) = .ok (.d (.bool true)) (sS scr s2 (.v (.d (rowsD rs))) s4 (.v (.d (.list (dueL rs)))) s6 s7 s8 hp) := by
    refine call_ok (args := [.d (.list (dueL rs)), .d (.list (dueL rs))]) ?_ rfl (same_ok (due_fine hl) (by decide) (by decide) hp)
    rw [mCons_ap, t_run0 hne hl hr]
    rfl
  rw [mNot_ap, mTru_ap, e]
  rfl
theorem t_told {rs : List Str} (hl : rs.length ≤ 60) (hr : ∀ r ∈ rs, r ∈ RW) :
    mCallL 1 (F_run_script Ad0) (mCons (mJoin (mC (.str "\n")) (mBf (mCat (mFz (mLst (mCons (mC (.str "hall")) mNil))) (mVar 3)))) mNil) (sS scr s2 (.v (.d (rowsD rs))) s4 s5 s6 s7 s8 hp) = .ok (.d (.list (toldL rs))) (sS scr s2 (.v (.d (rowsD rs))) s4 s5 s6 s7 s8 hp) := by
  obtain ⟨hp0, e⟩ := rs1 (rs := rs) (by omega) hr
  have ec : mCat (mFz (mLst (mCons (mC (.str "hall")) mNil))) (mVar 3) (sS scr s2 (.v (.d (rowsD rs))) s4 s5 s6 s7 s8 hp) = .ok ((("hall" : Str) :: rs).map PyData.str) (sS scr s2 (.v (.d (rowsD rs))) s4 s5 s6 s7 s8 hp) :=
    cat_ok (xs := [.str "hall"]) (ys := rs.map .str) rfl rfl (by rw [List.length_map]; simp; omega)
  have ej : mJoin (mC (.str "\n")) (mBf (mCat (mFz (mLst (mCons (mC (.str "hall")) mNil))) (mVar 3))) (sS scr s2 (.v (.d (rowsD rs))) s4 s5 s6 s7 s8 hp) = .ok (.d (.str (joinN ("hall" :: rs)))) (sS scr s2 (.v (.d (rowsD rs))) s4 s5 s6 s7 s8 hp) := by
    unfold mJoin
    rw [mBind_ap, mC_ap, rb_ok, mBind_ap]
    show Res.bind (Res.ok ("\n" : Str) _) _ = _
    rw [rb_ok, mBind_ap, mBf_ap, ec, rb_ok, mRet_ap, rb_ok, gO_ap, joinS_eq (rs := "hall" :: rs) rfl (fun r m => by
      rcases List.mem_cons.mp m with rfl | m
      · decide
      · exact (nl_ok (hr r m)).2) (by rw [List.length_cons]; omega)]
    rfl
  refine callL_ok (args := [.d (.str (joinN ("hall" :: rs)))]) ?_ rfl rfl e
  rw [mCons_ap, ej]
  rfl
/-! ### the check of one row -/
theorem ix_rows {rs : List Str} {i : Nat} (hi : i < rs.length) {s8 s6 : Sl} : mIxNG 3 (mVar 4) (sS scr s2 (.v (.d (rowsD rs))) (.v (.d (.int (i : Nat)))) s5 s6 s7 s8 hp) = .ok (.d (.str rs[i])) (sS scr s2 (.v (.d (rowsD rs))) (.v (.d (.int (i : Nat)))) s5 s6 s7 s8 hp) := by
  rw [mIxNG_ap]
  show gIxG (.c (.d (.list (rs.map .str)))) (.d (.int (i : Nat))) _ = _
  exact ixg_list (by rw [atI_nat (by rw [List.length_map]; exact hi), List.getElem_map])
theorem ix_told {rs : List Str} {i : Nat} (hi : i < rs.length) {s8 s6 s3 : Sl} : mIxNG 7 (m2 (lift2 pAdd) (mVar 4) (mC (.int 1))) (sS scr s2 s3 (.v (.d (.int (i : Nat)))) s5 s6 (.v (.d (.list (toldL rs)))) s8 hp) = .ok (.d (.str (ans1 rs[i]))) (sS scr s2 s3 (.v (.d (.int (i : Nat)))) s5 s6 (.v (.d (.list (toldL rs)))) s8 hp) := by
  rw [mIxNG_ap]
  show gIxG (.c (.d (.list (toldL rs)))) (.d (.int ((i : Nat) + 1))) _ = _
  have : L2.atI (toldL rs) ((i + 1 : Nat) : Int) = some (.str (ans1 rs[i])) := by
    rw [atI_nat (by unfold toldL; rw [List.length_cons, List.length_map]; omega)]
    unfold toldL
    rw [List.getElem_cons_succ, List.getElem_map]
  exact ixg_list this
theorem t_bad {rs : List Str} {i : Nat} (hi : i < rs.length) (hr : ∀ r ∈ rs, r ∈ RW) : mAndV (m2 (lift2 pNe) (mIxNG 3 (mVar 4)) (mC (.str ""))) (mNotV (mCallL 1 (F__law_has_form Ad0) (mCons (mIxNG 3 (mVar 4)) mNil))) (sS scr s2 (.v (.d (rowsD rs))) (.v (.d (.int (i : Nat)))) s5 s6 s7 s8 hp) =
    .ok (.d (.bool (!(rs[i] == "") && !formB rs[i]))) (sS scr s2 (.v (.d (rowsD rs))) (.v (.d (.int (i : Nat)))) s5 s6 s7 s8 hp) := by
  have e1 : mCallL 1 (F__law_has_form Ad0) (mCons (mIxNG 3 (mVar 4)) mNil) (sS scr s2 (.v (.d (rowsD rs))) (.v (.d (.int (i : Nat)))) s5 s6 s7 s8 hp) = .ok (.d (.bool (formB rs[i]))) (sS scr s2 (.v (.d (rowsD rs))) (.v (.d (.int (i : Nat)))) s5 s6 s7 s8 hp) := by
    refine callL_ok (args := [.d (.str rs[i])]) ?_ rfl rfl (form_eq (hr _ (List.getElem_mem hi)))
    rw [mCons_ap, ix_rows hi]
    rfl
  unfold mAndV mNotV
  rw [mBind_ap, mTru_ap, m2_ap, ix_rows hi, rb_ok, mBind_ap, mC_ap, rb_ok, lift2_ap, pNe_str]
  cases rs[i] == ""
  · show mBind (mTru (mCallL 1 (F__law_has_form Ad0) (mCons (mIxNG 3 (mVar 4)) mNil))) _ _ = _
    rw [mBind_ap, mTru_ap, e1]
    cases formB rs[i] <;> rfl
  · rfl
theorem ne_str {a b : Str} {ma mb : Mo CV} {c c1 c2 : CS} (h1 : ma c = .ok (.d (.str a)) c1) (h2 : mb c1 = .ok (.d (.str b)) c2) (h : (a == b) = true) : mTru (m2 (lift2 pNe) ma mb) c = .ok false c2 := by
  rw [mTru_ap, m2_ap, h1, rb_ok, mBind_ap, h2, rb_ok, lift2_ap, pNe_str, h]
  rfl
theorem ne_bool {a b : Bool} {ma mb : Mo CV} {c c1 c2 : CS} (h1 : ma c = .ok (.d (.bool a)) c1) (h2 : mb c1 = .ok (.d (.bool b)) c2) (h : a = b) : mTru (m2 (lift2 pNe) ma mb) c = .ok false c2 := by
  subst h
  rw [mTru_ap, m2_ap, h1, rb_ok, mBind_ap, h2, rb_ok, lift2_ap]
  cases a <;> rfl
theorem eq_strV {a b : Str} {ma mb : Mo CV} {c c1 c2 : CS} (h1 : ma c = .ok (.d (.str a)) c1) (h2 : mb c1 = .ok (.d (.str b)) c2) : m2 (lift2 pEq) ma mb c = .ok (.d (.bool (a == b))) c2 := by
  rw [m2_ap, h1, rb_ok, mBind_ap, h2, rb_ok, lift2_ap, pEq_str]
  rfl
theorem eq_strF {a b : Str} {ma mb : Mo CV} {c c1 c2 : CS} (h1 : ma c = .ok (.d (.str a)) c1) (h2 : mb c1 = .ok (.d (.str b)) c2) (h : (a == b) = false) : mTru (m2 (lift2 pEq) ma mb) c = .ok false c2 := by
  rw [mTru_ap, eq_strV h1 h2, h]
  rfl
theorem ix_ok {rs : List Str} {s8 s6 s3 : Sl} : mIxNG 7 (mC (.int 0)) (sS scr s2 s3 s4 s5 s6 (.v (.d (.list (toldL rs)))) s8 hp) = .ok (.d (.str "ok")) (sS scr s2 s3 s4 s5 s6 (.v (.d (.list (toldL rs)))) s8 hp) := by
  rw [mIxNG_ap]
  show gIxG (.c (.d (.list (toldL rs)))) (.d (.int ((0 : Nat) : Int))) _ = _
  have : L2.atI (toldL rs) ((0 : Nat) : Int) = some (.str "ok") := by
    rw [atI_nat (by unfold toldL; rw [List.length_cons]; omega)]
    rfl
  exact ixg_list this
theorem t_cond {rs : List Str} {i : Nat} (hi : i < rs.length) (hr : ∀ r ∈ rs, r ∈ RW) :
    mOr (mTru (m2 (lift2 pNe) (mIxNG 7 (mC (.int 0))) (mC (.str "ok")))) (mOr (mTru (m2 (lift2 pNe) (m2 (lift2 pEq) (mIxNG 7 (m2 (lift2 pAdd) (mVar 4) (mC (.int 1)))) (mC (.str "bad"))) (mVar 8))) (mOr (mTru (m2 (lift2 pNe) (m2 (lift2 pEq) (mIxNG 7 (m2 (lift2 pAdd) (mVar 4) (mC (.int 1)))) (mC (.str ""))) (m2 (lift2 pEq) (mIxNG 3 (mVar 4)) (mC (.str ""))))) (mTru (m2 (lift2 pEq) (mIxNG 7 (m2 (lift2 pAdd) (mVar 4) (mC (.int 1)))) (mC (.str "none"))))))
      (sS scr s2 (.v (.d (rowsD rs))) (.v (.d (.int (i : Nat)))) s5 s6 (.v (.d (.list (toldL rs)))) (.v (.d (.bool (!(rs[i] == "") && !formB rs[i])))) hp) = .ok false (sS scr s2 (.v (.d (rowsD rs))) (.v (.d (.int (i : Nat)))) s5 s6 (.v (.d (.list (toldL rs)))) (.v (.d (.bool (!(rs[i] == "") && !formB rs[i])))) hp) := by
  obtain ⟨_, k1, k2, k3⟩ := run1 (hr _ (List.getElem_mem hi))
  refine or_ff (ne_str (a := "ok") (b := "ok") ix_ok rfl (by decide +kernel)) ?_
  refine or_ff (ne_bool (eq_strV (ix_told hi) rfl) rfl (by simpa using k1)) ?_
  refine or_ff (ne_bool (eq_strV (ix_told hi) rfl) (eq_strV (ix_rows hi) rfl) (by simpa using k2)) ?_
  exact eq_strF (ix_told hi) rfl k3
end
theorem t_rg {scr : PyData} {s2 s4 s5 s6 s7 s8 : Sl} {hp : List CO} {rs : List Str} (hl : rs.length ≤ 60) : mRg1 (mBind (mPeek 3) gLen) (sS scr s2 (.v (.d (rowsD rs))) s4 s5 s6 s7 s8 hp) = .ok (rgL 0 rs.length) (sS scr s2 (.v (.d (rowsD rs))) s4 s5 s6 s7 s8 hp) := by
  have e : mBind (mPeek 3) gLen (sS scr s2 (.v (.d (rowsD rs))) s4 s5 s6 s7 s8 hp) = .ok (.d (.int (rs.length : Nat))) (sS scr s2 (.v (.d (rowsD rs))) s4 s5 s6 s7 s8 hp) := by
    rw [mBind_ap, mPeek_ap]
    show Res.bind (Res.ok (BV.c (.d (rowsD rs))) _) _ = _
    rw [rb_ok]
    unfold gLen
    rw [gO_ap]
    have : lenB (BV.c (.d (rowsD rs))) hp = some rs.length := by
      show some (rs.map PyData.str).length = _
      rw [List.length_map]
    rw [this]
    rfl
  rw [mRg1_ap, e, rb_ok, mBind_ap]
  show Res.bind (Res.ok ((rs.length : Nat) : Int) _) _ = _
  have ok : okRg ((rs.length : Nat) : Int) = true := by
    unfold okRg
    simp
    omega
  rw [rb_ok, if_pos ok, mRet_ap, Int.toNat_natCast]
/-- one turn -/
theorem law_turn (h : Strm nums) {scr : PyData} {s2 s3 s4 s5 s6 s7 s8 : Sl} {k : Nat} (hk : k ≤ 1000) {D : RS → Prop} (hD : ∀ s3 s4 s5 s6 s7 s8 (k2 : Nat), k2 ≤ k + 190 → D (.nx (sS scr s2 s3 s4 s5 s6 s7 s8 [stO nums (k2 : Nat)]))) :
    Wp D (sSeq (sOwn 3 (mLc (mRg1 (m2 (lift2 pAdd) (mC (.int 1)) (mCall 2 (F__law_next Ad0) (mCons (mVar 1) (mCons (mC (.int 60)) mNil))))) (gN 4) mYes (mCall 1 (F__law_row Ad0) (mCons (mVar 1) mNil)) [4]))
  (sSeq (sOwn 5 (mLc (mItems (mVar 3)) (gN 6) mYes (m2 (lift2 pMulS) (mIxG (mFz (mLst (mCons (mC (.str "none")) (mCons (mC (.str "bad")) mNil)))) (mBind (mBo (mNotV (mCallL 1 (F__law_has_form Ad0) (mCons (mVar 6) mNil)))) gInt)) (mBind (mBo (m2 (lift2 pNe) (mVar 6) (mC (.str "")))) gInt)) [6]))
  (sSeq (sIf (mNot (mTru (mCall 2 (F__law_same Ad0) (mCons (mCallL 1 (F_run_script Ad0) (mCons (mJoin (mC (.str "\n")) (mPeek 3)) mNil)) (mCons (mVar 5) mNil))))) (sRet (mC (.bool false))) sNx)
  (sSeq (sSet 7 (mCallL 1 (F_run_script Ad0) (mCons (mJoin (mC (.str "\n")) (mBf (mCat (mFz (mLst (mCons (mC (.str "hall")) mNil))) (mVar 3)))) mNil)))
  (sFor (mRg1 (mBind (mPeek 3) gLen)) (gN 4)
  (sSeq (sSet 8 (mAndV (m2 (lift2 pNe) (mIxNG 3 (mVar 4)) (mC (.str ""))) (mNotV (mCallL 1 (F__law_has_form Ad0) (mCons (mIxNG 3 (mVar 4)) mNil)))))
  (sIf (mOr (mTru (m2 (lift2 pNe) (mIxNG 7 (mC (.int 0))) (mC (.str "ok")))) (mOr (mTru (m2 (lift2 pNe) (m2 (lift2 pEq) (mIxNG 7 (m2 (lift2 pAdd) (mVar 4) (mC (.int 1)))) (mC (.str "bad"))) (mVar 8))) (mOr (mTru (m2 (lift2 pNe) (m2 (lift2 pEq) (mIxNG 7 (m2 (lift2 pAdd) (mVar 4) (mC (.int 1)))) (mC (.str ""))) (m2 (lift2 pEq) (mIxNG 3 (mVar 4)) (mC (.str ""))))) (mTru (m2 (lift2 pEq) (mIxNG 7 (m2 (lift2 pAdd) (mVar 4) (mC (.int 1)))) (mC (.str "none"))))))) (sRet (mC (.bool false))) sNx))))))) (sS scr s2 s3 s4 s5 s6 s7 s8 [stO nums (k : Nat)]) := by
  obtain ⟨rs, r1, r2, r3, k2, hk2, e⟩ := t_rows h (scr := scr) (s2 := s2) (s3 := s3) (s4 := s4) (s5 := s5) (s6 := s6) (s7 := s7) (s8 := s8) (k := k) hk
  generalize [stO nums (k : Nat)] = hp0 at e ⊢
  refine .seq (.own (x := rs.map .str) e (go ?_))
  refine .seq (.own (x := dueL rs) (c1 := sS scr s2 (.v (.d (rowsD rs))) (keep s4) s5 (keep s6) s7 s8 [stO nums (k2 : Nat)]) (t_due r2 r3) (go ?_))
  refine .seq (.iff (c1 := sS scr s2 (.v (.d (rowsD rs))) (keep s4) (.v (.d (.list (dueL rs)))) (keep s6) s7 s8 [stO nums (k2 : Nat)]) (t_same r1 r2 r3) (.nx (go ?_)))
  refine .seq (.set (x := .d (.list (toldL rs))) (c1 := sS scr s2 (.v (.d (rowsD rs))) (keep s4) (.v (.d (.list (dueL rs)))) (keep s6) s7 s8 [stO nums (k2 : Nat)]) (t_told r2 r3) (go ?_))
  refine .for (xs := rgL 0 rs.length) (c1 := sS scr s2 (.v (.d (rowsD rs))) (keep s4) (.v (.d (.list (dueL rs)))) (keep s6) (.v (.d (.list (toldL rs)))) s8 [stO nums (k2 : Nat)]) ?_
    (fun _ c => ∃ s4 s8, c = sS scr s2 (.v (.d (rowsD rs))) s4 (.v (.d (.list (dueL rs)))) (keep s6) (.v (.d (.list (toldL rs)))) s8 [stO nums (k2 : Nat)]) ⟨_, _, rfl⟩ ?_ ?_
  · exact t_rg r2
  · rintro pre x post c hx ⟨s4, s8, rfl⟩
    obtain ⟨rfl, hi⟩ := rgl_mem hx
    refine ⟨sS scr s2 (.v (.d (rowsD rs))) (.v (.d (.int (pre.length : Nat)))) (.v (.d (.list (dueL rs)))) (keep s6) (.v (.d (.list (toldL rs)))) s8 [stO nums (k2 : Nat)], rfl, ?_⟩
    refine .seq (.set (x := .d (.bool (!(rs[pre.length] == "") && !formB rs[pre.length]))) (c1 := sS scr s2 (.v (.d (rowsD rs))) (.v (.d (.int (pre.length : Nat)))) (.v (.d (.list (dueL rs)))) (keep s6) (.v (.d (.list (toldL rs)))) s8 [stO nums (k2 : Nat)]) (t_bad hi r3) (go ?_))
    refine .iff (c1 := sS scr s2 (.v (.d (rowsD rs))) (.v (.d (.int (pre.length : Nat)))) (.v (.d (.list (dueL rs)))) (keep s6) (.v (.d (.list (toldL rs)))) (.v (.d (.bool (!(rs[pre.length] == "") && !formB rs[pre.length])))) [stO nums (k2 : Nat)]) (t_cond hi r3) (.nx ?_)
    exact ⟨_, _, rfl⟩
  · rintro c ⟨s4, s8, rfl⟩
    exact hD _ _ _ _ _ _ k2 hk2
theorem mul_s {s : Str} {n : Int} {c : CS} (h : n ≤ 100000 ∧ -100 ≤ n ∧ s.length ≤ 100) : m2 (lift2 pMulS) (mC (.str s)) (mC (.int n)) c = .ok (.d (.str (repS s n))) c := by
  rw [m2_ap, mC_ap, rb_ok, mBind_ap, mC_ap, rb_ok, lift2_ap]
  show mOpt (Option.map CV.d (if n ≤ 100000 ∧ -100 ≤ n ∧ s.length ≤ 100 then some (.str (repS s n)) else none)) c = _
  rw [if_pos h]
  rfl
def limL : List PyData := [.list (List.replicate 80 (.str "")), .list [.str "large"], .list [.str "bad"], .list [.str "large"]]
theorem law_true : ∀ ns : List Int, ns.length ≤ 63 → ∃ hp, F_law Ad0 [.d (.list (ns.map .int))] [] = .ok (.d (.bool true)) hp := by
  intro ns hl
  obtain ⟨nums, h1, h2, h3⟩ := stream_eq hl []
  rw [← stream_is] at h3
  have h : Strm nums := ⟨h1, h2⟩
  refine fn_wp (m := m_law Ad0) (n := 10) (P := fun r => ∃ hp, r = .ok (.d (.bool true)) hp) ?_
  generalize PyData.list (ns.map .int) = scr at h3
  refine .seq (.set (x := .r 0) (c1 := ⟨[.v (.d scr), .un, .un, .un, .un, .un, .un, .un, .un, .un], [stO nums 0]⟩) ?_ (go ?_))
  · show mNewD _ ⟨[.v (.d scr), .un, .un, .un, .un, .un, .un, .un, .un, .un], []⟩ = _
    rw [mNewD_ap, mCons_ap, show mCall 1 (F__law_stream Ad0) (mCons (mVar 0) mNil) ⟨[.v (.d scr), .un, .un, .un, .un, .un, .un, .un, .un, .un], []⟩ = .ok _ ⟨[.v (.d scr), .un, .un, .un, .un, .un, .un, .un, .un, .un], []⟩ from call_ok rfl rfl h3]
    rfl
  refine .seq (.for (xs := rgL 0 3) (c1 := sS scr .un .un .un .un .un .un .un [stO nums 0]) rfl
    (fun pre c => ∃ s2 s3 s4 s5 s6 s7 s8 k, c = sS scr s2 s3 s4 s5 s6 s7 s8 [stO nums ((k : Nat) : Int)] ∧ k ≤ 190 * pre.length) ⟨_, _, _, _, _, _, _, 0, rfl, by decide⟩ ?_ ?_)
  · rintro pre x post c hx ⟨s2, s3, s4, s5, s6, s7, s8, k, rfl, hk⟩
    have hlt := (rgl_mem hx).2
    refine ⟨sS scr (.v (.d x)) s3 s4 s5 s6 s7 s8 [stO nums ((k : Nat) : Int)], rfl, ?_⟩
    refine law_turn h (by omega) fun s3 s4 s5 s6 s7 s8 k' hk' => ?_
    exact ⟨_, s3, s4, s5, s6, s7, s8, k', rfl, by rw [List.length_append, List.length_singleton]; omega⟩
  · rintro c ⟨s2, s3, s4, s5, s6, s7, s8, k, rfl, hk⟩
    generalize [stO nums ((k : Nat) : Int)] = hp
    have q1 : mCallL 1 (F__law_run Ad0) (mCons (m2 (lift2 pMulS) (mC (.str "\n")) (mC (.int 79))) mNil) (sS scr s2 s3 s4 s5 s6 s7 s8 hp) = .ok (.d (.list (List.replicate 80 (.str "")))) (sS scr s2 s3 s4 s5 s6 s7 s8 hp) :=
      callL_ok (args := [.d (.str (repS "\n" 79))]) (by rw [mCons_ap, mul_s (by decide)]; rfl) rfl rfl (lim1 [])
    have q2 : mCallL 1 (F__law_run Ad0) (mCons (m2 (lift2 pMulS) (mC (.str "\n")) (mC (.int 80))) mNil) (sS scr s2 s3 s4 s5 s6 s7 s8 hp) = .ok (.d (.list [.str "large"])) (sS scr s2 s3 s4 s5 s6 s7 s8 hp) :=
      callL_ok (args := [.d (.str (repS "\n" 80))]) (by rw [mCons_ap, mul_s (by decide)]; rfl) rfl rfl (lim2 [])
    have q3 : mCallL 1 (F__law_run Ad0) (mCons (m2 (lift2 pMulS) (mC (.str "x")) (mC (.int 20000))) mNil) (sS scr s2 s3 s4 s5 s6 s7 s8 hp) = .ok (.d (.list [.str "bad"])) (sS scr s2 s3 s4 s5 s6 s7 s8 hp) :=
      callL_ok (args := [.d (.str (repS "x" 20000))]) (by rw [mCons_ap, mul_s (by decide)]; rfl) rfl rfl (lim3 [])
    have q4 : mCallL 1 (F__law_run Ad0) (mCons (m2 (lift2 pMulS) (mC (.str "x")) (mC (.int 20001))) mNil) (sS scr s2 s3 s4 s5 s6 s7 s8 hp) = .ok (.d (.list [.str "large"])) (sS scr s2 s3 s4 s5 s6 s7 s8 hp) :=
      callL_ok (args := [.d (.str (repS "x" 20001))]) (by rw [mCons_ap, mul_s (by decide)]; rfl) rfl rfl (lim4 [])
    refine go (.seq (.own (x := limL) (c1 := sS scr s2 s3 s4 s5 s6 s7 s8 hp) ?_ (go ?_)))
    · rw [mLst_ap, mCons_ap, q1, rb_ok, mBind_ap, mCons_ap, q2, rb_ok, mBind_ap, mCons_ap, q3, rb_ok, mBind_ap, mCons_ap, q4]
      rfl
    · refine .ret (x := .d (.bool true)) (c1 := ⟨[.v (.d scr), .v (.r 0), s2, s3, s4, s5, s6, s7, s8, .v (.d (.list limL))], hp⟩) ?_ ⟨hp, rfl⟩
      kernel_rfl
end Lw

set_option Elab.async false
set_option maxRecDepth 100000
set_option maxHeartbeats 4000000
namespace Lw
open PySem PySem.Spec PyProof.Rows L2 Cl
theorem all_mk {P : Program} {w : World} {K : PySem.W.Frag} {h : Heap} {mg : Str → Option Value} {fa : Addr} (X : K.In h) (G : h.Ns mainGlobals mg) (hfa : mg "law" = some (.ref fa))
    {t_FIRST : Tok} {t_LATER : Tok} {t_MAX_HELD : Tok} {t_MAX_LOG : Tok} {t_MAX_NAME : Tok} {t_MAX_ROWS : Tok} {t_MAX_SIGNS : Tok} {t_MAX_STATES : Tok} {t_MAX_TEXT : Tok} {t_MAX_WORD : Tok} {a_NAMED : Addr} {od_NAMED : Option Addr} {sl_NAMED : Array (Option Value)} {m_NAMED : Nat} {t0_NAMED : Tok} {t1_NAMED : Tok} {t2_NAMED : Tok} {a_NUMBERED : Addr} {od_NUMBERED : Option Addr} {sl_NUMBERED : Array (Option Value)} {m_NUMBERED : Nat} {t0_NUMBERED : Tok} {t1_NUMBERED : Tok} {t2_NUMBERED : Tok} {a_SINGLE : Addr} {od_SINGLE : Option Addr} {sl_SINGLE : Array (Option Value)} {m_SINGLE : Nat} {t0_SINGLE : Tok} {t1_SINGLE : Tok} {t2_SINGLE : Tok} {t3_SINGLE : Tok} {t4_SINGLE : Tok} {t5_SINGLE : Tok} {f__law_is_digits : Addr} {oc__law_is_digits kV__law_is_digits dc__law_is_digits pm__law_is_digits cd__law_is_digits ct__law_is_digits : Value} {od__law_is_digits an__law_is_digits : Option Addr} {sl__law_is_digits : Array (Option Value)} {f__law_has_form : Addr} {oc__law_has_form kV__law_has_form dc__law_has_form pm__law_has_form cd__law_has_form ct__law_has_form : Value} {od__law_has_form an__law_has_form : Option Addr} {sl__law_has_form : Array (Option Value)} {f__law_next : Addr} {oc__law_next kV__law_next dc__law_next pm__law_next cd__law_next ct__law_next : Value} {od__law_next an__law_next : Option Addr} {sl__law_next : Array (Option Value)} {f__law_one : Addr} {oc__law_one kV__law_one dc__law_one pm__law_one cd__law_one ct__law_one : Value} {od__law_one an__law_one : Option Addr} {sl__law_one : Array (Option Value)} {f__law_row : Addr} {oc__law_row kV__law_row dc__law_row pm__law_row cd__law_row ct__law_row : Value} {od__law_row an__law_row : Option Addr} {sl__law_row : Array (Option Value)} {f_Desk___init__ : Addr} {oc_Desk___init__ kV_Desk___init__ dc_Desk___init__ pm_Desk___init__ cd_Desk___init__ ct_Desk___init__ : Value} {od_Desk___init__ an_Desk___init__ : Option Addr} {sl_Desk___init__ : Array (Option Value)} {C_Desk : Addr} {f_Hall_image : Addr} {oc_Hall_image kV_Hall_image dc_Hall_image pm_Hall_image cd_Hall_image ct_Hall_image : Value} {od_Hall_image an_Hall_image : Option Addr} {sl_Hall_image : Array (Option Value)} {C_Hall : Addr} {f_found_in : Addr} {oc_found_in kV_found_in dc_found_in pm_found_in cd_found_in ct_found_in : Value} {od_found_in an_found_in : Option Addr} {sl_found_in : Array (Option Value)} {f_Hall_log : Addr} {oc_Hall_log kV_Hall_log dc_Hall_log pm_Hall_log cd_Hall_log ct_Hall_log : Value} {od_Hall_log an_Hall_log : Option Addr} {sl_Hall_log : Array (Option Value)} {f_Hall_logs : Addr} {oc_Hall_logs kV_Hall_logs dc_Hall_logs pm_Hall_logs cd_Hall_logs ct_Hall_logs : Value} {od_Hall_logs an_Hall_logs : Option Addr} {sl_Hall_logs : Array (Option Value)} {f_Hall_machine : Addr} {oc_Hall_machine kV_Hall_machine dc_Hall_machine pm_Hall_machine cd_Hall_machine ct_Hall_machine : Value} {od_Hall_machine an_Hall_machine : Option Addr} {sl_Hall_machine : Array (Option Value)} {f_Hall_machines : Addr} {oc_Hall_machines kV_Hall_machines dc_Hall_machines pm_Hall_machines cd_Hall_machines ct_Hall_machines : Value} {od_Hall_machines an_Hall_machines : Option Addr} {sl_Hall_machines : Array (Option Value)} {f_Hall_promises : Addr} {oc_Hall_promises kV_Hall_promises dc_Hall_promises pm_Hall_promises cd_Hall_promises ct_Hall_promises : Value} {od_Hall_promises an_Hall_promises : Option Addr} {sl_Hall_promises : Array (Option Value)} {f_is_good : Addr} {oc_is_good kV_is_good dc_is_good pm_is_good cd_is_good ct_is_good : Value} {od_is_good an_is_good : Option Addr} {sl_is_good : Array (Option Value)} {f_least_good : Addr} {oc_least_good kV_least_good dc_least_good pm_least_good cd_least_good ct_least_good : Value} {od_least_good an_least_good : Option Addr} {sl_least_good : Array (Option Value)} {f_listed : Addr} {oc_listed kV_listed dc_listed pm_listed cd_listed ct_listed : Value} {od_listed an_listed : Option Addr} {sl_listed : Array (Option Value)} {f_log_text : Addr} {oc_log_text kV_log_text dc_log_text pm_log_text cd_log_text ct_log_text : Value} {od_log_text an_log_text : Option Addr} {sl_log_text : Array (Option Value)} {f_is_word : Addr} {oc_is_word kV_is_word dc_is_word pm_is_word cd_is_word ct_is_word : Value} {od_is_word an_is_word : Option Addr} {sl_is_word : Array (Option Value)} {f_check_log : Addr} {oc_check_log kV_check_log dc_check_log pm_check_log cd_check_log ct_check_log : Value} {od_check_log an_check_log : Option Addr} {sl_check_log : Array (Option Value)} {f_is_one : Addr} {oc_is_one kV_is_one dc_is_one pm_is_one cd_is_one ct_is_one : Value} {od_is_one an_is_one : Option Addr} {sl_is_one : Array (Option Value)} {f_number_of : Addr} {oc_number_of kV_number_of dc_number_of pm_number_of cd_number_of ct_number_of : Value} {od_number_of an_number_of : Option Addr} {sl_number_of : Array (Option Value)} {f_rows_in : Addr} {oc_rows_in kV_rows_in dc_rows_in pm_rows_in cd_rows_in ct_rows_in : Value} {od_rows_in an_rows_in : Option Addr} {sl_rows_in : Array (Option Value)} {f_read_log : Addr} {oc_read_log kV_read_log dc_read_log pm_read_log cd_read_log ct_read_log : Value} {od_read_log an_read_log : Option Addr} {sl_read_log : Array (Option Value)} {f_rows_told : Addr} {oc_rows_told kV_rows_told dc_rows_told pm_rows_told cd_rows_told ct_rows_told : Value} {od_rows_told an_rows_told : Option Addr} {sl_rows_told : Array (Option Value)} {f_told : Addr} {oc_told kV_told dc_told pm_told cd_told ct_told : Value} {od_told an_told : Option Addr} {sl_told : Array (Option Value)} {f_Desk_asked : Addr} {oc_Desk_asked kV_Desk_asked dc_Desk_asked pm_Desk_asked cd_Desk_asked ct_Desk_asked : Value} {od_Desk_asked an_Desk_asked : Option Addr} {sl_Desk_asked : Array (Option Value)} {f_Hall_drop_machine : Addr} {oc_Hall_drop_machine kV_Hall_drop_machine dc_Hall_drop_machine pm_Hall_drop_machine cd_Hall_drop_machine ct_Hall_drop_machine : Value} {od_Hall_drop_machine an_Hall_drop_machine : Option Addr} {sl_Hall_drop_machine : Array (Option Value)} {f_Hall_give : Addr} {oc_Hall_give kV_Hall_give dc_Hall_give pm_Hall_give cd_Hall_give ct_Hall_give : Value} {od_Hall_give an_Hall_give : Option Addr} {sl_Hall_give : Array (Option Value)} {f_Hall_grow : Addr} {oc_Hall_grow kV_Hall_grow dc_Hall_grow pm_Hall_grow cd_Hall_grow ct_Hall_grow : Value} {od_Hall_grow an_Hall_grow : Option Addr} {sl_Hall_grow : Array (Option Value)} {f_Hall_hold : Addr} {oc_Hall_hold kV_Hall_hold dc_Hall_hold pm_Hall_hold cd_Hall_hold ct_Hall_hold : Value} {od_Hall_hold an_Hall_hold : Option Addr} {sl_Hall_hold : Array (Option Value)} {f_check_label : Addr} {oc_check_label kV_check_label dc_check_label pm_check_label cd_check_label ct_check_label : Value} {od_check_label an_check_label : Option Addr} {sl_check_label : Array (Option Value)} {f_Hall_promise : Addr} {oc_Hall_promise kV_Hall_promise dc_Hall_promise pm_Hall_promise cd_Hall_promise ct_Hall_promise : Value} {od_Hall_promise an_Hall_promise : Option Addr} {sl_Hall_promise : Array (Option Value)} {f_Hall_put_machine : Addr} {oc_Hall_put_machine kV_Hall_put_machine dc_Hall_put_machine pm_Hall_put_machine cd_Hall_put_machine ct_Hall_put_machine : Value} {od_Hall_put_machine an_Hall_put_machine : Option Addr} {sl_Hall_put_machine : Array (Option Value)} {f_Hall_release : Addr} {oc_Hall_release kV_Hall_release dc_Hall_release pm_Hall_release cd_Hall_release ct_Hall_release : Value} {od_Hall_release an_Hall_release : Option Addr} {sl_Hall_release : Array (Option Value)} {f_Hall_undo : Addr} {oc_Hall_undo kV_Hall_undo dc_Hall_undo pm_Hall_undo cd_Hall_undo ct_Hall_undo : Value} {od_Hall_undo an_Hall_undo : Option Addr} {sl_Hall_undo : Array (Option Value)} {f_States___init__ : Addr} {oc_States___init__ kV_States___init__ dc_States___init__ pm_States___init__ cd_States___init__ ct_States___init__ : Value} {od_States___init__ an_States___init__ : Option Addr} {sl_States___init__ : Array (Option Value)} {C_States : Addr} {f_States_take : Addr} {oc_States_take kV_States_take dc_States_take pm_States_take cd_States_take ct_States_take : Value} {od_States_take an_States_take : Option Addr} {sl_States_take : Array (Option Value)} {f_rising : Addr} {oc_rising kV_rising dc_rising pm_rising cd_rising ct_rising : Value} {od_rising an_rising : Option Addr} {sl_rising : Array (Option Value)} {f_check_words : Addr} {oc_check_words kV_check_words dc_check_words pm_check_words cd_check_words ct_check_words : Value} {od_check_words an_check_words : Option Addr} {sl_check_words : Array (Option Value)} {f_check_machine : Addr} {oc_check_machine kV_check_machine dc_check_machine pm_check_machine cd_check_machine ct_check_machine : Value} {od_check_machine an_check_machine : Option Addr} {sl_check_machine : Array (Option Value)} {f_read_words : Addr} {oc_read_words kV_read_words dc_read_words pm_read_words cd_read_words ct_read_words : Value} {od_read_words an_read_words : Option Addr} {sl_read_words : Array (Option Value)} {f_read_machine : Addr} {oc_read_machine kV_read_machine dc_read_machine pm_read_machine cd_read_machine ct_read_machine : Value} {od_read_machine an_read_machine : Option Addr} {sl_read_machine : Array (Option Value)} {f_Desk_changed : Addr} {oc_Desk_changed kV_Desk_changed dc_Desk_changed pm_Desk_changed cd_Desk_changed ct_Desk_changed : Value} {od_Desk_changed an_Desk_changed : Option Addr} {sl_Desk_changed : Array (Option Value)} {f_Hall___init__ : Addr} {oc_Hall___init__ kV_Hall___init__ dc_Hall___init__ pm_Hall___init__ cd_Hall___init__ ct_Hall___init__ : Value} {od_Hall___init__ an_Hall___init__ : Option Addr} {sl_Hall___init__ : Array (Option Value)} {f_Desk_answered : Addr} {oc_Desk_answered kV_Desk_answered dc_Desk_answered pm_Desk_answered cd_Desk_answered ct_Desk_answered : Value} {od_Desk_answered an_Desk_answered : Option Addr} {sl_Desk_answered : Array (Option Value)} {f_read_number : Addr} {oc_read_number kV_read_number dc_read_number pm_read_number cd_read_number ct_read_number : Value} {od_read_number an_read_number : Option Addr} {sl_read_number : Array (Option Value)} {f_numbered : Addr} {oc_numbered kV_numbered dc_numbered pm_numbered cd_numbered ct_numbered : Value} {od_numbered an_numbered : Option Addr} {sl_numbered : Array (Option Value)} {f_read_line : Addr} {oc_read_line kV_read_line dc_read_line pm_read_line cd_read_line ct_read_line : Value} {od_read_line an_read_line : Option Addr} {sl_read_line : Array (Option Value)} {f_Desk_run_row : Addr} {oc_Desk_run_row kV_Desk_run_row dc_Desk_run_row pm_Desk_run_row cd_Desk_run_row ct_Desk_run_row : Value} {od_Desk_run_row an_Desk_run_row : Option Addr} {sl_Desk_run_row : Array (Option Value)} {f_run_script : Addr} {oc_run_script kV_run_script dc_run_script pm_run_script cd_run_script ct_run_script : Value} {od_run_script an_run_script : Option Addr} {sl_run_script : Array (Option Value)} {f__law_run : Addr} {oc__law_run kV__law_run dc__law_run pm__law_run cd__law_run ct__law_run : Value} {od__law_run an__law_run : Option Addr} {sl__law_run : Array (Option Value)} {f__law_same : Addr} {oc__law_same kV__law_same dc__law_same pm__law_same cd__law_same ct__law_same : Value} {od__law_same an__law_same : Option Addr} {sl__law_same : Array (Option Value)} {f__law_stream : Addr} {oc__law_stream kV__law_stream dc__law_stream pm__law_stream cd__law_stream ct__law_stream : Value} {od__law_stream an__law_stream : Option Addr} {sl__law_stream : Array (Option Value)} {f_law : Addr} {oc_law kV_law dc_law pm_law cd_law ct_law : Value} {od_law an_law : Option Addr} {sl_law : Array (Option Value)} {C_Missing : Addr} {C_NotAllowed : Addr} {C_TooLarge : Addr} {C_BadForm : Addr} {C_Broken : Addr} {C_WardenError : Addr} {I_BadForm : Addr}
    (b_abs : PySem.W.nsIn K mainGlobals "abs" = some none)
    (b_all : PySem.W.nsIn K mainGlobals "all" = some none)
    (b_any : PySem.W.nsIn K mainGlobals "any" = some none)
    (b_enumerate : PySem.W.nsIn K mainGlobals "enumerate" = some none)
    (b_int : PySem.W.nsIn K mainGlobals "int" = some none)
    (b_isinstance : PySem.W.nsIn K mainGlobals "isinstance" = some none)
    (b_len : PySem.W.nsIn K mainGlobals "len" = some none)
    (b_range : PySem.W.nsIn K mainGlobals "range" = some none)
    (b_repr : PySem.W.nsIn K mainGlobals "repr" = some none)
    (b_str : PySem.W.nsIn K mainGlobals "str" = some none)
    (b_tuple : PySem.W.nsIn K mainGlobals "tuple" = some none)
    (b_zip : PySem.W.nsIn K mainGlobals "zip" = some none)
    (c_FIRST : PySem.W.nsIn K mainGlobals "FIRST" = some (some (.str "abcdefghijklmnopqrstuvwxyz" t_FIRST)))
    (c_LATER : PySem.W.nsIn K mainGlobals "LATER" = some (some (.str "abcdefghijklmnopqrstuvwxyz0123456789" t_LATER)))
    (c_MAX_HELD : PySem.W.nsIn K mainGlobals "MAX_HELD" = some (some (.int 3 t_MAX_HELD)))
    (c_MAX_LOG : PySem.W.nsIn K mainGlobals "MAX_LOG" = some (some (.int 60 t_MAX_LOG)))
    (c_MAX_NAME : PySem.W.nsIn K mainGlobals "MAX_NAME" = some (some (.int 999 t_MAX_NAME)))
    (c_MAX_ROWS : PySem.W.nsIn K mainGlobals "MAX_ROWS" = some (some (.int 80 t_MAX_ROWS)))
    (c_MAX_SIGNS : PySem.W.nsIn K mainGlobals "MAX_SIGNS" = some (some (.int 20000 t_MAX_SIGNS)))
    (c_MAX_STATES : PySem.W.nsIn K mainGlobals "MAX_STATES" = some (some (.int 12 t_MAX_STATES)))
    (c_MAX_TEXT : PySem.W.nsIn K mainGlobals "MAX_TEXT" = some (some (.int 40000 t_MAX_TEXT)))
    (c_MAX_WORD : PySem.W.nsIn K mainGlobals "MAX_WORD" = some (some (.int 12 t_MAX_WORD)))
    (c_NAMED : PySem.W.nsIn K mainGlobals "NAMED" = some (some (.ref a_NAMED)))
    (l_NAMED : K.lookup a_NAMED = some ⟨.type "tuple", od_NAMED, .seq #[.str "drop" t0_NAMED, .str "release" t1_NAMED, .str "least" t2_NAMED] m_NAMED, sl_NAMED⟩)
    (c_NUMBERED : PySem.W.nsIn K mainGlobals "NUMBERED" = some (some (.ref a_NUMBERED)))
    (l_NUMBERED : K.lookup a_NUMBERED = some ⟨.type "tuple", od_NUMBERED, .seq #[.str "give" t0_NUMBERED, .str "text" t1_NUMBERED, .str "state" t2_NUMBERED] m_NUMBERED, sl_NUMBERED⟩)
    (c_SINGLE : PySem.W.nsIn K mainGlobals "SINGLE" = some (some (.ref a_SINGLE)))
    (l_SINGLE : K.lookup a_SINGLE = some ⟨.type "tuple", od_SINGLE, .seq #[.str "hall" t0_SINGLE, .str "undo" t1_SINGLE, .str "machines" t2_SINGLE, .str "logs" t3_SINGLE, .str "promises" t4_SINGLE, .str "image" t5_SINGLE] m_SINGLE, sl_SINGLE⟩)
    (n__law_is_digits : PySem.W.nsIn K mainGlobals "_law_is_digits" = some (some (.ref f__law_is_digits)))
    (l__law_is_digits : K.lookup f__law_is_digits = some ⟨oc__law_is_digits, od__law_is_digits, .func (PySem.W.fnOf "_law_is_digits" "_law_is_digits" (defArgs s__law_is_digits) (defBody s__law_is_digits) (defScope s__law_is_digits) .none kV__law_is_digits dc__law_is_digits pm__law_is_digits an__law_is_digits cd__law_is_digits ct__law_is_digits), sl__law_is_digits⟩)
    (d__law_is_digits : PySem.W.codeIn K cd__law_is_digits "_law_is_digits" = true)
    (k__law_is_digits : PySem.W.keepIn K (.ref f__law_is_digits) = true)
    (n__law_has_form : PySem.W.nsIn K mainGlobals "_law_has_form" = some (some (.ref f__law_has_form)))
    (l__law_has_form : K.lookup f__law_has_form = some ⟨oc__law_has_form, od__law_has_form, .func (PySem.W.fnOf "_law_has_form" "_law_has_form" (defArgs s__law_has_form) (defBody s__law_has_form) (defScope s__law_has_form) .none kV__law_has_form dc__law_has_form pm__law_has_form an__law_has_form cd__law_has_form ct__law_has_form), sl__law_has_form⟩)
    (d__law_has_form : PySem.W.codeIn K cd__law_has_form "_law_has_form" = true)
    (k__law_has_form : PySem.W.keepIn K (.ref f__law_has_form) = true)
    (n__law_next : PySem.W.nsIn K mainGlobals "_law_next" = some (some (.ref f__law_next)))
    (l__law_next : K.lookup f__law_next = some ⟨oc__law_next, od__law_next, .func (PySem.W.fnOf "_law_next" "_law_next" (defArgs s__law_next) (defBody s__law_next) (defScope s__law_next) .none kV__law_next dc__law_next pm__law_next an__law_next cd__law_next ct__law_next), sl__law_next⟩)
    (d__law_next : PySem.W.codeIn K cd__law_next "_law_next" = true)
    (k__law_next : PySem.W.keepIn K (.ref f__law_next) = true)
    (n__law_one : PySem.W.nsIn K mainGlobals "_law_one" = some (some (.ref f__law_one)))
    (l__law_one : K.lookup f__law_one = some ⟨oc__law_one, od__law_one, .func (PySem.W.fnOf "_law_one" "_law_one" (defArgs s__law_one) (defBody s__law_one) (defScope s__law_one) .none kV__law_one dc__law_one pm__law_one an__law_one cd__law_one ct__law_one), sl__law_one⟩)
    (d__law_one : PySem.W.codeIn K cd__law_one "_law_one" = true)
    (k__law_one : PySem.W.keepIn K (.ref f__law_one) = true)
    (n__law_row : PySem.W.nsIn K mainGlobals "_law_row" = some (some (.ref f__law_row)))
    (l__law_row : K.lookup f__law_row = some ⟨oc__law_row, od__law_row, .func (PySem.W.fnOf "_law_row" "_law_row" (defArgs s__law_row) (defBody s__law_row) (defScope s__law_row) .none kV__law_row dc__law_row pm__law_row an__law_row cd__law_row ct__law_row), sl__law_row⟩)
    (d__law_row : PySem.W.codeIn K cd__law_row "_law_row" = true)
    (k__law_row : PySem.W.keepIn K (.ref f__law_row) = true)
    (nC_Desk : PySem.W.nsIn K mainGlobals "Desk" = some (some (.ref C_Desk)))
    (at_Desk___init__ : PySem.W.findIn K (.ref C_Desk) "__init__" = some (some (.ref f_Desk___init__)))
    (l_Desk___init__ : K.lookup f_Desk___init__ = some ⟨oc_Desk___init__, od_Desk___init__, .func (PySem.W.fnOf "__init__" "Desk.__init__" (defArgs s_Desk___init__) (defBody s_Desk___init__) (defScope s_Desk___init__) .none kV_Desk___init__ dc_Desk___init__ pm_Desk___init__ an_Desk___init__ cd_Desk___init__ ct_Desk___init__), sl_Desk___init__⟩)
    (d_Desk___init__ : PySem.W.codeIn K cd_Desk___init__ "Desk.__init__" = true)
    (k_Desk___init__ : PySem.W.keepIn K (.ref f_Desk___init__) = true)
    (nC_Hall : PySem.W.nsIn K mainGlobals "Hall" = some (some (.ref C_Hall)))
    (at_Hall_image : PySem.W.findIn K (.ref C_Hall) "image" = some (some (.ref f_Hall_image)))
    (l_Hall_image : K.lookup f_Hall_image = some ⟨oc_Hall_image, od_Hall_image, .func (PySem.W.fnOf "image" "Hall.image" (defArgs s_Hall_image) (defBody s_Hall_image) (defScope s_Hall_image) .none kV_Hall_image dc_Hall_image pm_Hall_image an_Hall_image cd_Hall_image ct_Hall_image), sl_Hall_image⟩)
    (d_Hall_image : PySem.W.codeIn K cd_Hall_image "Hall.image" = true)
    (k_Hall_image : PySem.W.keepIn K (.ref f_Hall_image) = true)
    (n_found_in : PySem.W.nsIn K mainGlobals "found_in" = some (some (.ref f_found_in)))
    (l_found_in : K.lookup f_found_in = some ⟨oc_found_in, od_found_in, .func (PySem.W.fnOf "found_in" "found_in" (defArgs s_found_in) (defBody s_found_in) (defScope s_found_in) .none kV_found_in dc_found_in pm_found_in an_found_in cd_found_in ct_found_in), sl_found_in⟩)
    (d_found_in : PySem.W.codeIn K cd_found_in "found_in" = true)
    (k_found_in : PySem.W.keepIn K (.ref f_found_in) = true)
    (at_Hall_log : PySem.W.findIn K (.ref C_Hall) "log" = some (some (.ref f_Hall_log)))
    (l_Hall_log : K.lookup f_Hall_log = some ⟨oc_Hall_log, od_Hall_log, .func (PySem.W.fnOf "log" "Hall.log" (defArgs s_Hall_log) (defBody s_Hall_log) (defScope s_Hall_log) .none kV_Hall_log dc_Hall_log pm_Hall_log an_Hall_log cd_Hall_log ct_Hall_log), sl_Hall_log⟩)
    (d_Hall_log : PySem.W.codeIn K cd_Hall_log "Hall.log" = true)
    (k_Hall_log : PySem.W.keepIn K (.ref f_Hall_log) = true)
    (at_Hall_logs : PySem.W.findIn K (.ref C_Hall) "logs" = some (some (.ref f_Hall_logs)))
    (l_Hall_logs : K.lookup f_Hall_logs = some ⟨oc_Hall_logs, od_Hall_logs, .func (PySem.W.fnOf "logs" "Hall.logs" (defArgs s_Hall_logs) (defBody s_Hall_logs) (defScope s_Hall_logs) .none kV_Hall_logs dc_Hall_logs pm_Hall_logs an_Hall_logs cd_Hall_logs ct_Hall_logs), sl_Hall_logs⟩)
    (d_Hall_logs : PySem.W.codeIn K cd_Hall_logs "Hall.logs" = true)
    (k_Hall_logs : PySem.W.keepIn K (.ref f_Hall_logs) = true)
    (at_Hall_machine : PySem.W.findIn K (.ref C_Hall) "machine" = some (some (.ref f_Hall_machine)))
    (l_Hall_machine : K.lookup f_Hall_machine = some ⟨oc_Hall_machine, od_Hall_machine, .func (PySem.W.fnOf "machine" "Hall.machine" (defArgs s_Hall_machine) (defBody s_Hall_machine) (defScope s_Hall_machine) .none kV_Hall_machine dc_Hall_machine pm_Hall_machine an_Hall_machine cd_Hall_machine ct_Hall_machine), sl_Hall_machine⟩)
    (d_Hall_machine : PySem.W.codeIn K cd_Hall_machine "Hall.machine" = true)
    (k_Hall_machine : PySem.W.keepIn K (.ref f_Hall_machine) = true)
    (at_Hall_machines : PySem.W.findIn K (.ref C_Hall) "machines" = some (some (.ref f_Hall_machines)))
    (l_Hall_machines : K.lookup f_Hall_machines = some ⟨oc_Hall_machines, od_Hall_machines, .func (PySem.W.fnOf "machines" "Hall.machines" (defArgs s_Hall_machines) (defBody s_Hall_machines) (defScope s_Hall_machines) .none kV_Hall_machines dc_Hall_machines pm_Hall_machines an_Hall_machines cd_Hall_machines ct_Hall_machines), sl_Hall_machines⟩)
    (d_Hall_machines : PySem.W.codeIn K cd_Hall_machines "Hall.machines" = true)
    (k_Hall_machines : PySem.W.keepIn K (.ref f_Hall_machines) = true)
    (at_Hall_promises : PySem.W.findIn K (.ref C_Hall) "promises" = some (some (.ref f_Hall_promises)))
    (l_Hall_promises : K.lookup f_Hall_promises = some ⟨oc_Hall_promises, od_Hall_promises, .func (PySem.W.fnOf "promises" "Hall.promises" (defArgs s_Hall_promises) (defBody s_Hall_promises) (defScope s_Hall_promises) .none kV_Hall_promises dc_Hall_promises pm_Hall_promises an_Hall_promises cd_Hall_promises ct_Hall_promises), sl_Hall_promises⟩)
    (d_Hall_promises : PySem.W.codeIn K cd_Hall_promises "Hall.promises" = true)
    (k_Hall_promises : PySem.W.keepIn K (.ref f_Hall_promises) = true)
    (n_is_good : PySem.W.nsIn K mainGlobals "is_good" = some (some (.ref f_is_good)))
    (l_is_good : K.lookup f_is_good = some ⟨oc_is_good, od_is_good, .func (PySem.W.fnOf "is_good" "is_good" (defArgs s_is_good) (defBody s_is_good) (defScope s_is_good) .none kV_is_good dc_is_good pm_is_good an_is_good cd_is_good ct_is_good), sl_is_good⟩)
    (d_is_good : PySem.W.codeIn K cd_is_good "is_good" = true)
    (k_is_good : PySem.W.keepIn K (.ref f_is_good) = true)
    (n_least_good : PySem.W.nsIn K mainGlobals "least_good" = some (some (.ref f_least_good)))
    (l_least_good : K.lookup f_least_good = some ⟨oc_least_good, od_least_good, .func (PySem.W.fnOf "least_good" "least_good" (defArgs s_least_good) (defBody s_least_good) (defScope s_least_good) .none kV_least_good dc_least_good pm_least_good an_least_good cd_least_good ct_least_good), sl_least_good⟩)
    (d_least_good : PySem.W.codeIn K cd_least_good "least_good" = true)
    (k_least_good : PySem.W.keepIn K (.ref f_least_good) = true)
    (n_listed : PySem.W.nsIn K mainGlobals "listed" = some (some (.ref f_listed)))
    (l_listed : K.lookup f_listed = some ⟨oc_listed, od_listed, .func (PySem.W.fnOf "listed" "listed" (defArgs s_listed) (defBody s_listed) (defScope s_listed) .none kV_listed dc_listed pm_listed an_listed cd_listed ct_listed), sl_listed⟩)
    (d_listed : PySem.W.codeIn K cd_listed "listed" = true)
    (k_listed : PySem.W.keepIn K (.ref f_listed) = true)
    (n_log_text : PySem.W.nsIn K mainGlobals "log_text" = some (some (.ref f_log_text)))
    (l_log_text : K.lookup f_log_text = some ⟨oc_log_text, od_log_text, .func (PySem.W.fnOf "log_text" "log_text" (defArgs s_log_text) (defBody s_log_text) (defScope s_log_text) .none kV_log_text dc_log_text pm_log_text an_log_text cd_log_text ct_log_text), sl_log_text⟩)
    (d_log_text : PySem.W.codeIn K cd_log_text "log_text" = true)
    (k_log_text : PySem.W.keepIn K (.ref f_log_text) = true)
    (n_is_word : PySem.W.nsIn K mainGlobals "is_word" = some (some (.ref f_is_word)))
    (l_is_word : K.lookup f_is_word = some ⟨oc_is_word, od_is_word, .func (PySem.W.fnOf "is_word" "is_word" (defArgs s_is_word) (defBody s_is_word) (defScope s_is_word) .none kV_is_word dc_is_word pm_is_word an_is_word cd_is_word ct_is_word), sl_is_word⟩)
    (d_is_word : PySem.W.codeIn K cd_is_word "is_word" = true)
    (k_is_word : PySem.W.keepIn K (.ref f_is_word) = true)
    (n_check_log : PySem.W.nsIn K mainGlobals "check_log" = some (some (.ref f_check_log)))
    (l_check_log : K.lookup f_check_log = some ⟨oc_check_log, od_check_log, .func (PySem.W.fnOf "check_log" "check_log" (defArgs s_check_log) (defBody s_check_log) (defScope s_check_log) .none kV_check_log dc_check_log pm_check_log an_check_log cd_check_log ct_check_log), sl_check_log⟩)
    (d_check_log : PySem.W.codeIn K cd_check_log "check_log" = true)
    (k_check_log : PySem.W.keepIn K (.ref f_check_log) = true)
    (n_is_one : PySem.W.nsIn K mainGlobals "is_one" = some (some (.ref f_is_one)))
    (l_is_one : K.lookup f_is_one = some ⟨oc_is_one, od_is_one, .func (PySem.W.fnOf "is_one" "is_one" (defArgs s_is_one) (defBody s_is_one) (defScope s_is_one) .none kV_is_one dc_is_one pm_is_one an_is_one cd_is_one ct_is_one), sl_is_one⟩)
    (d_is_one : PySem.W.codeIn K cd_is_one "is_one" = true)
    (k_is_one : PySem.W.keepIn K (.ref f_is_one) = true)
    (n_number_of : PySem.W.nsIn K mainGlobals "number_of" = some (some (.ref f_number_of)))
    (l_number_of : K.lookup f_number_of = some ⟨oc_number_of, od_number_of, .func (PySem.W.fnOf "number_of" "number_of" (defArgs s_number_of) (defBody s_number_of) (defScope s_number_of) .none kV_number_of dc_number_of pm_number_of an_number_of cd_number_of ct_number_of), sl_number_of⟩)
    (d_number_of : PySem.W.codeIn K cd_number_of "number_of" = true)
    (k_number_of : PySem.W.keepIn K (.ref f_number_of) = true)
    (n_rows_in : PySem.W.nsIn K mainGlobals "rows_in" = some (some (.ref f_rows_in)))
    (l_rows_in : K.lookup f_rows_in = some ⟨oc_rows_in, od_rows_in, .func (PySem.W.fnOf "rows_in" "rows_in" (defArgs s_rows_in) (defBody s_rows_in) (defScope s_rows_in) .none kV_rows_in dc_rows_in pm_rows_in an_rows_in cd_rows_in ct_rows_in), sl_rows_in⟩)
    (d_rows_in : PySem.W.codeIn K cd_rows_in "rows_in" = true)
    (k_rows_in : PySem.W.keepIn K (.ref f_rows_in) = true)
    (n_read_log : PySem.W.nsIn K mainGlobals "read_log" = some (some (.ref f_read_log)))
    (l_read_log : K.lookup f_read_log = some ⟨oc_read_log, od_read_log, .func (PySem.W.fnOf "read_log" "read_log" (defArgs s_read_log) (defBody s_read_log) (defScope s_read_log) .none kV_read_log dc_read_log pm_read_log an_read_log cd_read_log ct_read_log), sl_read_log⟩)
    (d_read_log : PySem.W.codeIn K cd_read_log "read_log" = true)
    (k_read_log : PySem.W.keepIn K (.ref f_read_log) = true)
    (n_rows_told : PySem.W.nsIn K mainGlobals "rows_told" = some (some (.ref f_rows_told)))
    (l_rows_told : K.lookup f_rows_told = some ⟨oc_rows_told, od_rows_told, .func (PySem.W.fnOf "rows_told" "rows_told" (defArgs s_rows_told) (defBody s_rows_told) (defScope s_rows_told) .none kV_rows_told dc_rows_told pm_rows_told an_rows_told cd_rows_told ct_rows_told), sl_rows_told⟩)
    (d_rows_told : PySem.W.codeIn K cd_rows_told "rows_told" = true)
    (k_rows_told : PySem.W.keepIn K (.ref f_rows_told) = true)
    (n_told : PySem.W.nsIn K mainGlobals "told" = some (some (.ref f_told)))
    (l_told : K.lookup f_told = some ⟨oc_told, od_told, .func (PySem.W.fnOf "told" "told" (defArgs s_told) (defBody s_told) (defScope s_told) .none kV_told dc_told pm_told an_told cd_told ct_told), sl_told⟩)
    (d_told : PySem.W.codeIn K cd_told "told" = true)
    (k_told : PySem.W.keepIn K (.ref f_told) = true)
    (at_Desk_asked : PySem.W.findIn K (.ref C_Desk) "asked" = some (some (.ref f_Desk_asked)))
    (l_Desk_asked : K.lookup f_Desk_asked = some ⟨oc_Desk_asked, od_Desk_asked, .func (PySem.W.fnOf "asked" "Desk.asked" (defArgs s_Desk_asked) (defBody s_Desk_asked) (defScope s_Desk_asked) .none kV_Desk_asked dc_Desk_asked pm_Desk_asked an_Desk_asked cd_Desk_asked ct_Desk_asked), sl_Desk_asked⟩)
    (d_Desk_asked : PySem.W.codeIn K cd_Desk_asked "Desk.asked" = true)
    (k_Desk_asked : PySem.W.keepIn K (.ref f_Desk_asked) = true)
    (at_Hall_drop_machine : PySem.W.findIn K (.ref C_Hall) "drop_machine" = some (some (.ref f_Hall_drop_machine)))
    (l_Hall_drop_machine : K.lookup f_Hall_drop_machine = some ⟨oc_Hall_drop_machine, od_Hall_drop_machine, .func (PySem.W.fnOf "drop_machine" "Hall.drop_machine" (defArgs s_Hall_drop_machine) (defBody s_Hall_drop_machine) (defScope s_Hall_drop_machine) .none kV_Hall_drop_machine dc_Hall_drop_machine pm_Hall_drop_machine an_Hall_drop_machine cd_Hall_drop_machine ct_Hall_drop_machine), sl_Hall_drop_machine⟩)
    (d_Hall_drop_machine : PySem.W.codeIn K cd_Hall_drop_machine "Hall.drop_machine" = true)
    (k_Hall_drop_machine : PySem.W.keepIn K (.ref f_Hall_drop_machine) = true)
    (at_Hall_give : PySem.W.findIn K (.ref C_Hall) "give" = some (some (.ref f_Hall_give)))
    (l_Hall_give : K.lookup f_Hall_give = some ⟨oc_Hall_give, od_Hall_give, .func (PySem.W.fnOf "give" "Hall.give" (defArgs s_Hall_give) (defBody s_Hall_give) (defScope s_Hall_give) .none kV_Hall_give dc_Hall_give pm_Hall_give an_Hall_give cd_Hall_give ct_Hall_give), sl_Hall_give⟩)
    (d_Hall_give : PySem.W.codeIn K cd_Hall_give "Hall.give" = true)
    (k_Hall_give : PySem.W.keepIn K (.ref f_Hall_give) = true)
    (at_Hall_grow : PySem.W.findIn K (.ref C_Hall) "grow" = some (some (.ref f_Hall_grow)))
    (l_Hall_grow : K.lookup f_Hall_grow = some ⟨oc_Hall_grow, od_Hall_grow, .func (PySem.W.fnOf "grow" "Hall.grow" (defArgs s_Hall_grow) (defBody s_Hall_grow) (defScope s_Hall_grow) .none kV_Hall_grow dc_Hall_grow pm_Hall_grow an_Hall_grow cd_Hall_grow ct_Hall_grow), sl_Hall_grow⟩)
    (d_Hall_grow : PySem.W.codeIn K cd_Hall_grow "Hall.grow" = true)
    (k_Hall_grow : PySem.W.keepIn K (.ref f_Hall_grow) = true)
    (at_Hall_hold : PySem.W.findIn K (.ref C_Hall) "hold" = some (some (.ref f_Hall_hold)))
    (l_Hall_hold : K.lookup f_Hall_hold = some ⟨oc_Hall_hold, od_Hall_hold, .func (PySem.W.fnOf "hold" "Hall.hold" (defArgs s_Hall_hold) (defBody s_Hall_hold) (defScope s_Hall_hold) .none kV_Hall_hold dc_Hall_hold pm_Hall_hold an_Hall_hold cd_Hall_hold ct_Hall_hold), sl_Hall_hold⟩)
    (d_Hall_hold : PySem.W.codeIn K cd_Hall_hold "Hall.hold" = true)
    (k_Hall_hold : PySem.W.keepIn K (.ref f_Hall_hold) = true)
    (n_check_label : PySem.W.nsIn K mainGlobals "check_label" = some (some (.ref f_check_label)))
    (l_check_label : K.lookup f_check_label = some ⟨oc_check_label, od_check_label, .func (PySem.W.fnOf "check_label" "check_label" (defArgs s_check_label) (defBody s_check_label) (defScope s_check_label) .none kV_check_label dc_check_label pm_check_label an_check_label cd_check_label ct_check_label), sl_check_label⟩)
    (d_check_label : PySem.W.codeIn K cd_check_label "check_label" = true)
    (k_check_label : PySem.W.keepIn K (.ref f_check_label) = true)
    (at_Hall_promise : PySem.W.findIn K (.ref C_Hall) "promise" = some (some (.ref f_Hall_promise)))
    (l_Hall_promise : K.lookup f_Hall_promise = some ⟨oc_Hall_promise, od_Hall_promise, .func (PySem.W.fnOf "promise" "Hall.promise" (defArgs s_Hall_promise) (defBody s_Hall_promise) (defScope s_Hall_promise) .none kV_Hall_promise dc_Hall_promise pm_Hall_promise an_Hall_promise cd_Hall_promise ct_Hall_promise), sl_Hall_promise⟩)
    (d_Hall_promise : PySem.W.codeIn K cd_Hall_promise "Hall.promise" = true)
    (k_Hall_promise : PySem.W.keepIn K (.ref f_Hall_promise) = true)
    (at_Hall_put_machine : PySem.W.findIn K (.ref C_Hall) "put_machine" = some (some (.ref f_Hall_put_machine)))
    (l_Hall_put_machine : K.lookup f_Hall_put_machine = some ⟨oc_Hall_put_machine, od_Hall_put_machine, .func (PySem.W.fnOf "put_machine" "Hall.put_machine" (defArgs s_Hall_put_machine) (defBody s_Hall_put_machine) (defScope s_Hall_put_machine) .none kV_Hall_put_machine dc_Hall_put_machine pm_Hall_put_machine an_Hall_put_machine cd_Hall_put_machine ct_Hall_put_machine), sl_Hall_put_machine⟩)
    (d_Hall_put_machine : PySem.W.codeIn K cd_Hall_put_machine "Hall.put_machine" = true)
    (k_Hall_put_machine : PySem.W.keepIn K (.ref f_Hall_put_machine) = true)
    (at_Hall_release : PySem.W.findIn K (.ref C_Hall) "release" = some (some (.ref f_Hall_release)))
    (l_Hall_release : K.lookup f_Hall_release = some ⟨oc_Hall_release, od_Hall_release, .func (PySem.W.fnOf "release" "Hall.release" (defArgs s_Hall_release) (defBody s_Hall_release) (defScope s_Hall_release) .none kV_Hall_release dc_Hall_release pm_Hall_release an_Hall_release cd_Hall_release ct_Hall_release), sl_Hall_release⟩)
    (d_Hall_release : PySem.W.codeIn K cd_Hall_release "Hall.release" = true)
    (k_Hall_release : PySem.W.keepIn K (.ref f_Hall_release) = true)
    (at_Hall_undo : PySem.W.findIn K (.ref C_Hall) "undo" = some (some (.ref f_Hall_undo)))
    (l_Hall_undo : K.lookup f_Hall_undo = some ⟨oc_Hall_undo, od_Hall_undo, .func (PySem.W.fnOf "undo" "Hall.undo" (defArgs s_Hall_undo) (defBody s_Hall_undo) (defScope s_Hall_undo) .none kV_Hall_undo dc_Hall_undo pm_Hall_undo an_Hall_undo cd_Hall_undo ct_Hall_undo), sl_Hall_undo⟩)
    (d_Hall_undo : PySem.W.codeIn K cd_Hall_undo "Hall.undo" = true)
    (k_Hall_undo : PySem.W.keepIn K (.ref f_Hall_undo) = true)
    (nC_States : PySem.W.nsIn K mainGlobals "States" = some (some (.ref C_States)))
    (at_States___init__ : PySem.W.findIn K (.ref C_States) "__init__" = some (some (.ref f_States___init__)))
    (l_States___init__ : K.lookup f_States___init__ = some ⟨oc_States___init__, od_States___init__, .func (PySem.W.fnOf "__init__" "States.__init__" (defArgs s_States___init__) (defBody s_States___init__) (defScope s_States___init__) .none kV_States___init__ dc_States___init__ pm_States___init__ an_States___init__ cd_States___init__ ct_States___init__), sl_States___init__⟩)
    (d_States___init__ : PySem.W.codeIn K cd_States___init__ "States.__init__" = true)
    (k_States___init__ : PySem.W.keepIn K (.ref f_States___init__) = true)
    (at_States_take : PySem.W.findIn K (.ref C_States) "take" = some (some (.ref f_States_take)))
    (l_States_take : K.lookup f_States_take = some ⟨oc_States_take, od_States_take, .func (PySem.W.fnOf "take" "States.take" (defArgs s_States_take) (defBody s_States_take) (defScope s_States_take) .none kV_States_take dc_States_take pm_States_take an_States_take cd_States_take ct_States_take), sl_States_take⟩)
    (d_States_take : PySem.W.codeIn K cd_States_take "States.take" = true)
    (k_States_take : PySem.W.keepIn K (.ref f_States_take) = true)
    (n_rising : PySem.W.nsIn K mainGlobals "rising" = some (some (.ref f_rising)))
    (l_rising : K.lookup f_rising = some ⟨oc_rising, od_rising, .func (PySem.W.fnOf "rising" "rising" (defArgs s_rising) (defBody s_rising) (defScope s_rising) .none kV_rising dc_rising pm_rising an_rising cd_rising ct_rising), sl_rising⟩)
    (d_rising : PySem.W.codeIn K cd_rising "rising" = true)
    (k_rising : PySem.W.keepIn K (.ref f_rising) = true)
    (n_check_words : PySem.W.nsIn K mainGlobals "check_words" = some (some (.ref f_check_words)))
    (l_check_words : K.lookup f_check_words = some ⟨oc_check_words, od_check_words, .func (PySem.W.fnOf "check_words" "check_words" (defArgs s_check_words) (defBody s_check_words) (defScope s_check_words) .none kV_check_words dc_check_words pm_check_words an_check_words cd_check_words ct_check_words), sl_check_words⟩)
    (d_check_words : PySem.W.codeIn K cd_check_words "check_words" = true)
    (k_check_words : PySem.W.keepIn K (.ref f_check_words) = true)
    (n_check_machine : PySem.W.nsIn K mainGlobals "check_machine" = some (some (.ref f_check_machine)))
    (l_check_machine : K.lookup f_check_machine = some ⟨oc_check_machine, od_check_machine, .func (PySem.W.fnOf "check_machine" "check_machine" (defArgs s_check_machine) (defBody s_check_machine) (defScope s_check_machine) .none kV_check_machine dc_check_machine pm_check_machine an_check_machine cd_check_machine ct_check_machine), sl_check_machine⟩)
    (d_check_machine : PySem.W.codeIn K cd_check_machine "check_machine" = true)
    (k_check_machine : PySem.W.keepIn K (.ref f_check_machine) = true)
    (n_read_words : PySem.W.nsIn K mainGlobals "read_words" = some (some (.ref f_read_words)))
    (l_read_words : K.lookup f_read_words = some ⟨oc_read_words, od_read_words, .func (PySem.W.fnOf "read_words" "read_words" (defArgs s_read_words) (defBody s_read_words) (defScope s_read_words) .none kV_read_words dc_read_words pm_read_words an_read_words cd_read_words ct_read_words), sl_read_words⟩)
    (d_read_words : PySem.W.codeIn K cd_read_words "read_words" = true)
    (k_read_words : PySem.W.keepIn K (.ref f_read_words) = true)
    (n_read_machine : PySem.W.nsIn K mainGlobals "read_machine" = some (some (.ref f_read_machine)))
    (l_read_machine : K.lookup f_read_machine = some ⟨oc_read_machine, od_read_machine, .func (PySem.W.fnOf "read_machine" "read_machine" (defArgs s_read_machine) (defBody s_read_machine) (defScope s_read_machine) .none kV_read_machine dc_read_machine pm_read_machine an_read_machine cd_read_machine ct_read_machine), sl_read_machine⟩)
    (d_read_machine : PySem.W.codeIn K cd_read_machine "read_machine" = true)
    (k_read_machine : PySem.W.keepIn K (.ref f_read_machine) = true)
    (at_Desk_changed : PySem.W.findIn K (.ref C_Desk) "changed" = some (some (.ref f_Desk_changed)))
    (l_Desk_changed : K.lookup f_Desk_changed = some ⟨oc_Desk_changed, od_Desk_changed, .func (PySem.W.fnOf "changed" "Desk.changed" (defArgs s_Desk_changed) (defBody s_Desk_changed) (defScope s_Desk_changed) .none kV_Desk_changed dc_Desk_changed pm_Desk_changed an_Desk_changed cd_Desk_changed ct_Desk_changed), sl_Desk_changed⟩)
    (d_Desk_changed : PySem.W.codeIn K cd_Desk_changed "Desk.changed" = true)
    (k_Desk_changed : PySem.W.keepIn K (.ref f_Desk_changed) = true)
    (at_Hall___init__ : PySem.W.findIn K (.ref C_Hall) "__init__" = some (some (.ref f_Hall___init__)))
    (l_Hall___init__ : K.lookup f_Hall___init__ = some ⟨oc_Hall___init__, od_Hall___init__, .func (PySem.W.fnOf "__init__" "Hall.__init__" (defArgs s_Hall___init__) (defBody s_Hall___init__) (defScope s_Hall___init__) .none kV_Hall___init__ dc_Hall___init__ pm_Hall___init__ an_Hall___init__ cd_Hall___init__ ct_Hall___init__), sl_Hall___init__⟩)
    (d_Hall___init__ : PySem.W.codeIn K cd_Hall___init__ "Hall.__init__" = true)
    (k_Hall___init__ : PySem.W.keepIn K (.ref f_Hall___init__) = true)
    (at_Desk_answered : PySem.W.findIn K (.ref C_Desk) "answered" = some (some (.ref f_Desk_answered)))
    (l_Desk_answered : K.lookup f_Desk_answered = some ⟨oc_Desk_answered, od_Desk_answered, .func (PySem.W.fnOf "answered" "Desk.answered" (defArgs s_Desk_answered) (defBody s_Desk_answered) (defScope s_Desk_answered) .none kV_Desk_answered dc_Desk_answered pm_Desk_answered an_Desk_answered cd_Desk_answered ct_Desk_answered), sl_Desk_answered⟩)
    (d_Desk_answered : PySem.W.codeIn K cd_Desk_answered "Desk.answered" = true)
    (k_Desk_answered : PySem.W.keepIn K (.ref f_Desk_answered) = true)
    (n_read_number : PySem.W.nsIn K mainGlobals "read_number" = some (some (.ref f_read_number)))
    (l_read_number : K.lookup f_read_number = some ⟨oc_read_number, od_read_number, .func (PySem.W.fnOf "read_number" "read_number" (defArgs s_read_number) (defBody s_read_number) (defScope s_read_number) .none kV_read_number dc_read_number pm_read_number an_read_number cd_read_number ct_read_number), sl_read_number⟩)
    (d_read_number : PySem.W.codeIn K cd_read_number "read_number" = true)
    (k_read_number : PySem.W.keepIn K (.ref f_read_number) = true)
    (n_numbered : PySem.W.nsIn K mainGlobals "numbered" = some (some (.ref f_numbered)))
    (l_numbered : K.lookup f_numbered = some ⟨oc_numbered, od_numbered, .func (PySem.W.fnOf "numbered" "numbered" (defArgs s_numbered) (defBody s_numbered) (defScope s_numbered) .none kV_numbered dc_numbered pm_numbered an_numbered cd_numbered ct_numbered), sl_numbered⟩)
    (d_numbered : PySem.W.codeIn K cd_numbered "numbered" = true)
    (k_numbered : PySem.W.keepIn K (.ref f_numbered) = true)
    (n_read_line : PySem.W.nsIn K mainGlobals "read_line" = some (some (.ref f_read_line)))
    (l_read_line : K.lookup f_read_line = some ⟨oc_read_line, od_read_line, .func (PySem.W.fnOf "read_line" "read_line" (defArgs s_read_line) (defBody s_read_line) (defScope s_read_line) .none kV_read_line dc_read_line pm_read_line an_read_line cd_read_line ct_read_line), sl_read_line⟩)
    (d_read_line : PySem.W.codeIn K cd_read_line "read_line" = true)
    (k_read_line : PySem.W.keepIn K (.ref f_read_line) = true)
    (at_Desk_run_row : PySem.W.findIn K (.ref C_Desk) "run_row" = some (some (.ref f_Desk_run_row)))
    (l_Desk_run_row : K.lookup f_Desk_run_row = some ⟨oc_Desk_run_row, od_Desk_run_row, .func (PySem.W.fnOf "run_row" "Desk.run_row" (defArgs s_Desk_run_row) (defBody s_Desk_run_row) (defScope s_Desk_run_row) .none kV_Desk_run_row dc_Desk_run_row pm_Desk_run_row an_Desk_run_row cd_Desk_run_row ct_Desk_run_row), sl_Desk_run_row⟩)
    (d_Desk_run_row : PySem.W.codeIn K cd_Desk_run_row "Desk.run_row" = true)
    (k_Desk_run_row : PySem.W.keepIn K (.ref f_Desk_run_row) = true)
    (n_run_script : PySem.W.nsIn K mainGlobals "run_script" = some (some (.ref f_run_script)))
    (l_run_script : K.lookup f_run_script = some ⟨oc_run_script, od_run_script, .func (PySem.W.fnOf "run_script" "run_script" (defArgs s_run_script) (defBody s_run_script) (defScope s_run_script) .none kV_run_script dc_run_script pm_run_script an_run_script cd_run_script ct_run_script), sl_run_script⟩)
    (d_run_script : PySem.W.codeIn K cd_run_script "run_script" = true)
    (k_run_script : PySem.W.keepIn K (.ref f_run_script) = true)
    (n__law_run : PySem.W.nsIn K mainGlobals "_law_run" = some (some (.ref f__law_run)))
    (l__law_run : K.lookup f__law_run = some ⟨oc__law_run, od__law_run, .func (PySem.W.fnOf "_law_run" "_law_run" (defArgs s__law_run) (defBody s__law_run) (defScope s__law_run) .none kV__law_run dc__law_run pm__law_run an__law_run cd__law_run ct__law_run), sl__law_run⟩)
    (d__law_run : PySem.W.codeIn K cd__law_run "_law_run" = true)
    (k__law_run : PySem.W.keepIn K (.ref f__law_run) = true)
    (n__law_same : PySem.W.nsIn K mainGlobals "_law_same" = some (some (.ref f__law_same)))
    (l__law_same : K.lookup f__law_same = some ⟨oc__law_same, od__law_same, .func (PySem.W.fnOf "_law_same" "_law_same" (defArgs s__law_same) (defBody s__law_same) (defScope s__law_same) .none kV__law_same dc__law_same pm__law_same an__law_same cd__law_same ct__law_same), sl__law_same⟩)
    (d__law_same : PySem.W.codeIn K cd__law_same "_law_same" = true)
    (k__law_same : PySem.W.keepIn K (.ref f__law_same) = true)
    (n__law_stream : PySem.W.nsIn K mainGlobals "_law_stream" = some (some (.ref f__law_stream)))
    (l__law_stream : K.lookup f__law_stream = some ⟨oc__law_stream, od__law_stream, .func (PySem.W.fnOf "_law_stream" "_law_stream" (defArgs s__law_stream) (defBody s__law_stream) (defScope s__law_stream) .none kV__law_stream dc__law_stream pm__law_stream an__law_stream cd__law_stream ct__law_stream), sl__law_stream⟩)
    (d__law_stream : PySem.W.codeIn K cd__law_stream "_law_stream" = true)
    (k__law_stream : PySem.W.keepIn K (.ref f__law_stream) = true)
    (n_law : PySem.W.nsIn K mainGlobals "law" = some (some (.ref f_law)))
    (l_law : K.lookup f_law = some ⟨oc_law, od_law, .func (PySem.W.fnOf "law" "law" (defArgs s_law) (defBody s_law) (defScope s_law) .none kV_law dc_law pm_law an_law cd_law ct_law), sl_law⟩)
    (d_law : PySem.W.codeIn K cd_law "law" = true)
    (k_law : PySem.W.keepIn K (.ref f_law) = true)
    (pg_Desk : PySem.W.plainGet K C_Desk Str.empty = true)
    (hd_Desk : PySem.W.hasDictIn K C_Desk = true)
    (po_Desk : PySem.W.plainOver K C_Desk = true)
    (sa_Desk : PySem.W.findIn K (.ref C_Desk) "__setattr__" = some (some (.builtin "object.__setattr__")))
    (pg_Hall : PySem.W.plainGet K C_Hall Str.empty = true)
    (hd_Hall : PySem.W.hasDictIn K C_Hall = true)
    (po_Hall : PySem.W.plainOver K C_Hall = true)
    (sa_Hall : PySem.W.findIn K (.ref C_Hall) "__setattr__" = some (some (.builtin "object.__setattr__")))
    (pg_States : PySem.W.plainGet K C_States Str.empty = true)
    (hd_States : PySem.W.hasDictIn K C_States = true)
    (po_States : PySem.W.plainOver K C_States = true)
    (sa_States : PySem.W.findIn K (.ref C_States) "__setattr__" = some (some (.builtin "object.__setattr__")))
    (na_Desk_hall : PySem.W.findIn K (.ref C_Desk) "hall" = some none)
    (na_Hall_now : PySem.W.findIn K (.ref C_Hall) "now" = some none)
    (na_Hall_past : PySem.W.findIn K (.ref C_Hall) "past" = some none)
    (na_States_found : PySem.W.findIn K (.ref C_States) "found" = some none)
    (na_States_left : PySem.W.findIn K (.ref C_States) "left" = some none)
    (na_States_words : PySem.W.findIn K (.ref C_States) "words" = some none)
    (nC_Missing : PySem.W.nsIn K mainGlobals "Missing" = some (some (.ref C_Missing)))
    (kC_Missing : PySem.W.keepIn K (.ref C_Missing) = true)
    (xF_Missing : PySem.W.excIn K C_Missing [.type "Exception", .type "BaseException", .type "object"] "Exception.__new__" = true)
    (bF_Missing : PySem.W.subIn K (.ref C_Missing) (.type "BaseException") = some true)
    (tF_Missing : PySem.W.typeIn K (.ref C_Missing) = some (.type "type"))
    (nC_NotAllowed : PySem.W.nsIn K mainGlobals "NotAllowed" = some (some (.ref C_NotAllowed)))
    (kC_NotAllowed : PySem.W.keepIn K (.ref C_NotAllowed) = true)
    (xF_NotAllowed : PySem.W.excIn K C_NotAllowed [.type "Exception", .type "BaseException", .type "object"] "Exception.__new__" = true)
    (bF_NotAllowed : PySem.W.subIn K (.ref C_NotAllowed) (.type "BaseException") = some true)
    (tF_NotAllowed : PySem.W.typeIn K (.ref C_NotAllowed) = some (.type "type"))
    (nC_TooLarge : PySem.W.nsIn K mainGlobals "TooLarge" = some (some (.ref C_TooLarge)))
    (kC_TooLarge : PySem.W.keepIn K (.ref C_TooLarge) = true)
    (xF_TooLarge : PySem.W.excIn K C_TooLarge [.type "Exception", .type "BaseException", .type "object"] "Exception.__new__" = true)
    (bF_TooLarge : PySem.W.subIn K (.ref C_TooLarge) (.type "BaseException") = some true)
    (tF_TooLarge : PySem.W.typeIn K (.ref C_TooLarge) = some (.type "type"))
    (nC_BadForm : PySem.W.nsIn K mainGlobals "BadForm" = some (some (.ref C_BadForm)))
    (nC_Broken : PySem.W.nsIn K mainGlobals "Broken" = some (some (.ref C_Broken)))
    (nC_WardenError : PySem.W.nsIn K mainGlobals "WardenError" = some (some (.ref C_WardenError)))
    (bF_BadForm : PySem.W.subIn K (.ref C_BadForm) (.type "BaseException") = some true)
    (iC_BadForm : PySem.W.isClsIn K C_BadForm = true)
    (tF_BadForm : PySem.W.typeIn K (.ref C_BadForm) = some (.type "type"))
    (s_BadForm_BadForm : PySem.W.subIn K (.ref C_BadForm) (.ref C_BadForm) = some true)
    (bF_Broken : PySem.W.subIn K (.ref C_Broken) (.type "BaseException") = some true)
    (iC_Broken : PySem.W.isClsIn K C_Broken = true)
    (tF_Broken : PySem.W.typeIn K (.ref C_Broken) = some (.type "type"))
    (s_Missing_Broken : PySem.W.subIn K (.ref C_Missing) (.ref C_Broken) = some false)
    (iC_Missing : PySem.W.isClsIn K C_Missing = true)
    (s_Missing_Missing : PySem.W.subIn K (.ref C_Missing) (.ref C_Missing) = some true)
    (iC_NotAllowed : PySem.W.isClsIn K C_NotAllowed = true)
    (s_Missing_NotAllowed : PySem.W.subIn K (.ref C_Missing) (.ref C_NotAllowed) = some false)
    (iC_TooLarge : PySem.W.isClsIn K C_TooLarge = true)
    (s_Missing_TooLarge : PySem.W.subIn K (.ref C_Missing) (.ref C_TooLarge) = some false)
    (s_NotAllowed_Broken : PySem.W.subIn K (.ref C_NotAllowed) (.ref C_Broken) = some false)
    (s_NotAllowed_NotAllowed : PySem.W.subIn K (.ref C_NotAllowed) (.ref C_NotAllowed) = some true)
    (bF_WardenError : PySem.W.subIn K (.ref C_WardenError) (.type "BaseException") = some true)
    (iC_WardenError : PySem.W.isClsIn K C_WardenError = true)
    (tF_WardenError : PySem.W.typeIn K (.ref C_WardenError) = some (.type "type"))
    (s_NotAllowed_WardenError : PySem.W.subIn K (.ref C_NotAllowed) (.ref C_WardenError) = some true)
    (s_TooLarge_Broken : PySem.W.subIn K (.ref C_TooLarge) (.ref C_Broken) = some false)
    (s_TooLarge_NotAllowed : PySem.W.subIn K (.ref C_TooLarge) (.ref C_NotAllowed) = some false)
    (s_TooLarge_TooLarge : PySem.W.subIn K (.ref C_TooLarge) (.ref C_TooLarge) = some true)
    (s_TooLarge_WardenError : PySem.W.subIn K (.ref C_TooLarge) (.ref C_WardenError) = some true)
    (q_TooLarge_NotAllowed : ((Value.ref C_TooLarge) == (Value.ref C_NotAllowed)) = false)
    (eg_TooLarge : PySem.W.findIn K (.ref C_TooLarge) "__getattribute__" = some (some (.builtin "BaseException.__getattribute__")))
    (ek_TooLarge : PySem.W.findIn K (.ref C_TooLarge) "__getattr__" = some none)
    (ed_TooLarge : PySem.W.hasDictIn K C_TooLarge = true)
    (ea_TooLarge : PySem.W.findIn K (.ref C_TooLarge) "__class__" = some (some (.builtin "object.__class__")))
    (e_get : PySem.W.specialIn K (.builtin "object.__class__") "__get__" = some (some (.builtin "getset_descriptor.__get__")))
    (e_tk : PySem.W.takesIn K (.builtin "object.__class__") = some true)
    (em_TooLarge : PySem.W.mroIn K C_TooLarge (.type "object") = some true)
    (mk_Desk : PySem.W.makesIn K C_Desk = true)
    (if_Desk___init__ : PySem.W.isFn K (.ref f_Desk___init__) = true)
    (kC_Desk : PySem.W.keepIn K (.ref C_Desk) = true)
    (mk_Hall : PySem.W.makesIn K C_Hall = true)
    (if_Hall___init__ : PySem.W.isFn K (.ref f_Hall___init__) = true)
    (kC_Hall : PySem.W.keepIn K (.ref C_Hall) = true)
    (mk_States : PySem.W.makesIn K C_States = true)
    (if_States___init__ : PySem.W.isFn K (.ref f_States___init__) = true)
    (kC_States : PySem.W.keepIn K (.ref C_States) = true)
    (if_Hall_image : PySem.W.isFn K (.ref f_Hall_image) = true)
    (if_Hall_log : PySem.W.isFn K (.ref f_Hall_log) = true)
    (if_Hall_logs : PySem.W.isFn K (.ref f_Hall_logs) = true)
    (if_Hall_machine : PySem.W.isFn K (.ref f_Hall_machine) = true)
    (if_Hall_machines : PySem.W.isFn K (.ref f_Hall_machines) = true)
    (if_Hall_promises : PySem.W.isFn K (.ref f_Hall_promises) = true)
    (if_Desk_asked : PySem.W.isFn K (.ref f_Desk_asked) = true)
    (if_Hall_drop_machine : PySem.W.isFn K (.ref f_Hall_drop_machine) = true)
    (if_Hall_give : PySem.W.isFn K (.ref f_Hall_give) = true)
    (if_Hall_grow : PySem.W.isFn K (.ref f_Hall_grow) = true)
    (if_Hall_hold : PySem.W.isFn K (.ref f_Hall_hold) = true)
    (if_Hall_promise : PySem.W.isFn K (.ref f_Hall_promise) = true)
    (if_Hall_put_machine : PySem.W.isFn K (.ref f_Hall_put_machine) = true)
    (if_Hall_release : PySem.W.isFn K (.ref f_Hall_release) = true)
    (if_Hall_undo : PySem.W.isFn K (.ref f_Hall_undo) = true)
    (if_States_take : PySem.W.isFn K (.ref f_States_take) = true)
    (if_Desk_changed : PySem.W.isFn K (.ref f_Desk_changed) = true)
    (if_Desk_answered : PySem.W.isFn K (.ref f_Desk_answered) = true)
    (if_Desk_run_row : PySem.W.isFn K (.ref f_Desk_run_row) = true)
    (xi_BadForm : PySem.W.findIn K (.ref C_BadForm) "__init__" = some (some (.ref I_BadForm)))
    (xl_BadForm : K.lookup C_BadForm = some (PySem.excClassObj xnm_BadForm xq_BadForm C_BadForm xN_BadForm xbs_BadForm xbm_BadForm true xsn_BadForm xsub_BadForm xab_BadForm xcol_BadForm xdd_BadForm xk0_BadForm xk1_BadForm xk2_BadForm xk3_BadForm xk5_BadForm "Exception.__new__"))
    (xr_BadForm : refsE xbm_BadForm = true)
    (xa_BadForm : PySem.W.alongIn K "__init__" xbm_BadForm = some (some (.builtin "Exception.__init__")))
    (xs_BadForm : PySem.W.findIn K (.ref C_BadForm) "__setattr__" = some (some (.builtin "object.__setattr__")))
    (xno_BadForm : PySem.W.findIn K (.ref C_BadForm) "line" = some none)
    (kC_BadForm : PySem.W.keepIn K (.ref C_BadForm) = true)
    (xti_BadForm : PySem.W.typeIn K (.ref I_BadForm) = some (.type "function"))
    (x_any : PySem.W.nsIn K cStatics "thirdparty.any" = some none)
    (b_super : PySem.W.nsIn K mainGlobals "super" = some none)
    (xf_BadForm : K.lookup I_BadForm = some ⟨xoc_BadForm, xod_BadForm, .func (PySem.W.ksFn "__init__" "BadForm.__init__" (defArgs s_BadForm___init__) (defBody s_BadForm___init__) (defScope s_BadForm___init__) .none xkV_BadForm xdoc_BadForm xpm_BadForm xan_BadForm (.ref xcda_BadForm) xct_BadForm xcc_BadForm), xosl_BadForm⟩)
    (xc_BadForm : PySem.W.codeIn K (.ref xcda_BadForm) "BadForm.__init__" = true)
    (xd_BadForm : K.lookup xcda_BadForm = some ⟨xccl_BadForm, xcdd_BadForm, .fields xvs_BadForm, xccs_BadForm⟩)
    (xv_BadForm : xvs_BadForm[2]? = some (.str xfile_BadForm xtf_BadForm))
    (xe_BadForm : ((P.main.file : Str) == xfile_BadForm) = true)
    (xy_BadForm : K.lookup xcc_BadForm = some ⟨xcl_BadForm, xcld_BadForm, .cell (some (.ref C_BadForm)), xcsl_BadForm⟩)
    (xt_BadForm : (P.main.scope.names.lookup ("super" : Str)).isSome = false)
    (hAd : (⟨f_check_log, f_check_machine, f_read_log, f_read_machine⟩ : AdT) = Ad0)
    : ∃ fd : FuncData, (∀ (s : Shared) (u : Value), BindsTo s fd ⟨[u], []⟩ [("script", u)]) ∧ ∀ base : Heap, K.In base → base.Ns mainGlobals mg → FnG P w K mg base (L2N.CX P w) 16 fa fd ["script"] (spC ⟨K, w⟩ mg (F_law Ad0) 1) := by
  have e := hfa.symm.trans (PySem.W.mg_of X G n_law)
  cases e
  have u__law_is_digits := fun_mk (st := s__law_is_digits) l__law_is_digits d__law_is_digits k__law_is_digits
  have u__law_has_form := fun_mk (st := s__law_has_form) l__law_has_form d__law_has_form k__law_has_form
  have u__law_next := fun_mk (st := s__law_next) l__law_next d__law_next k__law_next
  have u__law_one := fun_mk (st := s__law_one) l__law_one d__law_one k__law_one
  have u__law_row := fun_mk (st := s__law_row) l__law_row d__law_row k__law_row
  have u_Desk___init__ := fun_mk (st := s_Desk___init__) l_Desk___init__ d_Desk___init__ k_Desk___init__
  have u_Hall_image := fun_mk (st := s_Hall_image) l_Hall_image d_Hall_image k_Hall_image
  have u_found_in := fun_mk (st := s_found_in) l_found_in d_found_in k_found_in
  have u_Hall_log := fun_mk (st := s_Hall_log) l_Hall_log d_Hall_log k_Hall_log
  have u_Hall_logs := fun_mk (st := s_Hall_logs) l_Hall_logs d_Hall_logs k_Hall_logs
  have u_Hall_machine := fun_mk (st := s_Hall_machine) l_Hall_machine d_Hall_machine k_Hall_machine
  have u_Hall_machines := fun_mk (st := s_Hall_machines) l_Hall_machines d_Hall_machines k_Hall_machines
  have u_Hall_promises := fun_mk (st := s_Hall_promises) l_Hall_promises d_Hall_promises k_Hall_promises
  have u_is_good := fun_mk (st := s_is_good) l_is_good d_is_good k_is_good
  have u_least_good := fun_mk (st := s_least_good) l_least_good d_least_good k_least_good
  have u_listed := fun_mk (st := s_listed) l_listed d_listed k_listed
  have u_log_text := fun_mk (st := s_log_text) l_log_text d_log_text k_log_text
  have u_is_word := fun_mk (st := s_is_word) l_is_word d_is_word k_is_word
  have u_check_log := fun_mk (st := s_check_log) l_check_log d_check_log k_check_log
  have u_is_one := fun_mk (st := s_is_one) l_is_one d_is_one k_is_one
  have u_number_of := fun_mk (st := s_number_of) l_number_of d_number_of k_number_of
  have u_rows_in := fun_mk (st := s_rows_in) l_rows_in d_rows_in k_rows_in
  have u_read_log := fun_mk (st := s_read_log) l_read_log d_read_log k_read_log
  have u_rows_told := fun_mk (st := s_rows_told) l_rows_told d_rows_told k_rows_told
  have u_told := fun_mk (st := s_told) l_told d_told k_told
  have u_Desk_asked := fun_mk (st := s_Desk_asked) l_Desk_asked d_Desk_asked k_Desk_asked
  have u_Hall_drop_machine := fun_mk (st := s_Hall_drop_machine) l_Hall_drop_machine d_Hall_drop_machine k_Hall_drop_machine
  have u_Hall_give := fun_mk (st := s_Hall_give) l_Hall_give d_Hall_give k_Hall_give
  have u_Hall_grow := fun_mk (st := s_Hall_grow) l_Hall_grow d_Hall_grow k_Hall_grow
  have u_Hall_hold := fun_mk (st := s_Hall_hold) l_Hall_hold d_Hall_hold k_Hall_hold
  have u_check_label := fun_mk (st := s_check_label) l_check_label d_check_label k_check_label
  have u_Hall_promise := fun_mk (st := s_Hall_promise) l_Hall_promise d_Hall_promise k_Hall_promise
  have u_Hall_put_machine := fun_mk (st := s_Hall_put_machine) l_Hall_put_machine d_Hall_put_machine k_Hall_put_machine
  have u_Hall_release := fun_mk (st := s_Hall_release) l_Hall_release d_Hall_release k_Hall_release
  have u_Hall_undo := fun_mk (st := s_Hall_undo) l_Hall_undo d_Hall_undo k_Hall_undo
  have u_States___init__ := fun_mk (st := s_States___init__) l_States___init__ d_States___init__ k_States___init__
  have u_States_take := fun_mk (st := s_States_take) l_States_take d_States_take k_States_take
  have u_rising := fun_mk (st := s_rising) l_rising d_rising k_rising
  have u_check_words := fun_mk (st := s_check_words) l_check_words d_check_words k_check_words
  have u_check_machine := fun_mk (st := s_check_machine) l_check_machine d_check_machine k_check_machine
  have u_read_words := fun_mk (st := s_read_words) l_read_words d_read_words k_read_words
  have u_read_machine := fun_mk (st := s_read_machine) l_read_machine d_read_machine k_read_machine
  have u_Desk_changed := fun_mk (st := s_Desk_changed) l_Desk_changed d_Desk_changed k_Desk_changed
  have u_Hall___init__ := fun_mk (st := s_Hall___init__) l_Hall___init__ d_Hall___init__ k_Hall___init__
  have u_Desk_answered := fun_mk (st := s_Desk_answered) l_Desk_answered d_Desk_answered k_Desk_answered
  have u_read_number := fun_mk (st := s_read_number) l_read_number d_read_number k_read_number
  have u_numbered := fun_mk (st := s_numbered) l_numbered d_numbered k_numbered
  have u_read_line := fun_mk (st := s_read_line) l_read_line d_read_line k_read_line
  have u_Desk_run_row := fun_mk (st := s_Desk_run_row) l_Desk_run_row d_Desk_run_row k_Desk_run_row
  have u_run_script := fun_mk (st := s_run_script) l_run_script d_run_script k_run_script
  have u__law_run := fun_mk (st := s__law_run) l__law_run d__law_run k__law_run
  have u__law_same := fun_mk (st := s__law_same) l__law_same d__law_same k__law_same
  have u__law_stream := fun_mk (st := s__law_stream) l__law_stream d__law_stream k__law_stream
  have u_law := fun_mk (st := s_law) l_law d_law k_law
  let T : Txt P K mg := {
    b_abs := PySem.W.mg_none_of X G b_abs,
    b_all := PySem.W.mg_none_of X G b_all,
    b_any := PySem.W.mg_none_of X G b_any,
    b_enumerate := PySem.W.mg_none_of X G b_enumerate,
    b_int := PySem.W.mg_none_of X G b_int,
    b_isinstance := PySem.W.mg_none_of X G b_isinstance,
    b_len := PySem.W.mg_none_of X G b_len,
    b_range := PySem.W.mg_none_of X G b_range,
    b_repr := PySem.W.mg_none_of X G b_repr,
    b_str := PySem.W.mg_none_of X G b_str,
    b_tuple := PySem.W.mg_none_of X G b_tuple,
    b_zip := PySem.W.mg_none_of X G b_zip,
    t_FIRST := t_FIRST,
    c_FIRST := PySem.W.mg_of X G c_FIRST,
    t_LATER := t_LATER,
    c_LATER := PySem.W.mg_of X G c_LATER,
    t_MAX_HELD := t_MAX_HELD,
    c_MAX_HELD := PySem.W.mg_of X G c_MAX_HELD,
    t_MAX_LOG := t_MAX_LOG,
    c_MAX_LOG := PySem.W.mg_of X G c_MAX_LOG,
    t_MAX_NAME := t_MAX_NAME,
    c_MAX_NAME := PySem.W.mg_of X G c_MAX_NAME,
    t_MAX_ROWS := t_MAX_ROWS,
    c_MAX_ROWS := PySem.W.mg_of X G c_MAX_ROWS,
    t_MAX_SIGNS := t_MAX_SIGNS,
    c_MAX_SIGNS := PySem.W.mg_of X G c_MAX_SIGNS,
    t_MAX_STATES := t_MAX_STATES,
    c_MAX_STATES := PySem.W.mg_of X G c_MAX_STATES,
    t_MAX_TEXT := t_MAX_TEXT,
    c_MAX_TEXT := PySem.W.mg_of X G c_MAX_TEXT,
    t_MAX_WORD := t_MAX_WORD,
    c_MAX_WORD := PySem.W.mg_of X G c_MAX_WORD,
    a_NAMED := a_NAMED,
    c_NAMED := PySem.W.mg_of X G c_NAMED,
    q_NAMED := fun _ => .inr ⟨_, _, _, l_NAMED, rfl, rfl, show 3 ≤ sizeLine by decide, .cons ⟨_, rfl⟩ (.cons ⟨_, rfl⟩ (.cons ⟨_, rfl⟩ (.nil)))⟩,
    a_NUMBERED := a_NUMBERED,
    c_NUMBERED := PySem.W.mg_of X G c_NUMBERED,
    q_NUMBERED := fun _ => .inr ⟨_, _, _, l_NUMBERED, rfl, rfl, show 3 ≤ sizeLine by decide, .cons ⟨_, rfl⟩ (.cons ⟨_, rfl⟩ (.cons ⟨_, rfl⟩ (.nil)))⟩,
    a_SINGLE := a_SINGLE,
    c_SINGLE := PySem.W.mg_of X G c_SINGLE,
    q_SINGLE := fun _ => .inr ⟨_, _, _, l_SINGLE, rfl, rfl, show 6 ≤ sizeLine by decide, .cons ⟨_, rfl⟩ (.cons ⟨_, rfl⟩ (.cons ⟨_, rfl⟩ (.cons ⟨_, rfl⟩ (.cons ⟨_, rfl⟩ (.cons ⟨_, rfl⟩ (.nil))))))⟩,
    a__law_is_digits := f__law_is_digits,
    d__law_is_digits := _,
    u__law_is_digits := u__law_is_digits,
    n__law_is_digits := u__law_is_digits.binds (ps := ["text"]) fun _ _ _ _ _ _ us hl => match us, hl with | [_], _ => rfl,
    g__law_is_digits := PySem.W.mg_of X G n__law_is_digits,
    a__law_has_form := f__law_has_form,
    d__law_has_form := _,
    u__law_has_form := u__law_has_form,
    n__law_has_form := u__law_has_form.binds (ps := ["row"]) fun _ _ _ _ _ _ us hl => match us, hl with | [_], _ => rfl,
    g__law_has_form := PySem.W.mg_of X G n__law_has_form,
    a__law_next := f__law_next,
    d__law_next := _,
    u__law_next := u__law_next,
    n__law_next := u__law_next.binds (ps := ["state", "many"]) fun _ _ _ _ _ _ us hl => match us, hl with | [_, _], _ => rfl,
    g__law_next := PySem.W.mg_of X G n__law_next,
    a__law_one := f__law_one,
    d__law_one := _,
    u__law_one := u__law_one,
    n__law_one := u__law_one.binds (ps := ["state", "rows"]) fun _ _ _ _ _ _ us hl => match us, hl with | [_, _], _ => rfl,
    g__law_one := PySem.W.mg_of X G n__law_one,
    a__law_row := f__law_row,
    d__law_row := _,
    u__law_row := u__law_row,
    n__law_row := u__law_row.binds (ps := ["state"]) fun _ _ _ _ _ _ us hl => match us, hl with | [_], _ => rfl,
    g__law_row := PySem.W.mg_of X G n__law_row,
    a_Desk___init__ := f_Desk___init__,
    d_Desk___init__ := _,
    u_Desk___init__ := u_Desk___init__,
    n_Desk___init__ := u_Desk___init__.binds (ps := ["self"]) fun _ _ _ _ _ _ us hl => match us, hl with | [_], _ => rfl,
    a_Hall_image := f_Hall_image,
    d_Hall_image := _,
    u_Hall_image := u_Hall_image,
    n_Hall_image := u_Hall_image.binds (ps := ["self"]) fun _ _ _ _ _ _ us hl => match us, hl with | [_], _ => rfl,
    a_found_in := f_found_in,
    d_found_in := _,
    u_found_in := u_found_in,
    n_found_in := u_found_in.binds (ps := ["rows", "name"]) fun _ _ _ _ _ _ us hl => match us, hl with | [_, _], _ => rfl,
    g_found_in := PySem.W.mg_of X G n_found_in,
    a_Hall_log := f_Hall_log,
    d_Hall_log := _,
    u_Hall_log := u_Hall_log,
    n_Hall_log := u_Hall_log.binds (ps := ["self", "number"]) fun _ _ _ _ _ _ us hl => match us, hl with | [_, _], _ => rfl,
    a_Hall_logs := f_Hall_logs,
    d_Hall_logs := _,
    u_Hall_logs := u_Hall_logs,
    n_Hall_logs := u_Hall_logs.binds (ps := ["self"]) fun _ _ _ _ _ _ us hl => match us, hl with | [_], _ => rfl,
    a_Hall_machine := f_Hall_machine,
    d_Hall_machine := _,
    u_Hall_machine := u_Hall_machine,
    n_Hall_machine := u_Hall_machine.binds (ps := ["self", "name"]) fun _ _ _ _ _ _ us hl => match us, hl with | [_, _], _ => rfl,
    a_Hall_machines := f_Hall_machines,
    d_Hall_machines := _,
    u_Hall_machines := u_Hall_machines,
    n_Hall_machines := u_Hall_machines.binds (ps := ["self"]) fun _ _ _ _ _ _ us hl => match us, hl with | [_], _ => rfl,
    a_Hall_promises := f_Hall_promises,
    d_Hall_promises := _,
    u_Hall_promises := u_Hall_promises,
    n_Hall_promises := u_Hall_promises.binds (ps := ["self"]) fun _ _ _ _ _ _ us hl => match us, hl with | [_], _ => rfl,
    a_is_good := f_is_good,
    d_is_good := _,
    u_is_good := u_is_good,
    n_is_good := u_is_good.binds (ps := ["machine", "log"]) fun _ _ _ _ _ _ us hl => match us, hl with | [_, _], _ => rfl,
    g_is_good := PySem.W.mg_of X G n_is_good,
    a_least_good := f_least_good,
    d_least_good := _,
    u_least_good := u_least_good,
    n_least_good := u_least_good.binds (ps := ["machine"]) fun _ _ _ _ _ _ us hl => match us, hl with | [_], _ => rfl,
    g_least_good := PySem.W.mg_of X G n_least_good,
    a_listed := f_listed,
    d_listed := _,
    u_listed := u_listed,
    n_listed := u_listed.binds (ps := ["words"]) fun _ _ _ _ _ _ us hl => match us, hl with | [_], _ => rfl,
    g_listed := PySem.W.mg_of X G n_listed,
    a_log_text := f_log_text,
    d_log_text := _,
    u_log_text := u_log_text,
    n_log_text := u_log_text.binds (ps := ["log"]) fun _ _ _ _ _ _ us hl => match us, hl with | [_], _ => rfl,
    g_log_text := PySem.W.mg_of X G n_log_text,
    a_is_word := f_is_word,
    d_is_word := _,
    u_is_word := u_is_word,
    n_is_word := u_is_word.binds (ps := ["text"]) fun _ _ _ _ _ _ us hl => match us, hl with | [_], _ => rfl,
    g_is_word := PySem.W.mg_of X G n_is_word,
    a_check_log := f_check_log,
    d_check_log := _,
    u_check_log := u_check_log,
    n_check_log := u_check_log.binds (ps := ["log"]) fun _ _ _ _ _ _ us hl => match us, hl with | [_], _ => rfl,
    g_check_log := PySem.W.mg_of X G n_check_log,
    a_is_one := f_is_one,
    d_is_one := _,
    u_is_one := u_is_one,
    n_is_one := u_is_one.binds (ps := ["check", "told"]) fun _ _ _ _ _ _ us hl => match us, hl with | [_, _], _ => rfl,
    g_is_one := PySem.W.mg_of X G n_is_one,
    a_number_of := f_number_of,
    d_number_of := _,
    u_number_of := u_number_of,
    n_number_of := u_number_of.binds (ps := ["text"]) fun _ _ _ _ _ _ us hl => match us, hl with | [_], _ => rfl,
    g_number_of := PySem.W.mg_of X G n_number_of,
    a_rows_in := f_rows_in,
    d_rows_in := _,
    u_rows_in := u_rows_in,
    n_rows_in := u_rows_in.binds (ps := ["text"]) fun _ _ _ _ _ _ us hl => match us, hl with | [_], _ => rfl,
    g_rows_in := PySem.W.mg_of X G n_rows_in,
    a_read_log := f_read_log,
    d_read_log := _,
    u_read_log := u_read_log,
    n_read_log := u_read_log.binds (ps := ["text"]) fun _ _ _ _ _ _ us hl => match us, hl with | [_], _ => rfl,
    g_read_log := PySem.W.mg_of X G n_read_log,
    a_rows_told := f_rows_told,
    d_rows_told := _,
    u_rows_told := u_rows_told,
    n_rows_told := u_rows_told.binds (ps := ["text"]) fun _ _ _ _ _ _ us hl => match us, hl with | [_], _ => rfl,
    g_rows_told := PySem.W.mg_of X G n_rows_told,
    a_told := f_told,
    d_told := _,
    u_told := u_told,
    n_told := u_told.binds (ps := ["read", "text"]) fun _ _ _ _ _ _ us hl => match us, hl with | [_, _], _ => rfl,
    g_told := PySem.W.mg_of X G n_told,
    a_Desk_asked := f_Desk_asked,
    d_Desk_asked := _,
    u_Desk_asked := u_Desk_asked,
    n_Desk_asked := u_Desk_asked.binds (ps := ["self", "word", "parts"]) fun _ _ _ _ _ _ us hl => match us, hl with | [_, _, _], _ => rfl,
    a_Hall_drop_machine := f_Hall_drop_machine,
    d_Hall_drop_machine := _,
    u_Hall_drop_machine := u_Hall_drop_machine,
    n_Hall_drop_machine := u_Hall_drop_machine.binds (ps := ["self", "name"]) fun _ _ _ _ _ _ us hl => match us, hl with | [_, _], _ => rfl,
    a_Hall_give := f_Hall_give,
    d_Hall_give := _,
    u_Hall_give := u_Hall_give,
    n_Hall_give := u_Hall_give.binds (ps := ["self", "number"]) fun _ _ _ _ _ _ us hl => match us, hl with | [_, _], _ => rfl,
    a_Hall_grow := f_Hall_grow,
    d_Hall_grow := _,
    u_Hall_grow := u_Hall_grow,
    n_Hall_grow := u_Hall_grow.binds (ps := ["self", "number", "events"]) fun _ _ _ _ _ _ us hl => match us, hl with | [_, _, _], _ => rfl,
    a_Hall_hold := f_Hall_hold,
    d_Hall_hold := _,
    u_Hall_hold := u_Hall_hold,
    n_Hall_hold := u_Hall_hold.binds (ps := ["self", "name", "log"]) fun _ _ _ _ _ _ us hl => match us, hl with | [_, _, _], _ => rfl,
    a_check_label := f_check_label,
    d_check_label := _,
    u_check_label := u_check_label,
    n_check_label := u_check_label.binds (ps := ["name"]) fun _ _ _ _ _ _ us hl => match us, hl with | [_], _ => rfl,
    g_check_label := PySem.W.mg_of X G n_check_label,
    a_Hall_promise := f_Hall_promise,
    d_Hall_promise := _,
    u_Hall_promise := u_Hall_promise,
    n_Hall_promise := u_Hall_promise.binds (ps := ["self", "name", "first", "second"]) fun _ _ _ _ _ _ us hl => match us, hl with | [_, _, _, _], _ => rfl,
    a_Hall_put_machine := f_Hall_put_machine,
    d_Hall_put_machine := _,
    u_Hall_put_machine := u_Hall_put_machine,
    n_Hall_put_machine := u_Hall_put_machine.binds (ps := ["self", "name", "machine"]) fun _ _ _ _ _ _ us hl => match us, hl with | [_, _, _], _ => rfl,
    a_Hall_release := f_Hall_release,
    d_Hall_release := _,
    u_Hall_release := u_Hall_release,
    n_Hall_release := u_Hall_release.binds (ps := ["self", "name"]) fun _ _ _ _ _ _ us hl => match us, hl with | [_, _], _ => rfl,
    a_Hall_undo := f_Hall_undo,
    d_Hall_undo := _,
    u_Hall_undo := u_Hall_undo,
    n_Hall_undo := u_Hall_undo.binds (ps := ["self"]) fun _ _ _ _ _ _ us hl => match us, hl with | [_], _ => rfl,
    a_States___init__ := f_States___init__,
    d_States___init__ := _,
    u_States___init__ := u_States___init__,
    n_States___init__ := u_States___init__.binds (ps := ["self", "words"]) fun _ _ _ _ _ _ us hl => match us, hl with | [_, _], _ => rfl,
    a_States_take := f_States_take,
    d_States_take := _,
    u_States_take := u_States_take,
    n_States_take := u_States_take.binds (ps := ["self", "row"]) fun _ _ _ _ _ _ us hl => match us, hl with | [_, _], _ => rfl,
    a_rising := f_rising,
    d_rising := _,
    u_rising := u_rising,
    n_rising := u_rising.binds (ps := ["row"]) fun _ _ _ _ _ _ us hl => match us, hl with | [_], _ => rfl,
    g_rising := PySem.W.mg_of X G n_rising,
    a_check_words := f_check_words,
    d_check_words := _,
    u_check_words := u_check_words,
    n_check_words := u_check_words.binds (ps := ["words"]) fun _ _ _ _ _ _ us hl => match us, hl with | [_], _ => rfl,
    g_check_words := PySem.W.mg_of X G n_check_words,
    a_check_machine := f_check_machine,
    d_check_machine := _,
    u_check_machine := u_check_machine,
    n_check_machine := u_check_machine.binds (ps := ["machine"]) fun _ _ _ _ _ _ us hl => match us, hl with | [_], _ => rfl,
    g_check_machine := PySem.W.mg_of X G n_check_machine,
    a_read_words := f_read_words,
    d_read_words := _,
    u_read_words := u_read_words,
    n_read_words := u_read_words.binds (ps := ["row", "word"]) fun _ _ _ _ _ _ us hl => match us, hl with | [_, _], _ => rfl,
    g_read_words := PySem.W.mg_of X G n_read_words,
    a_read_machine := f_read_machine,
    d_read_machine := _,
    u_read_machine := u_read_machine,
    n_read_machine := u_read_machine.binds (ps := ["text"]) fun _ _ _ _ _ _ us hl => match us, hl with | [_], _ => rfl,
    g_read_machine := PySem.W.mg_of X G n_read_machine,
    a_Desk_changed := f_Desk_changed,
    d_Desk_changed := _,
    u_Desk_changed := u_Desk_changed,
    n_Desk_changed := u_Desk_changed.binds (ps := ["self", "word", "parts"]) fun _ _ _ _ _ _ us hl => match us, hl with | [_, _, _], _ => rfl,
    a_Hall___init__ := f_Hall___init__,
    d_Hall___init__ := _,
    u_Hall___init__ := u_Hall___init__,
    n_Hall___init__ := u_Hall___init__.binds (ps := ["self"]) fun _ _ _ _ _ _ us hl => match us, hl with | [_], _ => rfl,
    a_Desk_answered := f_Desk_answered,
    d_Desk_answered := _,
    u_Desk_answered := u_Desk_answered,
    n_Desk_answered := u_Desk_answered.binds (ps := ["self", "word", "parts"]) fun _ _ _ _ _ _ us hl => match us, hl with | [_, _, _], _ => rfl,
    a_read_number := f_read_number,
    d_read_number := _,
    u_read_number := u_read_number,
    n_read_number := u_read_number.binds (ps := ["text"]) fun _ _ _ _ _ _ us hl => match us, hl with | [_], _ => rfl,
    g_read_number := PySem.W.mg_of X G n_read_number,
    a_numbered := f_numbered,
    d_numbered := _,
    u_numbered := u_numbered,
    n_numbered := u_numbered.binds (ps := ["word", "digits", "more"]) fun _ _ _ _ _ _ us hl => match us, hl with | [_, _, _], _ => rfl,
    g_numbered := PySem.W.mg_of X G n_numbered,
    a_read_line := f_read_line,
    d_read_line := _,
    u_read_line := u_read_line,
    n_read_line := u_read_line.binds (ps := ["row"]) fun _ _ _ _ _ _ us hl => match us, hl with | [_], _ => rfl,
    g_read_line := PySem.W.mg_of X G n_read_line,
    a_Desk_run_row := f_Desk_run_row,
    d_Desk_run_row := _,
    u_Desk_run_row := u_Desk_run_row,
    n_Desk_run_row := u_Desk_run_row.binds (ps := ["self", "row"]) fun _ _ _ _ _ _ us hl => match us, hl with | [_, _], _ => rfl,
    a_run_script := f_run_script,
    d_run_script := _,
    u_run_script := u_run_script,
    n_run_script := u_run_script.binds (ps := ["text"]) fun _ _ _ _ _ _ us hl => match us, hl with | [_], _ => rfl,
    g_run_script := PySem.W.mg_of X G n_run_script,
    a__law_run := f__law_run,
    d__law_run := _,
    u__law_run := u__law_run,
    n__law_run := u__law_run.binds (ps := ["text"]) fun _ _ _ _ _ _ us hl => match us, hl with | [_], _ => rfl,
    g__law_run := PySem.W.mg_of X G n__law_run,
    a__law_same := f__law_same,
    d__law_same := _,
    u__law_same := u__law_same,
    n__law_same := u__law_same.binds (ps := ["told_v", "due"]) fun _ _ _ _ _ _ us hl => match us, hl with | [_, _], _ => rfl,
    g__law_same := PySem.W.mg_of X G n__law_same,
    a__law_stream := f__law_stream,
    d__law_stream := _,
    u__law_stream := u__law_stream,
    n__law_stream := u__law_stream.binds (ps := ["script"]) fun _ _ _ _ _ _ us hl => match us, hl with | [_], _ => rfl,
    g__law_stream := PySem.W.mg_of X G n__law_stream,
    a_law := fa,
    d_law := _,
    u_law := u_law,
    n_law := u_law.binds (ps := ["script"]) fun _ _ _ _ _ _ us hl => match us, hl with | [_], _ => rfl,
    g_law := PySem.W.mg_of X G n_law,
    C_Desk := C_Desk,
    K_Desk := ⟨PySem.W.mg_of X G nC_Desk, ⟨pg_Desk, hd_Desk, po_Desk, sa_Desk⟩⟩,
    C_Hall := C_Hall,
    K_Hall := ⟨PySem.W.mg_of X G nC_Hall, ⟨pg_Hall, hd_Hall, po_Hall, sa_Hall⟩⟩,
    C_States := C_States,
    K_States := ⟨PySem.W.mg_of X G nC_States, ⟨pg_States, hd_States, po_States, sa_States⟩⟩,
    na_Desk_hall := na_Desk_hall,
    na_Hall_now := na_Hall_now,
    na_Hall_past := na_Hall_past,
    na_States_found := na_States_found,
    na_States_left := na_States_left,
    na_States_words := na_States_words,
    C_Missing := C_Missing,
    x_Missing := ⟨PySem.W.mg_of X G nC_Missing, kC_Missing, xF_Missing, bF_Missing, tF_Missing⟩,
    C_NotAllowed := C_NotAllowed,
    x_NotAllowed := ⟨PySem.W.mg_of X G nC_NotAllowed, kC_NotAllowed, xF_NotAllowed, bF_NotAllowed, tF_NotAllowed⟩,
    C_TooLarge := C_TooLarge,
    x_TooLarge := ⟨PySem.W.mg_of X G nC_TooLarge, kC_TooLarge, xF_TooLarge, bF_TooLarge, tF_TooLarge⟩,
    C_BadForm := C_BadForm,
    I_BadForm := I_BadForm,
    gx_BadForm := PySem.W.mg_of X G nC_BadForm,
    w_BadForm := PySem.W.mg_of X G nC_BadForm,
    C_Broken := C_Broken,
    w_Broken := PySem.W.mg_of X G nC_Broken,
    w_Missing := PySem.W.mg_of X G nC_Missing,
    w_NotAllowed := PySem.W.mg_of X G nC_NotAllowed,
    w_TooLarge := PySem.W.mg_of X G nC_TooLarge,
    C_WardenError := C_WardenError,
    w_WardenError := PySem.W.mg_of X G nC_WardenError,
    xm_BadForm_BadForm := exm_of bF_BadForm iC_BadForm tF_BadForm s_BadForm_BadForm,
    xm_Missing_Broken := exm_of bF_Broken iC_Broken tF_Broken s_Missing_Broken,
    xm_Missing_Missing := exm_of bF_Missing iC_Missing tF_Missing s_Missing_Missing,
    xm_Missing_NotAllowed := exm_of bF_NotAllowed iC_NotAllowed tF_NotAllowed s_Missing_NotAllowed,
    xm_Missing_TooLarge := exm_of bF_TooLarge iC_TooLarge tF_TooLarge s_Missing_TooLarge,
    xm_NotAllowed_Broken := exm_of bF_Broken iC_Broken tF_Broken s_NotAllowed_Broken,
    xm_NotAllowed_NotAllowed := exm_of bF_NotAllowed iC_NotAllowed tF_NotAllowed s_NotAllowed_NotAllowed,
    xm_NotAllowed_WardenError := exm_of bF_WardenError iC_WardenError tF_WardenError s_NotAllowed_WardenError,
    xm_TooLarge_Broken := exm_of bF_Broken iC_Broken tF_Broken s_TooLarge_Broken,
    xm_TooLarge_NotAllowed := exm_of bF_NotAllowed iC_NotAllowed tF_NotAllowed s_TooLarge_NotAllowed,
    xm_TooLarge_TooLarge := exm_of bF_TooLarge iC_TooLarge tF_TooLarge s_TooLarge_TooLarge,
    xm_TooLarge_WardenError := exm_of bF_WardenError iC_WardenError tF_WardenError s_TooLarge_WardenError,
    ki_TooLarge_WardenError := kit_of iC_WardenError tF_WardenError s_TooLarge_WardenError (.inl rfl),
    ki_TooLarge_NotAllowed := kit_of iC_NotAllowed tF_NotAllowed s_TooLarge_NotAllowed (.inr q_TooLarge_NotAllowed),
    ec_TooLarge := ⟨eg_TooLarge, ek_TooLarge, bF_TooLarge, ed_TooLarge, ea_TooLarge, e_get, e_tk, em_TooLarge⟩,
    Mk_Desk := ⟨mk_Desk, at_Desk___init__, if_Desk___init__, kC_Desk⟩,
    Mk_Hall := ⟨mk_Hall, at_Hall___init__, if_Hall___init__, kC_Hall⟩,
    Mk_States := ⟨mk_States, at_States___init__, if_States___init__, kC_States⟩,
    M_Hall_image := ⟨at_Hall_image, if_Hall_image, k_Hall_image⟩,
    M_Hall_log := ⟨at_Hall_log, if_Hall_log, k_Hall_log⟩,
    M_Hall_logs := ⟨at_Hall_logs, if_Hall_logs, k_Hall_logs⟩,
    M_Hall_machine := ⟨at_Hall_machine, if_Hall_machine, k_Hall_machine⟩,
    M_Hall_machines := ⟨at_Hall_machines, if_Hall_machines, k_Hall_machines⟩,
    M_Hall_promises := ⟨at_Hall_promises, if_Hall_promises, k_Hall_promises⟩,
    M_Desk_asked := ⟨at_Desk_asked, if_Desk_asked, k_Desk_asked⟩,
    M_Hall_drop_machine := ⟨at_Hall_drop_machine, if_Hall_drop_machine, k_Hall_drop_machine⟩,
    M_Hall_give := ⟨at_Hall_give, if_Hall_give, k_Hall_give⟩,
    M_Hall_grow := ⟨at_Hall_grow, if_Hall_grow, k_Hall_grow⟩,
    M_Hall_hold := ⟨at_Hall_hold, if_Hall_hold, k_Hall_hold⟩,
    M_Hall_promise := ⟨at_Hall_promise, if_Hall_promise, k_Hall_promise⟩,
    M_Hall_put_machine := ⟨at_Hall_put_machine, if_Hall_put_machine, k_Hall_put_machine⟩,
    M_Hall_release := ⟨at_Hall_release, if_Hall_release, k_Hall_release⟩,
    M_Hall_undo := ⟨at_Hall_undo, if_Hall_undo, k_Hall_undo⟩,
    M_States_take := ⟨at_States_take, if_States_take, k_States_take⟩,
    M_Desk_changed := ⟨at_Desk_changed, if_Desk_changed, k_Desk_changed⟩,
    M_Desk_answered := ⟨at_Desk_answered, if_Desk_answered, k_Desk_answered⟩,
    M_Desk_run_row := ⟨at_Desk_run_row, if_Desk_run_row, k_Desk_run_row⟩,
    X_BadForm := ⟨⟨_, _, _, _, _, _, _, _, _, _, _, _, _, _, _, xl_BadForm, xr_BadForm, xa_BadForm⟩, xs_BadForm, xno_BadForm, bF_BadForm, tF_BadForm, kC_BadForm, xi_BadForm, xti_BadForm, x_any, PySem.W.mg_none_of X G b_super, ⟨_, _, _, _, _, _, _, _, _, _, _, _, _, _, _, _, _, _, _, xf_BadForm, xc_BadForm, xd_BadForm, xv_BadForm, xe_BadForm, xy_BadForm⟩, xt_BadForm⟩ }
  refine ⟨T.d_law, fun s u => .of_eq rfl, fun base _ _ => ?_⟩
  have q := ok_law (w := w) T base
  rw [show T.ad = Ad0 from hAd] at q
  exact q
end Lw

set_option Elab.async false
set_option maxRecDepth 100000
open PySem PySem.W PyProof.Rows
set_option maxHeartbeats 0 in
theorem PySem.Challenge.cw_namewarden_k83_desk_forms_and_limits_holds : PySem.Challenge.rw_namewarden_k83_desk_forms_and_limits.Holds := by
  w_on; o_law; k_head; (case hw => w_witness2)
  k_fill
  refine Cl.walk_mirror (l := PySem.Challenge.rw_namewarden_k83_desk_forms_and_limits) (F := Lw.F_law Lw.Ad0) (n := 63) (k := 16) (x := "script") rfl (by decide) rfl (Cl.roomG_caller ⟨rfl, by decide, by decide⟩) (fun w h Y => PySem.W.km_in_of Y) ?F Lw.law_true
  case F =>
    intro w mg fa h KX G hmg
    refine' Lw.all_mk KX G hmg ?b_abs ?b_all ?b_any ?b_enumerate ?b_int ?b_isinstance ?b_len ?b_range ?b_repr ?b_str ?b_tuple ?b_zip ?c_FIRST ?c_LATER ?c_MAX_HELD ?c_MAX_LOG ?c_MAX_NAME ?c_MAX_ROWS ?c_MAX_SIGNS ?c_MAX_STATES ?c_MAX_TEXT ?c_MAX_WORD ?c_NAMED ?l_NAMED ?c_NUMBERED ?l_NUMBERED ?c_SINGLE ?l_SINGLE ?n__law_is_digits ?l__law_is_digits ?d__law_is_digits ?k__law_is_digits ?n__law_has_form ?l__law_has_form ?d__law_has_form ?k__law_has_form ?n__law_next ?l__law_next ?d__law_next ?k__law_next ?n__law_one ?l__law_one ?d__law_one ?k__law_one ?n__law_row ?l__law_row ?d__law_row ?k__law_row ?nC_Desk ?at_Desk___init__ ?l_Desk___init__ ?d_Desk___init__ ?k_Desk___init__ ?nC_Hall ?at_Hall_image ?l_Hall_image ?d_Hall_image ?k_Hall_image ?n_found_in ?l_found_in ?d_found_in ?k_found_in ?at_Hall_log ?l_Hall_log ?d_Hall_log ?k_Hall_log ?at_Hall_logs ?l_Hall_logs ?d_Hall_logs ?k_Hall_logs ?at_Hall_machine ?l_Hall_machine ?d_Hall_machine ?k_Hall_machine ?at_Hall_machines ?l_Hall_machines ?d_Hall_machines ?k_Hall_machines ?at_Hall_promises ?l_Hall_promises ?d_Hall_promises ?k_Hall_promises ?n_is_good ?l_is_good ?d_is_good ?k_is_good ?n_least_good ?l_least_good ?d_least_good ?k_least_good ?n_listed ?l_listed ?d_listed ?k_listed ?n_log_text ?l_log_text ?d_log_text ?k_log_text ?n_is_word ?l_is_word ?d_is_word ?k_is_word ?n_check_log ?l_check_log ?d_check_log ?k_check_log ?n_is_one ?l_is_one ?d_is_one ?k_is_one ?n_number_of ?l_number_of ?d_number_of ?k_number_of ?n_rows_in ?l_rows_in ?d_rows_in ?k_rows_in ?n_read_log ?l_read_log ?d_read_log ?k_read_log ?n_rows_told ?l_rows_told ?d_rows_told ?k_rows_told ?n_told ?l_told ?d_told ?k_told ?at_Desk_asked ?l_Desk_asked ?d_Desk_asked ?k_Desk_asked ?at_Hall_drop_machine ?l_Hall_drop_machine ?d_Hall_drop_machine ?k_Hall_drop_machine ?at_Hall_give ?l_Hall_give ?d_Hall_give ?k_Hall_give ?at_Hall_grow ?l_Hall_grow ?d_Hall_grow ?k_Hall_grow ?at_Hall_hold ?l_Hall_hold ?d_Hall_hold ?k_Hall_hold ?n_check_label ?l_check_label ?d_check_label ?k_check_label ?at_Hall_promise ?l_Hall_promise ?d_Hall_promise ?k_Hall_promise ?at_Hall_put_machine ?l_Hall_put_machine ?d_Hall_put_machine ?k_Hall_put_machine ?at_Hall_release ?l_Hall_release ?d_Hall_release ?k_Hall_release ?at_Hall_undo ?l_Hall_undo ?d_Hall_undo ?k_Hall_undo ?nC_States ?at_States___init__ ?l_States___init__ ?d_States___init__ ?k_States___init__ ?at_States_take ?l_States_take ?d_States_take ?k_States_take ?n_rising ?l_rising ?d_rising ?k_rising ?n_check_words ?l_check_words ?d_check_words ?k_check_words ?n_check_machine ?l_check_machine ?d_check_machine ?k_check_machine ?n_read_words ?l_read_words ?d_read_words ?k_read_words ?n_read_machine ?l_read_machine ?d_read_machine ?k_read_machine ?at_Desk_changed ?l_Desk_changed ?d_Desk_changed ?k_Desk_changed ?at_Hall___init__ ?l_Hall___init__ ?d_Hall___init__ ?k_Hall___init__ ?at_Desk_answered ?l_Desk_answered ?d_Desk_answered ?k_Desk_answered ?n_read_number ?l_read_number ?d_read_number ?k_read_number ?n_numbered ?l_numbered ?d_numbered ?k_numbered ?n_read_line ?l_read_line ?d_read_line ?k_read_line ?at_Desk_run_row ?l_Desk_run_row ?d_Desk_run_row ?k_Desk_run_row ?n_run_script ?l_run_script ?d_run_script ?k_run_script ?n__law_run ?l__law_run ?d__law_run ?k__law_run ?n__law_same ?l__law_same ?d__law_same ?k__law_same ?n__law_stream ?l__law_stream ?d__law_stream ?k__law_stream ?n_law ?l_law ?d_law ?k_law ?pg_Desk ?hd_Desk ?po_Desk ?sa_Desk ?pg_Hall ?hd_Hall ?po_Hall ?sa_Hall ?pg_States ?hd_States ?po_States ?sa_States ?na_Desk_hall ?na_Hall_now ?na_Hall_past ?na_States_found ?na_States_left ?na_States_words ?nC_Missing ?kC_Missing ?xF_Missing ?bF_Missing ?tF_Missing ?nC_NotAllowed ?kC_NotAllowed ?xF_NotAllowed ?bF_NotAllowed ?tF_NotAllowed ?nC_TooLarge ?kC_TooLarge ?xF_TooLarge ?bF_TooLarge ?tF_TooLarge ?nC_BadForm ?nC_Broken ?nC_WardenError ?bF_BadForm ?iC_BadForm ?tF_BadForm ?s_BadForm_BadForm ?bF_Broken ?iC_Broken ?tF_Broken ?s_Missing_Broken ?iC_Missing ?s_Missing_Missing ?iC_NotAllowed ?s_Missing_NotAllowed ?iC_TooLarge ?s_Missing_TooLarge ?s_NotAllowed_Broken ?s_NotAllowed_NotAllowed ?bF_WardenError ?iC_WardenError ?tF_WardenError ?s_NotAllowed_WardenError ?s_TooLarge_Broken ?s_TooLarge_NotAllowed ?s_TooLarge_TooLarge ?s_TooLarge_WardenError ?q_TooLarge_NotAllowed ?eg_TooLarge ?ek_TooLarge ?ed_TooLarge ?ea_TooLarge ?e_get ?e_tk ?em_TooLarge ?mk_Desk ?if_Desk___init__ ?kC_Desk ?mk_Hall ?if_Hall___init__ ?kC_Hall ?mk_States ?if_States___init__ ?kC_States ?if_Hall_image ?if_Hall_log ?if_Hall_logs ?if_Hall_machine ?if_Hall_machines ?if_Hall_promises ?if_Desk_asked ?if_Hall_drop_machine ?if_Hall_give ?if_Hall_grow ?if_Hall_hold ?if_Hall_promise ?if_Hall_put_machine ?if_Hall_release ?if_Hall_undo ?if_States_take ?if_Desk_changed ?if_Desk_answered ?if_Desk_run_row ?xi_BadForm ?xl_BadForm ?xr_BadForm ?xa_BadForm ?xs_BadForm ?xno_BadForm ?kC_BadForm ?xti_BadForm ?x_any ?b_super ?xf_BadForm ?xc_BadForm ?xd_BadForm ?xv_BadForm ?xe_BadForm ?xy_BadForm ?xt_BadForm ?hAd
    (case b_abs => k_is)
    (case b_all => k_is)
    (case b_any => k_is)
    (case b_enumerate => k_is)
    (case b_int => k_is)
    (case b_isinstance => k_is)
    (case b_len => k_is)
    (case b_range => k_is)
    (case b_repr => k_is)
    (case b_str => k_is)
    (case b_tuple => k_is)
    (case b_zip => k_is)
    (case c_FIRST => k_is)
    (case c_LATER => k_is)
    (case c_MAX_HELD => k_is)
    (case c_MAX_LOG => k_is)
    (case c_MAX_NAME => k_is)
    (case c_MAX_ROWS => k_is)
    (case c_MAX_SIGNS => k_is)
    (case c_MAX_STATES => k_is)
    (case c_MAX_TEXT => k_is)
    (case c_MAX_WORD => k_is)
    (case c_NAMED => k_is)
    (case l_NAMED => k_is)
    (case c_NUMBERED => k_is)
    (case l_NUMBERED => k_is)
    (case c_SINGLE => k_is)
    (case l_SINGLE => k_is)
    (case n__law_is_digits => k_is)
    (case l__law_is_digits => k_is)
    (case d__law_is_digits => k_is)
    (case k__law_is_digits => k_is)
    (case n__law_has_form => k_is)
    (case l__law_has_form => k_is)
    (case d__law_has_form => k_is)
    (case k__law_has_form => k_is)
    (case n__law_next => k_is)
    (case l__law_next => k_is)
    (case d__law_next => k_is)
    (case k__law_next => k_is)
    (case n__law_one => k_is)
    (case l__law_one => k_is)
    (case d__law_one => k_is)
    (case k__law_one => k_is)
    (case n__law_row => k_is)
    (case l__law_row => k_is)
    (case d__law_row => k_is)
    (case k__law_row => k_is)
    (case nC_Desk => k_is)
    (case at_Desk___init__ => k_is)
    (case l_Desk___init__ => k_is)
    (case d_Desk___init__ => k_is)
    (case k_Desk___init__ => k_is)
    (case nC_Hall => k_is)
    (case at_Hall_image => k_is)
    (case l_Hall_image => k_is)
    (case d_Hall_image => k_is)
    (case k_Hall_image => k_is)
    (case n_found_in => k_is)
    (case l_found_in => k_is)
    (case d_found_in => k_is)
    (case k_found_in => k_is)
    (case at_Hall_log => k_is)
    (case l_Hall_log => k_is)
    (case d_Hall_log => k_is)
    (case k_Hall_log => k_is)
    (case at_Hall_logs => k_is)
    (case l_Hall_logs => k_is)
    (case d_Hall_logs => k_is)
    (case k_Hall_logs => k_is)
    (case at_Hall_machine => k_is)
    (case l_Hall_machine => k_is)
    (case d_Hall_machine => k_is)
    (case k_Hall_machine => k_is)
    (case at_Hall_machines => k_is)
    (case l_Hall_machines => k_is)
    (case d_Hall_machines => k_is)
    (case k_Hall_machines => k_is)
    (case at_Hall_promises => k_is)
    (case l_Hall_promises => k_is)
    (case d_Hall_promises => k_is)
    (case k_Hall_promises => k_is)
    (case n_is_good => k_is)
    (case l_is_good => k_is)
    (case d_is_good => k_is)
    (case k_is_good => k_is)
    (case n_least_good => k_is)
    (case l_least_good => k_is)
    (case d_least_good => k_is)
    (case k_least_good => k_is)
    (case n_listed => k_is)
    (case l_listed => k_is)
    (case d_listed => k_is)
    (case k_listed => k_is)
    (case n_log_text => k_is)
    (case l_log_text => k_is)
    (case d_log_text => k_is)
    (case k_log_text => k_is)
    (case n_is_word => k_is)
    (case l_is_word => k_is)
    (case d_is_word => k_is)
    (case k_is_word => k_is)
    (case n_check_log => k_is)
    (case l_check_log => k_is)
    (case d_check_log => k_is)
    (case k_check_log => k_is)
    (case n_is_one => k_is)
    (case l_is_one => k_is)
    (case d_is_one => k_is)
    (case k_is_one => k_is)
    (case n_number_of => k_is)
    (case l_number_of => k_is)
    (case d_number_of => k_is)
    (case k_number_of => k_is)
    (case n_rows_in => k_is)
    (case l_rows_in => k_is)
    (case d_rows_in => k_is)
    (case k_rows_in => k_is)
    (case n_read_log => k_is)
    (case l_read_log => k_is)
    (case d_read_log => k_is)
    (case k_read_log => k_is)
    (case n_rows_told => k_is)
    (case l_rows_told => k_is)
    (case d_rows_told => k_is)
    (case k_rows_told => k_is)
    (case n_told => k_is)
    (case l_told => k_is)
    (case d_told => k_is)
    (case k_told => k_is)
    (case at_Desk_asked => k_is)
    (case l_Desk_asked => k_is)
    (case d_Desk_asked => k_is)
    (case k_Desk_asked => k_is)
    (case at_Hall_drop_machine => k_is)
    (case l_Hall_drop_machine => k_is)
    (case d_Hall_drop_machine => k_is)
    (case k_Hall_drop_machine => k_is)
    (case at_Hall_give => k_is)
    (case l_Hall_give => k_is)
    (case d_Hall_give => k_is)
    (case k_Hall_give => k_is)
    (case at_Hall_grow => k_is)
    (case l_Hall_grow => k_is)
    (case d_Hall_grow => k_is)
    (case k_Hall_grow => k_is)
    (case at_Hall_hold => k_is)
    (case l_Hall_hold => k_is)
    (case d_Hall_hold => k_is)
    (case k_Hall_hold => k_is)
    (case n_check_label => k_is)
    (case l_check_label => k_is)
    (case d_check_label => k_is)
    (case k_check_label => k_is)
    (case at_Hall_promise => k_is)
    (case l_Hall_promise => k_is)
    (case d_Hall_promise => k_is)
    (case k_Hall_promise => k_is)
    (case at_Hall_put_machine => k_is)
    (case l_Hall_put_machine => k_is)
    (case d_Hall_put_machine => k_is)
    (case k_Hall_put_machine => k_is)
    (case at_Hall_release => k_is)
    (case l_Hall_release => k_is)
    (case d_Hall_release => k_is)
    (case k_Hall_release => k_is)
    (case at_Hall_undo => k_is)
    (case l_Hall_undo => k_is)
    (case d_Hall_undo => k_is)
    (case k_Hall_undo => k_is)
    (case nC_States => k_is)
    (case at_States___init__ => k_is)
    (case l_States___init__ => k_is)
    (case d_States___init__ => k_is)
    (case k_States___init__ => k_is)
    (case at_States_take => k_is)
    (case l_States_take => k_is)
    (case d_States_take => k_is)
    (case k_States_take => k_is)
    (case n_rising => k_is)
    (case l_rising => k_is)
    (case d_rising => k_is)
    (case k_rising => k_is)
    (case n_check_words => k_is)
    (case l_check_words => k_is)
    (case d_check_words => k_is)
    (case k_check_words => k_is)
    (case n_check_machine => k_is)
    (case l_check_machine => k_is)
    (case d_check_machine => k_is)
    (case k_check_machine => k_is)
    (case n_read_words => k_is)
    (case l_read_words => k_is)
    (case d_read_words => k_is)
    (case k_read_words => k_is)
    (case n_read_machine => k_is)
    (case l_read_machine => k_is)
    (case d_read_machine => k_is)
    (case k_read_machine => k_is)
    (case at_Desk_changed => k_is)
    (case l_Desk_changed => k_is)
    (case d_Desk_changed => k_is)
    (case k_Desk_changed => k_is)
    (case at_Hall___init__ => k_is)
    (case l_Hall___init__ => k_is)
    (case d_Hall___init__ => k_is)
    (case k_Hall___init__ => k_is)
    (case at_Desk_answered => k_is)
    (case l_Desk_answered => k_is)
    (case d_Desk_answered => k_is)
    (case k_Desk_answered => k_is)
    (case n_read_number => k_is)
    (case l_read_number => k_is)
    (case d_read_number => k_is)
    (case k_read_number => k_is)
    (case n_numbered => k_is)
    (case l_numbered => k_is)
    (case d_numbered => k_is)
    (case k_numbered => k_is)
    (case n_read_line => k_is)
    (case l_read_line => k_is)
    (case d_read_line => k_is)
    (case k_read_line => k_is)
    (case at_Desk_run_row => k_is)
    (case l_Desk_run_row => k_is)
    (case d_Desk_run_row => k_is)
    (case k_Desk_run_row => k_is)
    (case n_run_script => k_is)
    (case l_run_script => k_is)
    (case d_run_script => k_is)
    (case k_run_script => k_is)
    (case n__law_run => k_is)
    (case l__law_run => k_is)
    (case d__law_run => k_is)
    (case k__law_run => k_is)
    (case n__law_same => k_is)
    (case l__law_same => k_is)
    (case d__law_same => k_is)
    (case k__law_same => k_is)
    (case n__law_stream => k_is)
    (case l__law_stream => k_is)
    (case d__law_stream => k_is)
    (case k__law_stream => k_is)
    (case n_law => k_is)
    (case l_law => k_is)
    (case d_law => k_is)
    (case k_law => k_is)
    (case pg_Desk => k_is)
    (case hd_Desk => k_is)
    (case po_Desk => k_is)
    (case sa_Desk => k_is)
    (case pg_Hall => k_is)
    (case hd_Hall => k_is)
    (case po_Hall => k_is)
    (case sa_Hall => k_is)
    (case pg_States => k_is)
    (case hd_States => k_is)
    (case po_States => k_is)
    (case sa_States => k_is)
    (case na_Desk_hall => k_is)
    (case na_Hall_now => k_is)
    (case na_Hall_past => k_is)
    (case na_States_found => k_is)
    (case na_States_left => k_is)
    (case na_States_words => k_is)
    (case nC_Missing => k_is)
    (case kC_Missing => k_is)
    (case xF_Missing => k_exc)
    (case bF_Missing => k_is)
    (case tF_Missing => k_is)
    (case nC_NotAllowed => k_is)
    (case kC_NotAllowed => k_is)
    (case xF_NotAllowed => k_exc)
    (case bF_NotAllowed => k_is)
    (case tF_NotAllowed => k_is)
    (case nC_TooLarge => k_is)
    (case kC_TooLarge => k_is)
    (case xF_TooLarge => k_exc)
    (case bF_TooLarge => k_is)
    (case tF_TooLarge => k_is)
    (case nC_BadForm => k_is)
    (case nC_Broken => k_is)
    (case nC_WardenError => k_is)
    (case bF_BadForm => k_is)
    (case iC_BadForm => k_is)
    (case tF_BadForm => k_is)
    (case s_BadForm_BadForm => first | rfl | k_is)
    (case bF_Broken => k_is)
    (case iC_Broken => k_is)
    (case tF_Broken => k_is)
    (case s_Missing_Broken => first | rfl | k_is)
    (case iC_Missing => k_is)
    (case s_Missing_Missing => first | rfl | k_is)
    (case iC_NotAllowed => k_is)
    (case s_Missing_NotAllowed => first | rfl | k_is)
    (case iC_TooLarge => k_is)
    (case s_Missing_TooLarge => first | rfl | k_is)
    (case s_NotAllowed_Broken => first | rfl | k_is)
    (case s_NotAllowed_NotAllowed => first | rfl | k_is)
    (case bF_WardenError => k_is)
    (case iC_WardenError => k_is)
    (case tF_WardenError => k_is)
    (case s_NotAllowed_WardenError => first | rfl | k_is)
    (case s_TooLarge_Broken => first | rfl | k_is)
    (case s_TooLarge_NotAllowed => first | rfl | k_is)
    (case s_TooLarge_TooLarge => first | rfl | k_is)
    (case s_TooLarge_WardenError => first | rfl | k_is)
    (case q_TooLarge_NotAllowed => first | rfl | decide)
    (case eg_TooLarge => k_is)
    (case ek_TooLarge => k_is)
    (case ed_TooLarge => k_is)
    (case ea_TooLarge => k_is)
    (case e_get => k_is)
    (case e_tk => k_is)
    (case em_TooLarge => k_is)
    (case mk_Desk => k_is)
    (case if_Desk___init__ => k_is)
    (case kC_Desk => k_is)
    (case mk_Hall => k_is)
    (case if_Hall___init__ => k_is)
    (case kC_Hall => k_is)
    (case mk_States => k_is)
    (case if_States___init__ => k_is)
    (case kC_States => k_is)
    (case if_Hall_image => k_is)
    (case if_Hall_log => k_is)
    (case if_Hall_logs => k_is)
    (case if_Hall_machine => k_is)
    (case if_Hall_machines => k_is)
    (case if_Hall_promises => k_is)
    (case if_Desk_asked => k_is)
    (case if_Hall_drop_machine => k_is)
    (case if_Hall_give => k_is)
    (case if_Hall_grow => k_is)
    (case if_Hall_hold => k_is)
    (case if_Hall_promise => k_is)
    (case if_Hall_put_machine => k_is)
    (case if_Hall_release => k_is)
    (case if_Hall_undo => k_is)
    (case if_States_take => k_is)
    (case if_Desk_changed => k_is)
    (case if_Desk_answered => k_is)
    (case if_Desk_run_row => k_is)
    (case xi_BadForm => k_is)
    (case xl_BadForm => k_is)
    (case xr_BadForm => rfl)
    (case xa_BadForm => kernel_rfl)
    (case xs_BadForm => k_is)
    (case xno_BadForm => k_is)
    (case kC_BadForm => k_is)
    (case xti_BadForm => k_is)
    (case x_any => k_is)
    (case b_super => k_is)
    (case xf_BadForm => k_is)
    (case xc_BadForm => k_is)
    (case xd_BadForm => k_is)
    (case xv_BadForm => rfl)
    (case xe_BadForm => kernel_rfl)
    (case xy_BadForm => k_is)
    (case xt_BadForm => kernel_rfl)
    (case hAd => rfl)

