import PyProof.Rows.All
import Wide.All
import OpenK.AllK
import Wide.FinOn
import HandS.ForMost
import HandS.ForExc
import HandS.Lambda
import HandS.Wide
import HandS.Evl
import HandS.Style
import HandS.IsInst
import HandS.SortInts
import HandS.Deep
import HandS.TupAny
import HandS.RaiseMore
import KE.GoesNew
import KE.GoesEnum
import PyProof.ReprRoads
import PyProof.SumWalkG
import HandS.ExcIs
import HandS.TupMul
import HandS.EndTab
import Wide.Loose
import HandS.HeadHook1
import PySem.Challenge.RW_chairmarks_k16_whole_greatest_rests
import PyProof.ReprLen
import PyProof.Rows.StrJoinMade
set_option Elab.async false
set_option linter.all false
set_option maxRecDepth 100000
set_option maxHeartbeats 4000000
section
/-! # PD: a layer of plain data over the hand layer. A def's body is read as a function of plain data (PyData); lists that a def changes by place or append are told by value as long as one slot alone holds them. -/
namespace PD
open PySem PySem.Spec PyProof.Rows L2 Evl

/-! ### representation -/
mutual
inductive Rp (K : PySem.W.Frag) (H : Hp) : V → PyData → Prop
  | non : Rp K H .non .none
  | bl (b : Bool) : Rp K H (.bl b) (.bool b)
  | int (i : Int) : Rp K H (.int i) (.int i)
  | str (x : Str) : Rp K H (.str x) (.str x)
  | lst {a : Addr} {xs : List V} {ds : List PyData} : Rd H a (.lst xs) → RpAll K H xs ds → Rp K H (.ref a) (.list ds)
  | tup {a : Addr} {xs : List V} {ds : List PyData} : SqT K H a xs → RpAll K H xs ds → Rp K H (.ref a) (.tuple ds)
  | dct {a : Addr} {kvs : List (Key × V)} {es : List (PyData × PyData)} : Rd H a (.dK kvs) → RpKV K H kvs es → Rp K H (.ref a) (.dict es)
  | obj (a : Addr) : Rp K H (.ref a) (.dict [(.none, .int (a : Nat))])
inductive RpAll (K : PySem.W.Frag) (H : Hp) : List V → List PyData → Prop
  | nil : RpAll K H [] []
  | cons {v : V} {vs : List V} {d : PyData} {ds : List PyData} : Rp K H v d → RpAll K H vs ds → RpAll K H (v :: vs) (d :: ds)
inductive RpKV (K : PySem.W.Frag) (H : Hp) : List (Key × V) → List (PyData × PyData) → Prop
  | nil : RpKV K H [] []
  | consI {i : Int} {v : V} {vs : List (Key × V)} {d : PyData} {ds : List (PyData × PyData)} : Rp K H v d → RpKV K H vs ds → RpKV K H ((.inl i, v) :: vs) ((.int i, d) :: ds)
  | consS {x : Str} {v : V} {vs : List (Key × V)} {d : PyData} {ds : List (PyData × PyData)} : Rp K H v d → RpKV K H vs ds → RpKV K H ((.inr x, v) :: vs) ((.str x, d) :: ds)
end
section
variable {K : PySem.W.Frag} {H H' : Hp}
mutual
theorem Rp.mono (e : Ex H H') : ∀ {v : V} {d : PyData}, Rp K H v d → Rp K H' v d
  | _, _, .non => .non
  | _, _, .bl b => .bl b
  | _, _, .int i => .int i
  | _, _, .str x => .str x
  | _, _, .lst h a => .lst (ex_rd e h) (RpAll.mono e a)
  | _, _, .tup h a => .tup (ex_t e h) (RpAll.mono e a)
  | _, _, .dct h a => .dct (ex_rd e h) (RpKV.mono e a)
  | _, _, .obj a => .obj a
theorem RpAll.mono (e : Ex H H') : ∀ {vs : List V} {ds : List PyData}, RpAll K H vs ds → RpAll K H' vs ds
  | _, _, .nil => .nil
  | _, _, .cons h t => .cons (Rp.mono e h) (RpAll.mono e t)
theorem RpKV.mono (e : Ex H H') : ∀ {vs : List (Key × V)} {ds : List (PyData × PyData)}, RpKV K H vs ds → RpKV K H' vs ds
  | _, _, .nil => .nil
  | _, _, .consI h t => .consI (Rp.mono e h) (RpKV.mono e t)
  | _, _, .consS h t => .consS (Rp.mono e h) (RpKV.mono e t)
end
theorem RpAll.length : ∀ {vs : List V} {ds : List PyData}, RpAll K H vs ds → vs.length = ds.length
  | _, _, .nil => rfl
  | _, _, .cons _ t => by rw [List.length_cons, List.length_cons, RpAll.length t]
theorem RpAll.get : ∀ {vs : List V} {ds : List PyData} {i : Nat} {d : PyData}, RpAll K H vs ds → ds[i]? = some d → ∃ v, vs[i]? = some v ∧ Rp K H v d
  | _, _, i, d, .nil, e => by simp at e
  | _, _, 0, d, .cons h t, e => by simp at e; subst e; exact ⟨_, rfl, h⟩
  | _, _, i + 1, d, .cons h t, e => by
    obtain ⟨v, h1, h2⟩ := RpAll.get (i := i) (d := d) t (by simpa using e)
    exact ⟨v, by simpa using h1, h2⟩
theorem RpAll.append : ∀ {vs ws : List V} {ds es : List PyData}, RpAll K H vs ds → RpAll K H ws es → RpAll K H (vs ++ ws) (ds ++ es)
  | _, _, _, _, .nil, s => s
  | _, _, _, _, .cons h t, s => .cons h (RpAll.append t s)
theorem RpAll.set {v : V} {d : PyData} (r : Rp K H v d) : ∀ {vs : List V} {ds : List PyData} (i : Nat), RpAll K H vs ds → RpAll K H (vs.set i v) (ds.set i d)
  | _, _, _, .nil => .nil
  | _, _, 0, .cons _ t => .cons r t
  | _, _, i + 1, .cons h t => .cons h (RpAll.set r i t)
theorem RpAll.take : ∀ {vs : List V} {ds : List PyData} (n : Nat), RpAll K H vs ds → RpAll K H (vs.take n) (ds.take n)
  | _, _, 0, _ => .nil
  | _, _, _ + 1, .nil => .nil
  | _, _, n + 1, .cons h t => .cons h (RpAll.take n t)
theorem RpAll.drop : ∀ {vs : List V} {ds : List PyData} (n : Nat), RpAll K H vs ds → RpAll K H (vs.drop n) (ds.drop n)
  | _, _, 0, r => r
  | _, _, _ + 1, .nil => .nil
  | _, _, n + 1, .cons _ t => RpAll.drop n t
theorem RpAll.reverse {vs : List V} {ds : List PyData} (h : RpAll K H vs ds) : RpAll K H vs.reverse ds.reverse := by
  induction h using RpAll.rec (motive_1 := fun _ _ _ => True) (motive_3 := fun _ _ _ => True) with
  | nil => exact .nil
  | cons h t _ ih => rw [List.reverse_cons, List.reverse_cons]; exact ih.append (.cons h .nil)
  | _ => trivial
theorem RpAll.eraseIdx : ∀ {vs : List V} {ds : List PyData} (i : Nat), RpAll K H vs ds → RpAll K H (vs.eraseIdx i) (ds.eraseIdx i)
  | _, _, _, .nil => .nil
  | _, _, 0, .cons _ t => t
  | _, _, i + 1, .cons h t => .cons h (RpAll.eraseIdx i t)
theorem RpAll.ints : ∀ {vs : List V} {ns : List Int}, RpAll K H vs (ns.map PyData.int) → vs = ns.map V.int
  | _, [], .nil => rfl
  | _, n :: ns, .cons h t => by
    cases h
    rw [RpAll.ints t] <;> rfl
theorem RpAll.of_ints : ∀ (ns : List Int), RpAll K H (ns.map V.int) (ns.map PyData.int)
  | [] => .nil
  | n :: ns => .cons (.int n) (RpAll.of_ints ns)
theorem RpAll.bools : ∀ {vs : List V} {ns : List Bool}, RpAll K H vs (ns.map PyData.bool) → vs = ns.map V.bl
  | _, [], .nil => rfl
  | _, n :: ns, .cons h t => by
    cases h
    rw [RpAll.bools t] <;> rfl
/-- no dict in it -/
def nd : PyData → Bool
  | .list xs => ndAll xs
  | .tuple xs => ndAll xs
  | .dict _ => false
  | _ => true
where ndAll : List PyData → Bool
  | [] => true
  | x :: xs => nd x && ndAll xs
mutual
theorem Rp.dp : ∀ {v : V} {d : PyData}, Rp K H v d → nd d = true → Dp K H v d
  | _, _, .non, _ => .non
  | _, _, .bl b, _ => .bl b
  | _, _, .int i, _ => .int i
  | _, _, .str x, _ => .str x
  | _, _, .lst h a, e => .lst (.inl h) (RpAll.dp a (by simpa [nd] using e))
  | _, _, .tup h a, e => .tup h (RpAll.dp a (by simpa [nd] using e))
  | _, _, .dct h a, e => by simp [nd] at e
  | _, _, .obj a, e => by simp [nd] at e
theorem RpAll.dp : ∀ {vs : List V} {ds : List PyData}, RpAll K H vs ds → nd.ndAll ds = true → DpAll K H vs ds
  | _, _, .nil, _ => .nil
  | _, _, .cons h t, e => by
    have e : _ := (Bool.and_eq_true _ _).mp (by simpa [nd.ndAll] using e)
    exact .cons (Rp.dp h e.1) (RpAll.dp t e.2)
end
end

/-! ### slots -/
/-- what a slot holds: nothing yet, data, a list that this slot alone holds (io: the caller's own) -/
inductive Sl where
  | no
  | dat (d : PyData)
  | own (io : Bool) (ds : List PyData)
abbrev En := List Sl
abbrev TabsD (T : List (Addr × Str)) (H : Hp) : Prop := LamX.Tabs T H
/-- nothing is told of p, but that it may be a table -/
def Nw (H : Hp) (p : Addr) : Prop := ∀ u, H p = some u → ∃ ps, u = .tbl ps
theorem nw_of {H : Hp} {p : Addr} (h : H p = none) : Nw H p := fun u e => by rw [h] at e; cases e
theorem nw_no {H : Hp} {p : Addr} {u : HO} (h : Nw H p) (e : H p = some u) (t : ∀ ps, u ≠ .tbl ps) : False := let ⟨ps, q⟩ := h u e; t ps q
theorem nw_lst {H : Hp} {p : Addr} {xs : List V} (e : H p = some (.lst xs)) : ¬ Nw H p := fun h => nw_no h e fun _ z => by cases z
def OwnA (σ : L2.St) (en : En) (p : Addr) : Prop := ∃ (i : Nat) (io : Bool) (ds : List PyData), en[i]? = some (.own io ds) ∧ σ[i]? = some (some (.ref p))
structure SR (K : PySem.W.Frag) (T : List (Addr × Str)) (H0 H : Hp) (σ : L2.St) (en : En) : Prop where
  len : σ.length = en.length
  ex : Ex H0 H
  tb : TabsD T H
  nt : ∀ p ps, H0 p ≠ some (.tbl ps)
  dat : ∀ (i : Nat) (d : PyData), en[i]? = some (.dat d) → ∃ v, σ[i]? = some (some v) ∧ Rp K H0 v d
  own : ∀ (i : Nat) (io : Bool) (ds : List PyData), en[i]? = some (.own io ds) → ∃ (p : Addr) (vs : List V), σ[i]? = some (some (.ref p)) ∧ H p = some (.lst vs) ∧ H0 p = none ∧ RpAll K H0 vs ds
  sep : ∀ (i j : Nat) (io : Bool) (ds : List PyData) (jo : Bool) (es : List PyData) (p : Addr), i ≠ j → en[i]? = some (.own io ds) → en[j]? = some (.own jo es) → σ[i]? = some (some (.ref p)) → σ[j]? ≠ some (some (.ref p))
/-- what a step leaves of the heap -/
structure Fm (own : Addr → Prop) (H0 H H0' H' : Hp) : Prop where
  ex : Ex H0 H0'
  fr : ∀ p o, H p = some o → ¬ own p → (∀ ps, o ≠ .tbl ps) → H' p = some o
  kp : ∀ p, Nw H' p → Nw H p
  nw : ∀ p, ¬ Nw H p → ¬ own p → H0 p = none → H0' p = none
structure Stp (σ : L2.St) (en : En) (H0 H : Hp) (σ' : L2.St) (en' : En) (H0' H' : Hp) : Prop where
  fm : Fm (OwnA σ en) H0 H H0' H'
  ow : ∀ p, OwnA σ' en' p → OwnA σ en p ∨ Nw H p
  io : ∀ (i : Nat) (ds : List PyData), en[i]? = some (.own true ds) → σ'[i]? = σ[i]? ∧ ∃ ds', en'[i]? = some (.own true ds')
section
variable {K : PySem.W.Frag} {T : List (Addr × Str)} {H0 H H0' H' H0'' H'' : Hp} {σ σ' σ'' : L2.St} {en en' en'' : En} {own own' : Addr → Prop}
theorem Fm.refl : Fm own H0 H H0 H := ⟨Ex.refl _, fun _ _ h _ _ => h, fun _ h => h, fun _ _ _ h => h⟩
theorem Fm.trans (a : Fm own H0 H H0' H') (b : Fm own' H0' H' H0'' H'') (o : ∀ p, own' p → own p ∨ Nw H p) : Fm own H0 H H0'' H'' where
  ex := a.ex.trans b.ex
  fr := fun p u h n t => b.fr p u (a.fr p u h n t) (fun z => (o p z).elim n fun e => nw_no e h t) t
  kp := fun p h => a.kp p (b.kp p h)
  nw := fun p h n e => b.nw p (fun z => h (a.kp p z)) (fun z => (o p z).elim n h) (a.nw p h n e)
theorem Fm.weak (a : Fm own H0 H H0' H') (o : ∀ p, own p → own' p) : Fm own' H0 H H0' H' := ⟨a.ex, fun p u h n t => a.fr p u h (fun z => n (o p z)) t, a.kp, fun p h n e => a.nw p h (fun z => n (o p z)) e⟩
theorem Stp.refl : Stp σ en H0 H σ en H0 H := ⟨Fm.refl, fun _ h => .inl h, fun i ds h => ⟨rfl, ds, h⟩⟩
theorem Stp.trans (a : Stp σ en H0 H σ' en' H0' H') (b : Stp σ' en' H0' H' σ'' en'' H0'' H'') : Stp σ en H0 H σ'' en'' H0'' H'' where
  fm := a.fm.trans b.fm a.ow
  ow := fun p h => (b.ow p h).elim (fun h => a.ow p h) fun h => .inr (a.fm.kp p h)
  io := fun i ds h => by
    obtain ⟨e1, ds1, h1⟩ := a.io i ds h
    obtain ⟨e2, ds2, h2⟩ := b.io i ds1 h1
    exact ⟨e2.trans e1, ds2, h2⟩
theorem kp_upd {p a : Addr} {o : HO} (hp : Nw H p) (h : Nw (upd H p o) a) : Nw H a := fun u e => by
  by_cases z : a = p
  · subst z; exact hp u e
  · exact h u (by rw [upd_ne z]; exact e)
/-- a new object that the protected part gets -/
theorem Fm.new {p : Addr} {o : HO} (hx : Ex H0 H) (hp : H p = none) : Fm own H0 H (upd H0 p o) (upd H p o) := by
  have h0 : H0 p = none := fresh_back hx hp
  refine ⟨Ex.new h0, fun a u h _ _ => by rw [upd_ne (ne_of_none h hp)]; exact h, fun a h => kp_upd (nw_of hp) h, fun a h _ e => ?_⟩
  by_cases z : a = p
  · subst z; exact absurd (nw_of hp) h
  · rw [upd_ne z]; exact e
/-- a new object beside the protected part -/
theorem Fm.newO {p : Addr} {o : HO} (hp : H p = none) : Fm own H0 H H0 (upd H p o) :=
  ⟨Ex.refl _, fun a u h _ _ => by rw [upd_ne (ne_of_none h hp)]; exact h, fun a h => kp_upd (nw_of hp) h, fun a h _ e => e⟩
/-- an own list is changed -/
theorem Fm.mut {p : Addr} {ws : List V} {u : HO} (hp : H p = some u) (ho : own p) : Fm own H0 H H0 (upd H p (.lst ws)) :=
  ⟨Ex.refl _, fun a u h n _ => by rw [upd_ne (fun z => n (by rw [z]; exact ho))]; exact h, fun a h u e => by
    by_cases z : a = p
    · subst z; exact absurd h (nw_lst upd_same)
    · exact h u (by rw [upd_ne z]; exact e), fun a h _ e => e⟩
theorem tabs_upd {p : Addr} {o : HO} (t : TabsD T H) (h : H p = none ∨ ∃ xs, H p = some (.lst xs)) : TabsD T (upd H p o) := fun q hq => by
  obtain ⟨ps, h1, h2, h3⟩ := t q hq
  have ne : ∀ {c u}, H c = some u → (∀ xs, u ≠ .lst xs) → c ≠ p := fun {c u} e n z => by
    subst z
    rcases h with h | ⟨xs, h⟩
    · rw [h] at e; cases e
    · rw [h] at e; cases e; exact n xs rfl
  refine ⟨ps, by rw [upd_ne (ne h1 (fun _ z => by cases z))]; exact h1, h2, fun pos cv hc => ?_⟩
  obtain ⟨c, e1, e2⟩ := h3 pos cv hc
  exact ⟨c, e1, by rw [upd_ne (ne e2 (fun _ z => by unfold LamX.CodeO at z; cases z))]; exact e2⟩
/-- the same slots over a grown heap whose own lists stand -/
theorem SR.grow (s : SR K T H0 H σ en) (f : Fm (fun _ => False) H0 H H0' H') (hx : Ex H0' H') (t : TabsD T H') (nt : ∀ p ps, H0' p ≠ some (.tbl ps)) : SR K T H0' H' σ en where
  len := s.len
  ex := hx
  tb := t
  nt := nt
  dat := fun i d h => by
    obtain ⟨v, e, r⟩ := s.dat i d h
    exact ⟨v, e, r.mono f.ex⟩
  own := fun i io ds h => by
    obtain ⟨p, vs, e, hp, h0, r⟩ := s.own i io ds h
    exact ⟨p, vs, e, f.fr p _ hp (fun z => z) (fun _ z => by cases z), f.nw p (nw_lst hp) (fun z => z) h0, r.mono f.ex⟩
  sep := s.sep
theorem SR.new (s : SR K T H0 H σ en) {p : Addr} {o : HO} (hp : H p = none) (ho : ∀ ps, o ≠ .tbl ps) : SR K T (upd H0 p o) (upd H p o) σ en :=
  s.grow (Fm.new s.ex hp) (fun a u h => by
    by_cases z : a = p
    · subst z; rw [upd_same] at h ⊢; exact h
    · rw [upd_ne z] at h ⊢; exact s.ex a u h) (tabs_upd s.tb (.inl hp)) (fun a ps h => by
    by_cases z : a = p
    · subst z; rw [upd_same] at h; exact ho ps (Option.some.inj h)
    · rw [upd_ne z] at h; exact s.nt a ps h)
theorem SR.newO (s : SR K T H0 H σ en) {p : Addr} {xs : List V} (hp : H p = none) : SR K T H0 (upd H p (.lst xs)) σ en :=
  s.grow (Fm.newO hp) (s.ex.trans (Ex.new hp)) (tabs_upd s.tb (.inl hp)) s.nt
/-- a list beside the protected part is protected from now on -/
theorem Fm.frz {p : Addr} {o : HO} (hp : Nw H p) (hp' : H' p = some o) (f : Fm own H0 H H0' H') (h0 : H0' p = none) : Fm own H0 H (upd H0' p o) H' :=
  ⟨f.ex.trans (Ex.new h0), f.fr, f.kp, fun a h n e => by
    by_cases z : a = p
    · subst z; exact absurd hp h
    · rw [upd_ne z]; exact f.nw a h n e⟩
end
end PD
end
section
namespace PD
open PySem PySem.Spec PyProof.Rows L2 Evl

/-! ### results -/
/-- what a reading comes to: a value, an own error's number, or that it is not told -/
inductive R (α : Type) where
  | ok (a : α)
  | exc (n : Nat)
  | bad
namespace R
def bind {α β : Type} (x : R α) (f : α → R β) : R β := match x with
  | .ok a => f a
  | .exc n => .exc n
  | .bad => .bad
instance : Monad R where
  pure := .ok
  bind := bind
@[simp] theorem bind_ok {α β : Type} (a : α) (f : α → R β) : (R.ok a >>= f) = f a := rfl
@[simp] theorem bind_exc {α β : Type} (n : Nat) (f : α → R β) : (R.exc n >>= f) = R.exc n := rfl
@[simp] theorem bind_bad {α β : Type} (f : α → R β) : ((R.bad : R α) >>= f) = R.bad := rfl
@[simp] theorem pure_eq {α : Type} (a : α) : (pure a : R α) = R.ok a := rfl
end R
def R.get {α : Type} (o : Option α) : R α := match o with
  | some a => .ok a
  | none => .bad
@[simp] theorem R.get_some {α : Type} (a : α) : R.get (some a) = R.ok a := rfl
@[simp] theorem R.get_none {α : Type} : R.get (none : Option α) = R.bad := rfl

/-- what is fixed in a def: the written part, the tables of code objects, the errors' classes, the wish about errors -/
structure Ct where
  K : PySem.W.Frag
  T : List (Addr × Str)
  ca : Nat → Addr
  E : XK

/-- the wish about an error, from here -/
def Ct.err (C : Ct) (own : Addr → Prop) (H0 H : Hp) (n : Nat) : Prop := ∀ H0' H', Fm own H0 H H0' H' → Ex H0' H' → TabsD C.T H' → (∀ p ps, H0' p ≠ some (.tbl ps)) → C.E (.ref (C.ca n)) none H'
theorem Ct.err_at {C : Ct} {own own' : Addr → Prop} {H0 H H0' H' : Hp} {n : Nat} (h : C.err own H0 H n) (f : Fm own H0 H H0' H') (o : ∀ p, own' p → own p ∨ Nw H p) : C.err own' H0' H' n :=
  fun _ _ g x t nt => h _ _ (f.trans g o) x t nt

/-- an operand: data, or the list that slot i holds -/
inductive Op where
  | val (d : PyData)
  | own (i : Nat)
def OpdR (K : PySem.W.Frag) (H0 : Hp) (σ : L2.St) (v : V) : Op → Prop
  | .val d => Rp K H0 v d
  | .own i => σ[i]? = some (some v)
def Op.res (en : En) : Op → R PyData
  | .val d => .ok d
  | .own i => match en[i]? with
    | some (.own _ ds) => .ok (.list ds)
    | _ => .bad
/-- a value as it may be read now -/
def RpX (K : PySem.W.Frag) (H0 H : Hp) (v : V) (d : PyData) : Prop := Rp K H0 v d ∨ ∃ p vs ds, v = .ref p ∧ d = .list ds ∧ H p = some (.lst vs) ∧ RpAll K H0 vs ds

abbrev Sem' (α : Type) := En → R (α × En)

/-- what an expression leaves -/
def Post (C : Ct) {α : Type} (rel : En → Hp → Hp → V → α → Prop) (H0 H : Hp) (σ : L2.St) (en : En) (Q : VK) : R (α × En) → Prop
  | .ok (a, en') => ∀ H0' H' v, Stp σ en H0 H σ en' H0' H' → SR C.K C.T H0' H' σ en' → rel en' H0' H' v a → Q v H'
  | .exc n => C.err (OwnA σ en) H0 H n
  | .bad => False
/-- an operand's reading -/
def tO (C : Ct) (F : Sem' Op) : TE := fun σ H Q => ∃ H0 en, SR C.K C.T H0 H σ en ∧ Post C (fun _ H0' _ v a => OpdR C.K H0' σ v a) H0 H σ en Q (F en)
/-- a value's reading -/
def tE (C : Ct) (F : Sem' PyData) : TE := fun σ H Q => ∃ H0 en, SR C.K C.T H0 H σ en ∧ Post C (fun _ H0' _ v a => Rp C.K H0' v a) H0 H σ en Q (F en)
/-- a new list's reading -/
def NewL (K : PySem.W.Frag) (σ : L2.St) (Hs : Hp) (en' : En) (H0' H' : Hp) (v : V) (ds : List PyData) : Prop := ∃ p vs, v = .ref p ∧ Nw Hs p ∧ H' p = some (.lst vs) ∧ H0' p = none ∧ RpAll K H0' vs ds ∧ ¬ OwnA σ en' p
def tN (C : Ct) (F : Sem' (List PyData)) : TE := fun σ H Q => ∃ H0 en, SR C.K C.T H0 H σ en ∧ Post C (NewL C.K σ H) H0 H σ en Q (F en)
/-- a test's reading -/
def PostB (C : Ct) (H0 H : Hp) (σ : L2.St) (en : En) (Q : Bool → Hp → Prop) : R (Bool × En) → Prop
  | .ok (b, en') => ∀ H0' H', Stp σ en H0 H σ en' H0' H' → SR C.K C.T H0' H' σ en' → Q b H'
  | .exc n => C.err (OwnA σ en) H0 H n
  | .bad => False
def tT (C : Ct) (F : Sem' Bool) : TT := fun σ H Q => ∃ H0 en, SR C.K C.T H0 H σ en ∧ PostB C H0 H σ en Q (F en)
/-- arguments -/
def OpdsR (K : PySem.W.Frag) (H0 : Hp) (σ : L2.St) : List V → List Op → Prop
  | [], [] => True
  | v :: vs, o :: os => OpdR K H0 σ v o ∧ OpdsR K H0 σ vs os
  | _, _ => False
def PostA (C : Ct) (H0 H : Hp) (σ : L2.St) (en : En) (Q : List V → Hp → Prop) : R (List Op × En) → Prop
  | .ok (os, en') => ∀ H0' H' vs, Stp σ en H0 H σ en' H0' H' → SR C.K C.T H0' H' σ en' → OpdsR C.K H0' σ vs os → Q vs H'
  | .exc n => C.err (OwnA σ en) H0 H n
  | .bad => False
def tA (C : Ct) (F : Sem' (List Op)) : TA := fun σ H Q => ∃ H0 en, SR C.K C.T H0 H σ en ∧ PostA C H0 H σ en Q (F en)

section
variable {C : Ct} {H0 H H0' H' : Hp} {σ : L2.St} {en en' : En} {α β : Type}
theorem OpdR.mono {v : V} {o : Op} (h : OpdR C.K H0 σ v o) (e : Ex H0 H0') : OpdR C.K H0' σ v o := by
  cases o with
  | val d => exact Rp.mono e h
  | own i => exact h
theorem OpdsR.mono (e : Ex H0 H0') : ∀ {vs : List V} {os : List Op}, OpdsR C.K H0 σ vs os → OpdsR C.K H0' σ vs os
  | [], [], _ => trivial
  | _ :: _, _ :: _, h => ⟨OpdR.mono h.1 e, OpdsR.mono e h.2⟩
  | [], _ :: _, h => h.elim
  | _ :: _, [], h => h.elim
theorem OpdR.res {v : V} {o : Op} {d : PyData} (s : SR C.K C.T H0 H σ en) (h : OpdR C.K H0 σ v o) (e : o.res en = .ok d) : RpX C.K H0 H v d := by
  cases o with
  | val d' =>
    have e : R.ok d' = R.ok d := e
    cases e
    exact .inl h
  | own i =>
    have e : (match en[i]? with
      | some (.own _ ds) => R.ok (PyData.list ds)
      | _ => R.bad) = .ok d := e
    split at e
    · rename_i io ds hi
      cases e
      obtain ⟨p, vs, e1, e2, e3, r⟩ := s.own i io ds hi
      have h : σ[i]? = some (some v) := h
      rw [h] at e1
      cases e1
      exact .inr ⟨p, vs, ds, rfl, rfl, e2, r⟩
    · cases e
theorem RpX.mono {v : V} {d : PyData} (h : RpX C.K H0 H v d) (hx : Ex H0 H) : Rp C.K H v d := by
  rcases h with h | ⟨p, vs, ds, rfl, rfl, e, r⟩
  · exact h.mono hx
  · exact .lst (Rd.of e) (r.mono hx)
/-- as a list -/
theorem RpX.list {v : V} {ds : List PyData} (h : RpX C.K H0 H v (.list ds)) (hx : Ex H0 H) : ∃ a vs, v = .ref a ∧ Rd H a (.lst vs) ∧ RpAll C.K H0 vs ds := by
  rcases h with h | ⟨p, vs, ds', rfl, e', e, r⟩
  · cases h with
    | lst hs ha => exact ⟨_, _, rfl, ex_rd hx hs, ha⟩
  · cases e'
    exact ⟨p, vs, rfl, Rd.of e, r⟩
theorem RpX.tup {v : V} {ds : List PyData} (h : RpX C.K H0 H v (.tuple ds)) (hx : Ex H0 H) : ∃ a vs, v = .ref a ∧ SqT C.K H a vs ∧ RpAll C.K H0 vs ds := by
  rcases h with h | ⟨p, vs, ds', rfl, e', e, r⟩
  · cases h with
    | tup hs ha => exact ⟨_, _, rfl, ex_t hx hs, ha⟩
  · cases e'
theorem RpX.int {v : V} {i : Int} (h : RpX C.K H0 H v (.int i)) : v = .int i := by
  rcases h with h | ⟨p, vs, ds', rfl, e', e, r⟩
  · cases h; rfl
  · cases e'
theorem RpX.str {v : V} {i : Str} (h : RpX C.K H0 H v (.str i)) : v = .str i := by
  rcases h with h | ⟨p, vs, ds', rfl, e', e, r⟩
  · cases h; rfl
  · cases e'
theorem RpX.bl {v : V} {i : Bool} (h : RpX C.K H0 H v (.bool i)) : v = .bl i := by
  rcases h with h | ⟨p, vs, ds', rfl, e', e, r⟩
  · cases h; rfl
  · cases e'
theorem RpX.non {v : V} (h : RpX C.K H0 H v .none) : v = .non := by
  rcases h with h | ⟨p, vs, ds', rfl, e', e, r⟩
  · cases h; rfl
  · cases e'

/-! ### the readings' joints -/
/-- one expression, then what is wanted -/
theorem post_bind {rel : En → Hp → Hp → V → α → Prop} {rel2 : En → Hp → Hp → V → β → Prop} {Q : VK} {Q2 : VK} {x : R (α × En)} {f : α → En → R (β × En)}
    (h : Post C rel2 H0 H σ en Q2 (x >>= fun p => f p.1 p.2))
    (k : ∀ a en1 H01 H1 v, x = .ok (a, en1) → Stp σ en H0 H σ en1 H01 H1 → SR C.K C.T H01 H1 σ en1 → rel en1 H01 H1 v a → Post C rel2 H01 H1 σ en1 Q2 (f a en1) → Q v H1) : Post C rel H0 H σ en Q x := by
  cases x with
  | ok p =>
    obtain ⟨a, en1⟩ := p
    intro H01 H1 v st sr r
    refine k a en1 H01 H1 v rfl st sr r ?_
    have h : Post C rel2 H0 H σ en Q2 (f a en1) := h
    revert h
    cases f a en1 with
    | ok q => exact fun h H0' H' v' st' sr' r' => h H0' H' v' (st.trans st') sr' r'
    | exc n => exact fun h => Ct.err_at h st.fm st.ow
    | bad => exact fun h => h
  | exc n => exact h
  | bad => exact h.elim
theorem post_mono {rel rel2 : En → Hp → Hp → V → α → Prop} {Q : VK} {x : R (α × En)} (h : Post C rel2 H0 H σ en Q x) (m : ∀ H0' H' v a en', x = .ok (a, en') → Stp σ en H0 H σ en' H0' H' → SR C.K C.T H0' H' σ en' → rel en' H0' H' v a → rel2 en' H0' H' v a) : Post C rel H0 H σ en Q x := by
  cases x with
  | ok p => exact fun H0' H' v st sr r => h H0' H' v st sr (m _ _ _ _ _ rfl st sr r)
  | exc n => exact h
  | bad => exact h
end
/-- a stronger reading -/
theorem _root_.L2.PE.imp {X : Cx} {e : Expr} {t t' : TE} (h : PE X e t) (i : ∀ σ H Q, t' σ H Q → t σ H Q) : PE X e t' := ⟨fun pins s σ H Q I q => h.run pins s σ H Q I (i σ H Q q)⟩
theorem _root_.L2.PT.imp {X : Cx} {e : Expr} {t t' : TT} (h : PT X e t) (i : ∀ σ H Q, t' σ H Q → t σ H Q) : PT X e t' := ⟨fun pins s σ H Q I q => h.run pins s σ H Q I (i σ H Q q)⟩
theorem _root_.L2.PW.imp {X : Cx} {e : Expr} {t t' : TT} (h : PW X e t) (i : ∀ σ H Q, t' σ H Q → t σ H Q) : PW X e t' := ⟨fun w pins s σ H Q I q => h.run w pins s σ H Q I (i σ H Q q)⟩
theorem _root_.L2.PA.imp {X : Cx} {e : List Expr} {t t' : TA} (h : PA X e t) (i : ∀ σ H Q, t' σ H Q → t σ H Q) : PA X e t' := ⟨fun pos pins s σ H Q I q => h.run pos pins s σ H Q I (i σ H Q q)⟩
theorem _root_.L2.PS.imp {X : Cx} {e : Stmt} {t t' : TS} (h : PS X e t) (i : ∀ D σ H, t' D σ H → t D σ H) : PS X e t' := ⟨fun pins s σ H D I q => h.run pins s σ H D I (i D σ H q)⟩
theorem _root_.L2.PSs.imp {X : Cx} {e : List Stmt} {t t' : TS} (h : PSs X e t) (i : ∀ D σ H, t' D σ H → t D σ H) : PSs X e t' := ⟨fun pins s σ H D I q => h.run pins s σ H D I (i D σ H q)⟩
theorem _root_.L2.PI.imp {X : Cx} {tg e : Expr} {t t' : TI} (h : PI X tg e t) (i : ∀ σ H Q, t' σ H Q → t σ H Q) : PI X tg e t' := ⟨fun pins s σ H Q I q => h.run pins s σ H Q I (i σ H Q q)⟩
end PD
end
section
namespace PD
open PySem PySem.Spec PyProof.Rows L2 Evl

/-! ### rules by values -/
structure Good (C : Ct) (H0 H : Hp) : Prop where
  ex : Ex H0 H
  tb : TabsD C.T H
  nt : ∀ p ps, H0 p ≠ some (.tbl ps)
/-- what a step by values that makes nothing but new things leaves -/
def Out (C : Ct) (H0 H : Hp) (d : PyData) (Q : VK) : Prop := ∀ H0' H' v, Fm (fun _ => False) H0 H H0' H' → Good C H0' H' → Rp C.K H0' v d → Q v H'
def OutN (C : Ct) (H0 H : Hp) (ds : List PyData) (Q : VK) : Prop := ∀ p vs H', Fm (fun _ => False) H0 H H0 H' → Good C H0 H' → H p = none → H' p = some (.lst vs) → RpAll C.K H0 vs ds → Q (.ref p) H'
section
variable {C : Ct} {H0 H H0' H' : Hp} {σ : L2.St} {en en' : En} {α β : Type}
theorem SR.good (s : SR C.K C.T H0 H σ en) : Good C H0 H := ⟨s.ex, s.tb, s.nt⟩
theorem SR.grown (s : SR C.K C.T H0 H σ en) (f : Fm (fun _ => False) H0 H H0' H') (g : Good C H0' H') : SR C.K C.T H0' H' σ en := s.grow f g.ex g.tb g.nt
theorem Fm.stp (f : Fm (fun _ => False) H0 H H0' H') : Stp σ en H0 H σ en H0' H' := ⟨f.weak fun _ z => z.elim, fun _ h => .inl h, fun i ds h => ⟨rfl, ds, h⟩⟩
theorem Out.now {d : PyData} {Q : VK} {v : V} (o : Out C H0 H d Q) (g : Good C H0 H) (r : Rp C.K H0 v d) : Q v H := o H0 H v Fm.refl g r
theorem Good.new (g : Good C H0 H) {p : Addr} {o : HO} (hp : H p = none) (ho : ∀ ps, o ≠ .tbl ps) : Good C (upd H0 p o) (upd H p o) :=
  ⟨fun a u h => by
    by_cases z : a = p
    · subst z; rw [upd_same] at h ⊢; exact h
    · rw [upd_ne z] at h ⊢; exact g.ex a u h, tabs_upd g.tb (.inl hp), fun a ps h => by
    by_cases z : a = p
    · subst z; rw [upd_same] at h; exact ho ps (Option.some.inj h)
    · rw [upd_ne z] at h; exact g.nt a ps h⟩
theorem Good.newO (g : Good C H0 H) {p : Addr} {xs : List V} (hp : H p = none) : Good C H0 (upd H p (.lst xs)) := ⟨g.ex.trans (Ex.new hp), tabs_upd g.tb (.inl hp), g.nt⟩
theorem Good.frz (g : Good C H0 H) {p : Addr} {o : HO} (hp : H p = some o) (h0 : H0 p = none) (ho : ∀ ps, o ≠ .tbl ps) : Good C (upd H0 p o) H :=
  ⟨fun a u h => by
    by_cases z : a = p
    · subst z; rw [upd_same] at h; cases h; exact hp
    · rw [upd_ne z] at h; exact g.ex a u h, g.tb, fun a ps h => by
    by_cases z : a = p
    · subst z; rw [upd_same] at h; exact ho ps (Option.some.inj h)
    · rw [upd_ne z] at h; exact g.nt a ps h⟩
/-- a new list becomes data -/
theorem OutN.out {ds : List PyData} {Q : VK} (g0 : Good C H0 H) (o : Out C H0 H (.list ds) Q) : OutN C H0 H ds Q := fun p vs H' f g hp hp' r =>
  have h0 : H0 p = none := fresh_back g0.ex hp
  o _ H' _ (Fm.frz (nw_of hp) hp' f h0) (g.frz hp' h0 fun _ z => by cases z) (.lst (Rd.of upd_same) (r.mono (Ex.new h0)))
end

/-- an operation of two values, told over data -/
def Rule2 (C : Ct) (r : R2) (op : PyData → PyData → R PyData) : Prop := ∀ (H0 H : Hp) (x y : V) (dx dy d : PyData) (Q : VK), Good C H0 H → RpX C.K H0 H x dx → RpX C.K H0 H y dy → op dx dy = .ok d → Out C H0 H d Q → r x y H Q
def Rule2N (C : Ct) (r : R2) (op : PyData → PyData → R (List PyData)) : Prop := ∀ (H0 H : Hp) (x y : V) (dx dy : PyData) (ds : List PyData) (Q : VK), Good C H0 H → RpX C.K H0 H x dx → RpX C.K H0 H y dy → op dx dy = .ok ds → OutN C H0 H ds Q → r x y H Q
def Rule1 (C : Ct) (r : V → Hp → VK → Prop) (op : PyData → R PyData) : Prop := ∀ (H0 H : Hp) (x : V) (dx d : PyData) (Q : VK), Good C H0 H → RpX C.K H0 H x dx → op dx = .ok d → Out C H0 H d Q → r x H Q
def RpXs (K : PySem.W.Frag) (H0 H : Hp) : List V → List PyData → Prop
  | [], [] => True
  | v :: vs, o :: os => RpX K H0 H v o ∧ RpXs K H0 H vs os
  | _, _ => False
/-- a call of a built-in, told over data -/
def RuleC (C : Ct) (r : List V → Hp → VK → Prop) (op : List PyData → R PyData) : Prop := ∀ (H0 H : Hp) (vs : List V) (ds : List PyData) (d : PyData) (Q : VK), Good C H0 H → RpXs C.K H0 H vs ds → op ds = .ok d → Out C H0 H d Q → r vs H Q
def RuleCN (C : Ct) (r : List V → Hp → VK → Prop) (op : List PyData → R (List PyData)) : Prop := ∀ (H0 H : Hp) (vs : List V) (ds es : List PyData) (Q : VK), Good C H0 H → RpXs C.K H0 H vs ds → op ds = .ok es → OutN C H0 H es Q → r vs H Q
/-- no error comes from it -/
def NoX {α : Type} (x : R α) : Prop := ∀ n, x ≠ .exc n

/-! ### combinators -/
def dVar (i : Nat) : Sem' PyData := fun en => match en[i]? with
  | some (.dat d) => .ok (d, en)
  | _ => .bad
def oVar (i : Nat) : Sem' Op := fun en => match en[i]? with
  | some (.own _ _) => .ok (.own i, en)
  | _ => .bad
def oVal (F : Sem' PyData) : Sem' Op := fun en => F en >>= fun p => .ok (.val p.1, p.2)
def dC (d : PyData) : Sem' PyData := fun en => .ok (d, en)
def lift {α : Type} (x : R α) : R α := match x with
  | .ok a => .ok a
  | _ => .bad
@[simp] theorem lift_ok {α : Type} (a : α) : lift (R.ok a) = R.ok a := rfl
@[simp] theorem lift_bad {α : Type} : lift (R.bad : R α) = R.bad := rfl
theorem lift_eq {α : Type} {x : R α} {a : α} (h : lift x = .ok a) : x = .ok a := by
  cases x with
  | ok b => exact h
  | exc n => cases h
  | bad => cases h
def d2 {α : Type} (op : PyData → PyData → R α) (F G : Sem' Op) : Sem' α := fun en => F en >>= fun p => G p.2 >>= fun q => lift (p.1.res q.2) >>= fun x => lift (q.1.res q.2) >>= fun y => lift (op x y) >>= fun z => .ok (z, q.2)
def d1 {α : Type} (op : PyData → R α) (F : Sem' Op) : Sem' α := fun en => F en >>= fun p => lift (p.1.res p.2) >>= fun x => lift (op x) >>= fun z => .ok (z, p.2)
def resAll (en : En) : List Op → R (List PyData)
  | [] => .ok []
  | o :: os => lift (o.res en) >>= fun d => resAll en os >>= fun ds => .ok (d :: ds)
def aNil : Sem' (List Op) := fun en => .ok ([], en)
def aCons (F : Sem' Op) (G : Sem' (List Op)) : Sem' (List Op) := fun en => F en >>= fun p => G p.2 >>= fun q => .ok (p.1 :: q.1, q.2)
def dA {α : Type} (op : List PyData → R α) (F : Sem' (List Op)) : Sem' α := fun en => F en >>= fun p => lift (resAll p.2 p.1) >>= fun ds => lift (op ds) >>= fun z => .ok (z, p.2)
def dFrz (F : Sem' (List PyData)) : Sem' PyData := fun en => F en >>= fun p => .ok (.list p.1, p.2)

section
variable {C : Ct} {X : Cx} {H0 H : Hp} {σ : L2.St} {en en' : En} {a b c : Expr} {F G : Sem' Op} {pos : Pos}
theorem RpXs.of : ∀ {vs : List V} {os : List Op} {ds : List PyData}, SR C.K C.T H0 H σ en → OpdsR C.K H0 σ vs os → resAll en os = .ok ds → RpXs C.K H0 H vs ds
  | [], [], ds, s, _, e => by
    have e : R.ok ([] : List PyData) = .ok ds := e
    cases e
    trivial
  | v :: vs, o :: os, ds, s, h, e => by
    have e : (lift (o.res en) >>= fun d => resAll en os >>= fun ds => R.ok (d :: ds)) = .ok ds := e
    cases e1 : o.res en with
    | ok d =>
      rw [e1] at e
      cases e2 : resAll en os with
      | ok ds' =>
        rw [e2] at e
        cases e
        exact ⟨OpdR.res s h.1 e1, RpXs.of s h.2 e2⟩
      | exc n => rw [e2] at e; cases e
      | bad => rw [e2] at e; cases e
    | exc n => rw [e1] at e; cases e
    | bad => rw [e1] at e; cases e
  | [], _ :: _, _, _, h, _ => h.elim
  | _ :: _, [], _, _, h, _ => h.elim

/-! ### names, constants -/
theorem de_var {i : Nat} (h : PE X a (tVar i)) : PE X a (tE C (dVar i)) := h.imp fun σ H Q ⟨H0, en, s, p⟩ => by
  unfold dVar at p
  split at p
  · rename_i d hi
    obtain ⟨v, e, r⟩ := s.dat i d hi
    exact ⟨v, e, p H0 H v Stp.refl s r⟩
  · exact p.elim
theorem do_var {i : Nat} (h : PE X a (tVar i)) : PE X a (tO C (oVar i)) := h.imp fun σ H Q ⟨H0, en, s, p⟩ => by
  unfold oVar at p
  split at p
  · rename_i io d hi
    obtain ⟨v, vs, e, r⟩ := s.own i io d hi
    exact ⟨.ref v, e, p H0 H (.ref v) Stp.refl s e⟩
  · exact p.elim
theorem do_val {F : Sem' PyData} (h : PE X a (tE C F)) : PE X a (tO C (oVal F)) := h.imp fun σ H Q ⟨H0, en, s, p⟩ => ⟨H0, en, s, by
  unfold oVal at p
  cases e : F en with
  | ok q => rw [e] at p; exact p
  | exc n => rw [e] at p; exact p
  | bad => rw [e] at p; exact p⟩
theorem de_c {v : V} {d : PyData} (h : PE X a (tC v)) (r : ∀ K H, Rp K H v d) : PE X a (tE C (dC d)) := h.imp fun σ H Q ⟨H0, en, s, p⟩ => p H0 H v Stp.refl s (r _ _)
theorem de_int {i : Int} {j pos} : PE X (.Constant (.int i) j pos) (tE C (dC (.int i))) := de_c pe_int fun _ _ => .int i
theorem de_bl {b : Bool} {j pos} : PE X (.Constant (.bool b) j pos) (tE C (dC (.bool b))) := de_c pe_bl fun _ _ => .bl b
theorem de_non {j pos} : PE X (.Constant .none j pos) (tE C (dC .none)) := de_c pe_non fun _ _ => .non
theorem de_str {x : Str} {j pos} : PE X (.Constant (.str x) j pos) (tE C (dC (.str x))) := de_c pe_str fun _ _ => .str x

/-! ### the joints by values -/
theorem out_post {d : PyData} {Q : VK} (s : SR C.K C.T H0 H σ en) (h : Post C (fun _ H0' _ v a => Rp C.K H0' v a) H0 H σ en Q (.ok (d, en))) : Out C H0 H d Q :=
  fun H0' H' v f g r => h H0' H' v f.stp (s.grown f g) r
theorem outN_post {ds : List PyData} {Q : VK} {Hs : Hp} (s : SR C.K C.T H0 H σ en) (hs : ∀ p, H p = none → Nw Hs p) (h : Post C (NewL C.K σ Hs) H0 H σ en Q (.ok (ds, en))) : OutN C H0 H ds Q :=
  fun p vs H' f g hp hp' r => h H0 H' (.ref p) f.stp (s.grown f g) ⟨p, vs, rfl, hs p hp, hp', fresh_back s.ex hp, r, fun ⟨i, io, ds, h1, h2⟩ => by
    obtain ⟨q, ws, e1, e2, _⟩ := s.own i io ds h1
    rw [h2] at e1
    cases e1
    rw [hp] at e2
    cases e2⟩
/-- the operands of two, then -/
theorem d2_go {α : Type} {rel : En → Hp → Hp → V → α → Prop} {op : PyData → PyData → R α} {ta tb : TE} {Q : VK} {K' : V → V → Hp → Prop} (ha : ∀ σ H Q, tO C F σ H Q → ta σ H Q) (hb : ∀ σ H Q, tO C G σ H Q → tb σ H Q)
    (s : SR C.K C.T H0 H σ en) (p : Post C rel H0 H σ en Q (d2 op F G en))
    (k : ∀ H01 H1 en1 x y dx dy z, SR C.K C.T H01 H1 σ en1 → (∀ q, H1 q = none → Nw H q) → RpX C.K H01 H1 x dx → RpX C.K H01 H1 y dy → op dx dy = .ok z → Post C rel H01 H1 σ en1 Q (.ok (z, en1)) → K' x y H1) :
    ta σ H fun x H1 => tb σ H1 fun y H2 => K' x y H2 := by
  refine ha σ H _ ⟨H0, en, s, post_bind (rel2 := rel) (f := fun x e1 => G e1 >>= fun q => lift (x.res q.2) >>= fun x => lift (q.1.res q.2) >>= fun y => lift (op x y) >>= fun z => .ok (z, q.2)) (Q2 := Q) p ?_⟩
  intro x en1 H01 H1 v1 _ st1 s1 r1 p1
  refine hb σ H1 _ ⟨H01, en1, s1, post_bind (rel2 := rel) (f := fun y e2 => lift (x.res e2) >>= fun x => lift (y.res e2) >>= fun y => lift (op x y) >>= fun z => .ok (z, e2)) (Q2 := Q) p1 ?_⟩
  intro y en2 H02 H2 v2 _ st2 s2 r2 p2
  cases e1 : x.res en2 with
  | ok dx =>
    rw [e1] at p2
    cases e2 : y.res en2 with
    | ok dy =>
      rw [e2] at p2
      cases e3 : op dx dy with
      | ok z =>
        have p2 : Post C rel H02 H2 σ en2 Q (lift (op dx dy) >>= fun z => .ok (z, en2)) := p2
        rw [e3] at p2
        exact k H02 H2 en2 v1 v2 dx dy z s2 (fun q hq => st1.fm.kp q (st2.fm.kp q (nw_of hq))) (OpdR.res s2 (r1.mono st2.fm.ex) e1) (OpdR.res s2 r2 e2) e3 p2
      | exc n =>
        have p2 : Post C rel H02 H2 σ en2 Q (lift (op dx dy) >>= fun z => .ok (z, en2)) := p2
        rw [e3] at p2; exact p2.elim
      | bad =>
        have p2 : Post C rel H02 H2 σ en2 Q (lift (op dx dy) >>= fun z => .ok (z, en2)) := p2
        rw [e3] at p2; exact p2.elim
    | exc n => rw [e2] at p2; exact p2.elim
    | bad => rw [e2] at p2; exact p2.elim
  | exc n => rw [e1] at p2; exact p2.elim
  | bad => rw [e1] at p2; exact p2.elim
theorem d1_go {α : Type} {rel : En → Hp → Hp → V → α → Prop} {op : PyData → R α} {ta : TE} {Q : VK} {K' : V → Hp → Prop} (ha : ∀ σ H Q, tO C F σ H Q → ta σ H Q)
    (s : SR C.K C.T H0 H σ en) (p : Post C rel H0 H σ en Q (d1 op F en))
    (k : ∀ H01 H1 en1 x dx z, SR C.K C.T H01 H1 σ en1 → (∀ q, H1 q = none → Nw H q) → RpX C.K H01 H1 x dx → op dx = .ok z → Post C rel H01 H1 σ en1 Q (.ok (z, en1)) → K' x H1) :
    ta σ H fun x H1 => K' x H1 := by
  refine ha σ H _ ⟨H0, en, s, post_bind (rel2 := rel) (f := fun x e1 => lift (x.res e1) >>= fun x => lift (op x) >>= fun z => .ok (z, e1)) (Q2 := Q) p ?_⟩
  intro x en1 H01 H1 v1 _ st1 s1 r1 p2
  cases e1 : x.res en1 with
  | ok dx =>
    have p2 : Post C rel H01 H1 σ en1 Q (lift (x.res en1) >>= fun x => lift (op x) >>= fun z => .ok (z, en1)) := p2
    rw [e1] at p2
    have p2 : Post C rel H01 H1 σ en1 Q (lift (op dx) >>= fun z => .ok (z, en1)) := p2
    cases e3 : op dx with
    | ok z =>
      rw [e3] at p2
      exact k H01 H1 en1 v1 dx z s1 (fun q hq => st1.fm.kp q (nw_of hq)) (OpdR.res s1 r1 e1) e3 p2
    | exc n => rw [e3] at p2; exact p2.elim
    | bad => rw [e3] at p2; exact p2.elim
  | exc n =>
    have p2 : Post C rel H01 H1 σ en1 Q (lift (x.res en1) >>= fun x => lift (op x) >>= fun z => .ok (z, en1)) := p2
    rw [e1] at p2; exact p2.elim
  | bad =>
    have p2 : Post C rel H01 H1 σ en1 Q (lift (x.res en1) >>= fun x => lift (op x) >>= fun z => .ok (z, en1)) := p2
    rw [e1] at p2; exact p2.elim
theorem idO {ta : TE} : ∀ σ H Q, ta σ H Q → ta σ H Q := fun _ _ _ h => h

/-! ### operators -/
theorem de_op {op : Operator} {r : R2} {f : PyData → PyData → R PyData} (ho : OpR X (binaryOp op) r) (hr : Rule2 C r f) (ha : PE X a (tO C F)) (hb : PE X b (tO C G)) : PE X (.BinOp a op b pos) (tE C (d2 f F G)) :=
  (pe_op ho ha hb).imp fun σ H Q ⟨H0, en, s, p⟩ => d2_go (K' := fun x y H2 => r x y H2 Q) idO idO s p fun H01 H1 en1 x y dx dy z s1 _ rx ry e p1 => hr H01 H1 x y dx dy z Q s1.good rx ry e (out_post s1 p1)
theorem dn_op {op : Operator} {r : R2} {f : PyData → PyData → R (List PyData)} (ho : OpR X (binaryOp op) r) (hr : Rule2N C r f) (ha : PE X a (tO C F)) (hb : PE X b (tO C G)) : PE X (.BinOp a op b pos) (tN C (d2 f F G)) :=
  (pe_op ho ha hb).imp fun σ H Q ⟨H0, en, s, p⟩ => d2_go (K' := fun x y H2 => r x y H2 Q) idO idO s p fun H01 H1 en1 x y dx dy z s1 hn rx ry e p1 => hr H01 H1 x y dx dy z Q s1.good rx ry e (outN_post s1 hn p1)
theorem de_cmp {op : CmpOp} {r : R2} {f : PyData → PyData → R PyData} (ho : OpR X (compareOp op) r) (hr : Rule2 C r f) (ha : PE X a (tO C F)) (hb : PE X b (tO C G)) (hm : behindInMarks op b = false) : PE X (.Compare a [op] [b] pos) (tE C (d2 f F G)) :=
  (pe_cmpR ho ha hb hm).imp fun σ H Q ⟨H0, en, s, p⟩ => d2_go (K' := fun x y H2 => r x y H2 Q) idO idO s p fun H01 H1 en1 x y dx dy z s1 _ rx ry e p1 => hr H01 H1 x y dx dy z Q s1.good rx ry e (out_post s1 p1)
theorem de_ix {r : R2} {f : PyData → PyData → R PyData} (ho : IxR X r) (hr : Rule2 C r f) (ha : PE X a (tO C F)) (hb : PE X b (tO C G)) (hs : PlainIx b) : PE X (.Subscript a b pos) (tE C (d2 f F G)) :=
  (pe_ix ho ha hb hs).imp fun σ H Q ⟨H0, en, s, p⟩ => d2_go (K' := fun x y H2 => r x y H2 Q) idO idO s p fun H01 H1 en1 x y dx dy z s1 _ rx ry e p1 => hr H01 H1 x y dx dy z Q s1.good rx ry e (out_post s1 p1)
theorem de_un {op : UnaryOp} {r : V → Hp → VK → Prop} {f : PyData → R PyData} (ho : UnR X (unaryOp op) r) (hr : Rule1 C r f) (ha : PE X a (tO C F)) : PE X (.UnaryOp op a pos) (tE C (d1 f F)) :=
  (pe_un ho ha).imp fun σ H Q ⟨H0, en, s, p⟩ => d1_go (K' := fun x H2 => r x H2 Q) idO s p fun H01 H1 en1 x dx z s1 _ rx e p1 => hr H01 H1 x dx z Q s1.good rx e (out_post s1 p1)
/-- a new list becomes data -/
theorem de_frz {F : Sem' (List PyData)} (h : PE X a (tN C F)) : PE X a (tE C (dFrz F)) := h.imp fun σ H Q ⟨H0, en, s, p⟩ => ⟨H0, en, s, by
  unfold dFrz at p
  cases e : F en with
  | ok q =>
    rw [e] at p
    obtain ⟨ds, en'⟩ := q
    intro H0' H' v st sr ⟨q, vs, ev, hn, hq, h0, r, no⟩
    subst ev
    refine p (upd H0' q (.lst vs)) H' (.ref q) ⟨Fm.frz hn hq st.fm h0, st.ow, st.io⟩ ?_ (.lst (Rd.of upd_same) (r.mono (Ex.new h0)))
    refine ⟨sr.len, (sr.good.frz hq h0 fun _ z => by cases z).ex, sr.tb, (sr.good.frz hq h0 fun _ z => by cases z).nt, fun i d hi => ?_, fun i io es hi => ?_, sr.sep⟩
    · obtain ⟨v, e1, r1⟩ := sr.dat i d hi
      exact ⟨v, e1, r1.mono (Ex.new h0)⟩
    · obtain ⟨p', ws, e1, e2, e3, r1⟩ := sr.own i io es hi
      have ne : p' ≠ q := fun z => no ⟨i, io, es, hi, by rw [← z]; exact e1⟩
      exact ⟨p', ws, e1, e2, by rw [upd_ne ne]; exact e3, r1.mono (Ex.new h0)⟩
  | exc n => rw [e] at p; exact p
  | bad => rw [e] at p; exact p⟩
end
end PD
end
section
namespace PD
open PySem PySem.Spec PyProof.Rows L2 Evl

/-! ### tests -/
def dB (F : Sem' PyData) : Sem' Bool := fun en => F en >>= fun p => match p.1 with
  | .bool b => .ok (b, p.2)
  | _ => .bad
def dOfB (F : Sem' Bool) : Sem' PyData := fun en => F en >>= fun p => .ok (.bool p.1, p.2)
def dNot (F : Sem' Bool) : Sem' Bool := fun en => F en >>= fun p => .ok (!p.1, p.2)
def dAnd (F G : Sem' Bool) : Sem' Bool := fun en => F en >>= fun p => if p.1 then G p.2 else .ok (false, p.2)
def dOr (F G : Sem' Bool) : Sem' Bool := fun en => F en >>= fun p => if p.1 then .ok (true, p.2) else G p.2
def dIf {α : Type} (T : Sem' Bool) (F G : Sem' α) : Sem' α := fun en => T en >>= fun p => if p.1 then F p.2 else G p.2

section
variable {C : Ct} {X : Cx} {H0 H H0' H' : Hp} {σ : L2.St} {en en' : En} {a b c : Expr} {pos : Pos} {α β : Type}
theorem postB_bind {rel : En → Hp → Hp → V → α → Prop} {Q : VK} {Q2 : Bool → Hp → Prop} {x : R (α × En)} {f : α → En → R (Bool × En)}
    (h : PostB C H0 H σ en Q2 (x >>= fun p => f p.1 p.2))
    (k : ∀ a en1 H01 H1 v, x = .ok (a, en1) → Stp σ en H0 H σ en1 H01 H1 → SR C.K C.T H01 H1 σ en1 → rel en1 H01 H1 v a → PostB C H01 H1 σ en1 Q2 (f a en1) → Q v H1) : Post C rel H0 H σ en Q x := by
  cases x with
  | ok p =>
    obtain ⟨a, en1⟩ := p
    intro H01 H1 v st sr r
    refine k a en1 H01 H1 v rfl st sr r ?_
    have h : PostB C H0 H σ en Q2 (f a en1) := h
    revert h
    cases f a en1 with
    | ok q => exact fun h H0' H' st' sr' => h H0' H' (st.trans st') sr'
    | exc n => exact fun h => Ct.err_at h st.fm st.ow
    | bad => exact fun h => h
  | exc n => exact h
  | bad => exact h.elim
theorem post_bindB {rel2 : En → Hp → Hp → V → β → Prop} {Q : Bool → Hp → Prop} {Q2 : VK} {x : R (Bool × En)} {f : Bool → En → R (β × En)}
    (h : Post C rel2 H0 H σ en Q2 (x >>= fun p => f p.1 p.2))
    (k : ∀ a en1 H01 H1, x = .ok (a, en1) → Stp σ en H0 H σ en1 H01 H1 → SR C.K C.T H01 H1 σ en1 → Post C rel2 H01 H1 σ en1 Q2 (f a en1) → Q a H1) : PostB C H0 H σ en Q x := by
  cases x with
  | ok p =>
    obtain ⟨a, en1⟩ := p
    intro H01 H1 st sr
    refine k a en1 H01 H1 rfl st sr ?_
    have h : Post C rel2 H0 H σ en Q2 (f a en1) := h
    revert h
    cases f a en1 with
    | ok q => exact fun h H0' H' v' st' sr' r' => h H0' H' v' (st.trans st') sr' r'
    | exc n => exact fun h => Ct.err_at h st.fm st.ow
    | bad => exact fun h => h
  | exc n => exact h
  | bad => exact h.elim
theorem postB_bindB {Q Q2 : Bool → Hp → Prop} {x : R (Bool × En)} {f : Bool → En → R (Bool × En)}
    (h : PostB C H0 H σ en Q2 (x >>= fun p => f p.1 p.2))
    (k : ∀ a en1 H01 H1, x = .ok (a, en1) → Stp σ en H0 H σ en1 H01 H1 → SR C.K C.T H01 H1 σ en1 → PostB C H01 H1 σ en1 Q2 (f a en1) → Q a H1) : PostB C H0 H σ en Q x := by
  cases x with
  | ok p =>
    obtain ⟨a, en1⟩ := p
    intro H01 H1 st sr
    refine k a en1 H01 H1 rfl st sr ?_
    have h : PostB C H0 H σ en Q2 (f a en1) := h
    revert h
    cases f a en1 with
    | ok q => exact fun h H0' H' st' sr' => h H0' H' (st.trans st') sr'
    | exc n => exact fun h => Ct.err_at h st.fm st.ow
    | bad => exact fun h => h
  | exc n => exact h
  | bad => exact h.elim
theorem dt_of {F : Sem' PyData} {t : TE} (h : PT X a (tB t)) (i : ∀ σ H Q, tE C F σ H Q → t σ H Q) : PT X a (tT C (dB F)) := h.imp fun σ H Q ⟨H0, en, s, p⟩ => i σ H _ ⟨H0, en, s, by
  refine postB_bind (f := fun d e => match d with
    | .bool b => .ok (b, e)
    | _ => .bad) (Q2 := Q) p fun d en1 H01 H1 v _ st sr r p1 => ?_
  cases d with
  | bool b =>
    cases r
    exact ⟨b, rfl, p1 H01 H1 Stp.refl sr⟩
  | _ => exact p1.elim⟩
theorem dt_val {F : Sem' PyData} (h : PE X a (tE C F)) (he : ∀ whole, isTrue a X.env whole = (do let v ← whole; standAt a.pos; holding [v] (truthy v)) := by intro _; rfl) : PT X a (tT C (dB F)) := dt_of (pt_val h he) fun _ _ _ h => h
theorem dt_cmp {F G : Sem' Op} {op : CmpOp} {r : R2} {f : PyData → PyData → R PyData} (ho : OpR X (compareOp op) r) (hr : Rule2 C r f) (ha : PE X a (tO C F)) (hb : PE X b (tO C G)) (hm : behindInMarks op b = false) : PT X (.Compare a [op] [b] pos) (tT C (dB (d2 f F G))) :=
  dt_of (pt_cmpR ho ha hb hm) fun σ H Q ⟨H0, en, s, p⟩ => d2_go (K' := fun x y H2 => r x y H2 Q) idO idO s p fun H01 H1 en1 x y dx dy z s1 _ rx ry e p1 => hr H01 H1 x y dx dy z Q s1.good rx ry e (out_post s1 p1)
theorem de_ofB {F : Sem' Bool} {t : TE} (h : PE X a t) (i : ∀ σ H (Q : VK), tT C F σ H (fun b H1 => Q (.bl b) H1) → t σ H Q) : PE X a (tE C (dOfB F)) := h.imp fun σ H Q ⟨H0, en, s, p⟩ => i σ H _ ⟨H0, en, s,
  post_bindB (rel2 := fun _ H0' _ v a => Rp C.K H0' v a) (f := fun (b : Bool) e => R.ok (PyData.bool b, e)) (Q2 := Q) p fun b en1 H01 H1 _ st sr p1 => p1 H01 H1 (V.bl b) Stp.refl sr (.bl b)⟩
theorem dt_not {F : Sem' Bool} (h : PT X a (tT C F)) : PT X (.UnaryOp .Not a pos) (tT C (dNot F)) := (pt_not h).imp fun σ H Q ⟨H0, en, s, p⟩ => ⟨H0, en, s,
  postB_bindB (f := fun b e => .ok (!b, e)) (Q2 := Q) p fun b en1 H01 H1 _ st sr p1 => p1 H01 H1 Stp.refl sr⟩
variable {rest : List Expr} {F G : Sem' Bool}
theorem dw_1and (h : PT X a (tT C F)) : PW X (.BoolOp .And [a] pos) (tT C F) := pw_and1 h
theorem dw_1or (h : PT X a (tT C F)) : PW X (.BoolOp .Or [a] pos) (tT C F) := pw_or1 h
theorem dw_and (h : PT X a (tT C F)) (hb : PW X (.BoolOp .And (b :: rest) pos) (tT C G)) : PW X (.BoolOp .And (a :: b :: rest) pos) (tT C (dAnd F G)) := (pw_and h hb).imp fun σ H Q ⟨H0, en, s, p⟩ => ⟨H0, en, s,
  postB_bindB (f := fun b e => if b then G e else .ok (false, e)) (Q2 := Q) p fun b en1 H01 H1 _ st sr p1 => by
    cases b with
    | true => rw [if_pos rfl]; exact ⟨H01, en1, sr, p1⟩
    | false => rw [if_neg Bool.false_ne_true]; exact p1 H01 H1 Stp.refl sr⟩
theorem dw_or (h : PT X a (tT C F)) (hb : PW X (.BoolOp .Or (b :: rest) pos) (tT C G)) : PW X (.BoolOp .Or (a :: b :: rest) pos) (tT C (dOr F G)) := (pw_or h hb).imp fun σ H Q ⟨H0, en, s, p⟩ => ⟨H0, en, s,
  postB_bindB (f := fun b e => if b then .ok (true, e) else G e) (Q2 := Q) p fun b en1 H01 H1 _ st sr p1 => by
    cases b with
    | true => rw [if_pos rfl]; exact p1 H01 H1 Stp.refl sr
    | false => rw [if_neg Bool.false_ne_true]; exact ⟨H01, en1, sr, p1⟩⟩
/-- values that are truth values -/
def dBV (F : Sem' PyData) : Sem' PyData := fun en => F en >>= fun p => match p.1 with
  | .bool b => .ok (.bool b, p.2)
  | _ => .bad
def dAndV (F G : Sem' PyData) : Sem' PyData := fun en => F en >>= fun p => match p.1 with
  | .bool b => if b then G p.2 else .ok (.bool false, p.2)
  | _ => .bad
def dOrV (F G : Sem' PyData) : Sem' PyData := fun en => F en >>= fun p => match p.1 with
  | .bool b => if b then .ok (.bool true, p.2) else G p.2
  | _ => .bad
def dNotV (F : Sem' PyData) : Sem' PyData := fun en => F en >>= fun p => match p.1 with
  | .bool b => .ok (.bool (!b), p.2)
  | _ => .bad
section
variable {F G : Sem' PyData}
theorem de_one {op} (h : PE X a (tE C F)) : PE X (.BoolOp op [a] pos) (tE C F) := pe_one h
theorem de_and (h : PE X a (tE C F)) (hb : PE X (.BoolOp .And (b :: rest) pos) (tE C G)) : PE X (.BoolOp .And (a :: b :: rest) pos) (tE C (dAndV F G)) := (pe_and h hb).imp fun σ H Q ⟨H0, en, s, p⟩ => ⟨H0, en, s,
  post_bind (rel2 := fun _ H0' _ v a => Rp C.K H0' v a) (f := fun d e => match d with
    | .bool b => if b then G e else .ok (.bool false, e)
    | _ => .bad) (Q2 := Q) p fun d en1 H01 H1 v _ st sr r p1 => by
    cases d with
    | bool b =>
      cases r
      refine ⟨b, rfl, ?_⟩
      cases b with
      | true => rw [if_pos rfl]; exact ⟨H01, en1, sr, p1⟩
      | false => rw [if_neg Bool.false_ne_true]; exact p1 H01 H1 _ Stp.refl sr (.bl false)
    | _ => exact p1.elim⟩
theorem de_or (h : PE X a (tE C F)) (hb : PE X (.BoolOp .Or (b :: rest) pos) (tE C G)) : PE X (.BoolOp .Or (a :: b :: rest) pos) (tE C (dOrV F G)) := (pe_or h hb).imp fun σ H Q ⟨H0, en, s, p⟩ => ⟨H0, en, s,
  post_bind (rel2 := fun _ H0' _ v a => Rp C.K H0' v a) (f := fun d e => match d with
    | .bool b => if b then .ok (.bool true, e) else G e
    | _ => .bad) (Q2 := Q) p fun d en1 H01 H1 v _ st sr r p1 => by
    cases d with
    | bool b =>
      cases r
      refine ⟨b, rfl, ?_⟩
      cases b with
      | true => rw [if_pos rfl]; exact p1 H01 H1 _ Stp.refl sr (.bl true)
      | false => rw [if_neg Bool.false_ne_true]; exact ⟨H01, en1, sr, p1⟩
    | _ => exact p1.elim⟩
theorem de_not (h : PE X a (tE C F)) : PE X (.UnaryOp .Not a pos) (tE C (dNotV F)) := (pe_not h).imp fun σ H Q ⟨H0, en, s, p⟩ => ⟨H0, en, s,
  post_bind (rel2 := fun _ H0' _ v a => Rp C.K H0' v a) (f := fun d e => match d with
    | .bool b => .ok (.bool (!b), e)
    | _ => .bad) (Q2 := Q) p fun d en1 H01 H1 v _ st sr r p1 => by
    cases d with
    | bool b =>
      cases r
      exact ⟨b, rfl, p1 H01 H1 _ Stp.refl sr (.bl _)⟩
    | _ => exact p1.elim⟩
end
theorem de_if {T : Sem' Bool} {F G : Sem' PyData} (hc : PT X c (tT C T)) (ha : PE X a (tE C F)) (hb : PE X b (tE C G)) : PE X (.IfExp c a b pos) (tE C (dIf T F G)) := (pe_ifExp hc ha hb).imp fun σ H Q ⟨H0, en, s, p⟩ => ⟨H0, en, s,
  post_bindB (rel2 := fun _ H0' _ v a => Rp C.K H0' v a) (f := fun b e => if b then F e else G e) (Q2 := Q) p fun b en1 H01 H1 _ st sr p1 => by
    cases b with
    | true => rw [if_pos rfl]; exact ⟨H01, en1, sr, p1⟩
    | false => rw [if_neg Bool.false_ne_true]; exact ⟨H01, en1, sr, p1⟩⟩

/-! ### chains of two comparisons -/
def dChain (op op' : PyData → PyData → R PyData) (F G I : Sem' Op) : Sem' PyData := fun en => F en >>= fun p => G p.2 >>= fun q => lift (p.1.res q.2) >>= fun x => lift (q.1.res q.2) >>= fun y => lift (op x y) >>= fun z => match z with
  | .bool b => if b then I q.2 >>= fun r => lift (q.1.res r.2) >>= fun y' => lift (r.1.res r.2) >>= fun w => lift (op' y' w) >>= fun z' => .ok (z', r.2) else .ok (.bool false, q.2)
  | _ => .bad
/-! ### arguments -/
theorem da_nil : PA X [] (tA C aNil) := pa_nil.imp fun σ H Q ⟨H0, en, s, p⟩ => p H0 H [] Stp.refl s trivial
theorem postA_bind {rel : En → Hp → Hp → V → α → Prop} {Q : VK} {Q2 : List V → Hp → Prop} {x : R (α × En)} {f : α → En → R (List Op × En)}
    (h : PostA C H0 H σ en Q2 (x >>= fun p => f p.1 p.2))
    (k : ∀ a en1 H01 H1 v, x = .ok (a, en1) → Stp σ en H0 H σ en1 H01 H1 → SR C.K C.T H01 H1 σ en1 → rel en1 H01 H1 v a → PostA C H01 H1 σ en1 Q2 (f a en1) → Q v H1) : Post C rel H0 H σ en Q x := by
  cases x with
  | ok p =>
    obtain ⟨a, en1⟩ := p
    intro H01 H1 v st sr r
    refine k a en1 H01 H1 v rfl st sr r ?_
    have h : PostA C H0 H σ en Q2 (f a en1) := h
    revert h
    cases f a en1 with
    | ok q => exact fun h H0' H' vs st' sr' => h H0' H' vs (st.trans st') sr'
    | exc n => exact fun h => Ct.err_at h st.fm st.ow
    | bad => exact fun h => h
  | exc n => exact h
  | bad => exact h.elim
theorem post_bindA {rel2 : En → Hp → Hp → V → β → Prop} {Q : List V → Hp → Prop} {Q2 : VK} {x : R (List Op × En)} {f : List Op → En → R (β × En)}
    (h : Post C rel2 H0 H σ en Q2 (x >>= fun p => f p.1 p.2))
    (k : ∀ a en1 H01 H1 vs, x = .ok (a, en1) → Stp σ en H0 H σ en1 H01 H1 → SR C.K C.T H01 H1 σ en1 → OpdsR C.K H01 σ vs a → Post C rel2 H01 H1 σ en1 Q2 (f a en1) → Q vs H1) : PostA C H0 H σ en Q x := by
  cases x with
  | ok p =>
    obtain ⟨a, en1⟩ := p
    intro H01 H1 vs st sr r
    refine k a en1 H01 H1 vs rfl st sr r ?_
    have h : Post C rel2 H0 H σ en Q2 (f a en1) := h
    revert h
    cases f a en1 with
    | ok q => exact fun h H0' H' v' st' sr' r' => h H0' H' v' (st.trans st') sr' r'
    | exc n => exact fun h => Ct.err_at h st.fm st.ow
    | bad => exact fun h => h
  | exc n => exact h
  | bad => exact h.elim
theorem postA_bindA {Q Q2 : List V → Hp → Prop} {x : R (List Op × En)} {f : List Op → En → R (List Op × En)}
    (h : PostA C H0 H σ en Q2 (x >>= fun p => f p.1 p.2))
    (k : ∀ a en1 H01 H1 vs, x = .ok (a, en1) → Stp σ en H0 H σ en1 H01 H1 → SR C.K C.T H01 H1 σ en1 → OpdsR C.K H01 σ vs a → PostA C H01 H1 σ en1 Q2 (f a en1) → Q vs H1) : PostA C H0 H σ en Q x := by
  cases x with
  | ok p =>
    obtain ⟨a, en1⟩ := p
    intro H01 H1 vs st sr r
    refine k a en1 H01 H1 vs rfl st sr r ?_
    have h : PostA C H0 H σ en Q2 (f a en1) := h
    revert h
    cases f a en1 with
    | ok q => exact fun h H0' H' v' st' sr' r' => h H0' H' v' (st.trans st') sr' r'
    | exc n => exact fun h => Ct.err_at h st.fm st.ow
    | bad => exact fun h => h
  | exc n => exact h
  | bad => exact h.elim
theorem da_cons {F : Sem' Op} {G : Sem' (List Op)} {es : List Expr} (ha : PE X a (tO C F)) (hr : PA X es (tA C G)) (hs : starEach (a :: es) X.env = (false, eval a X.env) :: starEach es X.env := by rfl) : PA X (a :: es) (tA C (aCons F G)) :=
  (pa_cons ha hr hs).imp fun σ H Q ⟨H0, en, s, p⟩ => ⟨H0, en, s,
    postA_bind (f := fun x e => G e >>= fun q => .ok (x :: q.1, q.2)) (Q2 := Q) p fun x en1 H01 H1 v _ st sr r p1 => ⟨H01, en1, sr,
      postA_bindA (f := fun xs e => .ok (x :: xs, e)) (Q2 := Q) p1 fun xs en2 H02 H2 vs _ st2 sr2 rs p2 => p2 H02 H2 (v :: vs) Stp.refl sr2 ⟨r.mono st2.fm.ex, rs⟩⟩⟩
/-- data, all of them -/
def vals : List Op → R (List PyData)
  | [] => .ok []
  | .val d :: os => vals os >>= fun ds => .ok (d :: ds)
  | .own _ :: _ => .bad
theorem vals_rp : ∀ {vs : List V} {os : List Op} {ds : List PyData}, OpdsR C.K H0 σ vs os → vals os = .ok ds → RpAll C.K H0 vs ds
  | [], [], ds, _, e => by
    have e : R.ok ([] : List PyData) = .ok ds := e
    cases e
    exact .nil
  | v :: vs, .val d :: os, ds, h, e => by
    have e : (vals os >>= fun ds => R.ok (d :: ds)) = .ok ds := e
    cases e2 : vals os with
    | ok ds' =>
      rw [e2] at e
      cases e
      exact .cons h.1 (vals_rp h.2 e2)
    | exc n => rw [e2] at e; cases e
    | bad => rw [e2] at e; cases e
  | v :: vs, .own i :: os, ds, h, e => by cases (show R.bad = R.ok ds from e)
  | [], _ :: _, _, h, _ => h.elim
  | _ :: _, [], _, h, _ => h.elim
def few {α : Type} (n : Nat) (x : R α) : R α := if n ≤ 100000 then x else .bad
def dTup (F : Sem' (List Op)) : Sem' PyData := fun en => F en >>= fun p => lift (vals p.1) >>= fun ds => few ds.length (.ok (.tuple ds, p.2))
def dLst (F : Sem' (List Op)) : Sem' (List PyData) := fun en => F en >>= fun p => lift (vals p.1) >>= fun ds => few ds.length (.ok (ds, p.2))
theorem dA_go {γ : Type} {rel : En → Hp → Hp → V → γ → Prop} {fin : List Op → En → R (List PyData)} {op : List PyData → En → R (γ × En)} {F : Sem' (List Op)} {Q : VK} {K' : List V → Hp → Prop}
    (s : SR C.K C.T H0 H σ en) (p : Post C rel H0 H σ en Q (F en >>= fun p => lift (fin p.1 p.2) >>= fun ds => op ds p.2))
    (k : ∀ H01 H1 en1 vs os ds, SR C.K C.T H01 H1 σ en1 → (∀ q, H1 q = none → Nw H q) → OpdsR C.K H01 σ vs os → fin os en1 = .ok ds → Post C rel H01 H1 σ en1 Q (op ds en1) → K' vs H1) : tA C F σ H K' :=
  ⟨H0, en, s, post_bindA (rel2 := rel) (f := fun os e => lift (fin os e) >>= fun ds => op ds e) (Q2 := Q) p fun os en1 H01 H1 vs _ st sr rs p1 => by
    have p1 : Post C rel H01 H1 σ en1 Q (lift (fin os en1) >>= fun ds => op ds en1) := p1
    cases e1 : fin os en1 with
    | ok ds =>
      rw [e1] at p1
      exact k H01 H1 en1 vs os ds sr (fun q hq => st.fm.kp q (nw_of hq)) rs e1 p1
    | exc n => rw [e1] at p1; exact p1.elim
    | bad => rw [e1] at p1; exact p1.elim⟩
theorem few_ok {α : Type} {n : Nat} {x : R α} (p : R α → Prop) (hb : ¬ p .bad) (h : p (few n x)) : n ≤ 100000 ∧ p x := by
  unfold few at h
  split at h
  · exact ⟨by assumption, h⟩
  · exact absurd h hb
theorem de_tup {F : Sem' (List Op)} {es : List Expr} {x1} (h : PA X es (tA C F)) : PE X (.Tuple es x1 pos) (tE C (dTup F)) := (pe_tup h).imp fun σ H Q ⟨H0, en, s, p⟩ =>
  dA_go (fin := fun os _ => vals os) (op := fun ds e => few ds.length (R.ok (PyData.tuple ds, e))) s p fun H01 H1 en1 vs os ds s1 _ rs e p1 => by
    have r := vals_rp rs e
    obtain ⟨hl, p2⟩ := few_ok (fun x => Post C (fun _ H0' _ v a => Rp C.K H0' v a) H01 H1 σ en1 Q x) (fun h => h) p1
    refine ⟨sz_of (by rw [r.length]; exact hl), fun q hq => ?_⟩
    exact out_post s1 p2 _ _ (.ref q) (Fm.new s1.ex hq) (s1.good.new hq fun _ z => by cases z) (.tup (st_of upd_same) (r.mono (Ex.new (fresh_back s1.ex hq))))
theorem dn_lst {F : Sem' (List Op)} {es : List Expr} (h : PA X es (tA C F)) : PE X (.List es pos) (tN C (dLst F)) := (pe_lst h).imp fun σ H Q ⟨H0, en, s, p⟩ =>
  dA_go (fin := fun os _ => vals os) (op := fun ds e => few ds.length (.ok (ds, e))) s p fun H01 H1 en1 vs os ds s1 hn rs e p1 => by
    have r := vals_rp rs e
    obtain ⟨hl, p2⟩ := few_ok (fun x => Post C (NewL C.K σ H) H01 H1 σ en1 Q x) (fun h => h) p1
    refine ⟨sz_of (by rw [r.length]; exact hl), fun q hq => ?_⟩
    exact outN_post s1 hn p2 q vs _ (Fm.newO hq) (s1.good.newO hq) hq upd_same r
/-! ### built-ins by their names -/
theorem de_callB {x : Str} {p : Pos} {es : List Expr} {id : String} {r : List V → Hp → VK → Prop} {f : List PyData → R PyData} {F : Sem' (List Op)} (hc : CallR X (.builtin id) r) (hr : RuleC C r f) (hg : Gl X x) (hm : X.mg x = none) (hv : bootBuiltins x = some (.builtin id)) (ha : PA X (a :: es) (tA C F)) (hn : x ≠ "__name__" := by decide) (hdb : (x == ("__debug__" : Str)) = false := by decide)
    (he : starEach (a :: es) X.env = (false, eval a X.env) :: starEach es X.env := by rfl) (hpl : (backTo pos (starEach es X.env)).any (·.1) = false := by rfl) : PE X (.Call (.Name x p) (a :: es) [] pos) (tE C (dA f F)) :=
  (pe_callB hc hg hm hv ha hn hdb he hpl).imp fun σ H Q ⟨H0, en, s, p⟩ => dA_go (fin := fun os e => resAll e os) (op := fun ds e => lift (f ds) >>= fun z => .ok (z, e)) s p fun H01 H1 en1 vs os ds s1 hn rs e p1 => by
    have p1 : Post C (fun _ H0' _ v a => Rp C.K H0' v a) H01 H1 σ en1 Q (lift (f ds) >>= fun z => .ok (z, en1)) := p1
    cases e1 : f ds with
    | ok z =>
      rw [e1] at p1
      exact hr H01 H1 vs ds z Q s1.good (RpXs.of s1 rs e) e1 (out_post s1 p1)
    | exc n => rw [e1] at p1; exact p1.elim
    | bad => rw [e1] at p1; exact p1.elim
theorem de_callT {x : Str} {p : Pos} {es : List Expr} {id : String} {r : List V → Hp → VK → Prop} {f : List PyData → R PyData} {F : Sem' (List Op)} (hc : CallR X (.type id) r) (hr : RuleC C r f) (hg : Gl X x) (hm : X.mg x = none) (hv : bootBuiltins x = some (.type id)) (ha : PA X (a :: es) (tA C F)) (hn : x ≠ "__name__" := by decide) (hdb : (x == ("__debug__" : Str)) = false := by decide)
    (he : starEach (a :: es) X.env = (false, eval a X.env) :: starEach es X.env := by rfl) (hpl : (backTo pos (starEach es X.env)).any (·.1) = false := by rfl) : PE X (.Call (.Name x p) (a :: es) [] pos) (tE C (dA f F)) :=
  (pe_callTy hc hg hm hv ha hn hdb he hpl).imp fun σ H Q ⟨H0, en, s, p⟩ => dA_go (fin := fun os e => resAll e os) (op := fun ds e => lift (f ds) >>= fun z => .ok (z, e)) s p fun H01 H1 en1 vs os ds s1 hn rs e p1 => by
    have p1 : Post C (fun _ H0' _ v a => Rp C.K H0' v a) H01 H1 σ en1 Q (lift (f ds) >>= fun z => .ok (z, en1)) := p1
    cases e1 : f ds with
    | ok z =>
      rw [e1] at p1
      exact hr H01 H1 vs ds z Q s1.good (RpXs.of s1 rs e) e1 (out_post s1 p1)
    | exc n => rw [e1] at p1; exact p1.elim
    | bad => rw [e1] at p1; exact p1.elim
theorem dn_callB {x : Str} {p : Pos} {es : List Expr} {id : String} {r : List V → Hp → VK → Prop} {f : List PyData → R (List PyData)} {F : Sem' (List Op)} (hc : CallR X (.builtin id) r) (hr : RuleCN C r f) (hg : Gl X x) (hm : X.mg x = none) (hv : bootBuiltins x = some (.builtin id)) (ha : PA X (a :: es) (tA C F)) (hn : x ≠ "__name__" := by decide) (hdb : (x == ("__debug__" : Str)) = false := by decide)
    (he : starEach (a :: es) X.env = (false, eval a X.env) :: starEach es X.env := by rfl) (hpl : (backTo pos (starEach es X.env)).any (·.1) = false := by rfl) : PE X (.Call (.Name x p) (a :: es) [] pos) (tN C (dA f F)) :=
  (pe_callB hc hg hm hv ha hn hdb he hpl).imp fun σ H Q ⟨H0, en, s, p⟩ => dA_go (fin := fun os e => resAll e os) (op := fun ds e => lift (f ds) >>= fun z => .ok (z, e)) s p fun H01 H1 en1 vs os ds s1 hn rs e p1 => by
    have p1 : Post C (NewL C.K σ H) H01 H1 σ en1 Q (lift (f ds) >>= fun z => .ok (z, en1)) := p1
    cases e1 : f ds with
    | ok z =>
      rw [e1] at p1
      exact hr H01 H1 vs ds z Q s1.good (RpXs.of s1 rs e) e1 (outN_post s1 hn p1)
    | exc n => rw [e1] at p1; exact p1.elim
    | bad => rw [e1] at p1; exact p1.elim
theorem dn_callT {x : Str} {p : Pos} {es : List Expr} {id : String} {r : List V → Hp → VK → Prop} {f : List PyData → R (List PyData)} {F : Sem' (List Op)} (hc : CallR X (.type id) r) (hr : RuleCN C r f) (hg : Gl X x) (hm : X.mg x = none) (hv : bootBuiltins x = some (.type id)) (ha : PA X (a :: es) (tA C F)) (hn : x ≠ "__name__" := by decide) (hdb : (x == ("__debug__" : Str)) = false := by decide)
    (he : starEach (a :: es) X.env = (false, eval a X.env) :: starEach es X.env := by rfl) (hpl : (backTo pos (starEach es X.env)).any (·.1) = false := by rfl) : PE X (.Call (.Name x p) (a :: es) [] pos) (tN C (dA f F)) :=
  (pe_callTy hc hg hm hv ha hn hdb he hpl).imp fun σ H Q ⟨H0, en, s, p⟩ => dA_go (fin := fun os e => resAll e os) (op := fun ds e => lift (f ds) >>= fun z => .ok (z, e)) s p fun H01 H1 en1 vs os ds s1 hn rs e p1 => by
    have p1 : Post C (NewL C.K σ H) H01 H1 σ en1 Q (lift (f ds) >>= fun z => .ok (z, en1)) := p1
    cases e1 : f ds with
    | ok z =>
      rw [e1] at p1
      exact hr H01 H1 vs ds z Q s1.good (RpXs.of s1 rs e) e1 (outN_post s1 hn p1)
    | exc n => rw [e1] at p1; exact p1.elim
    | bad => rw [e1] at p1; exact p1.elim
end
end PD
end
section
namespace PD
open PySem PySem.Spec PyProof.Rows L2 Evl

/-! ### what is walked -/
structure ItD (C : Ct) (J : It) (xs : List PyData) (P : Hp → Hp → Prop) : Prop where
  go : ∀ H0' H' (i : Nat) (x : PyData), P H0' H' → Good C H0' H' → xs[i]? = some x → J.go i H' ∧ ∀ v H3, J.yld i H' v H3 → ∃ H03, Fm (fun _ => False) H0' H' H03 H3 ∧ Good C H03 H3 ∧ Rp C.K H03 v x
  stop : ∀ H0' H', P H0' H' → Good C H0' H' → J.stop xs.length H'
/-- the items, the slots whose lists are walked -/
abbrev Its' := List PyData × List Nat
def Keeps (C : Ct) (ws : List Nat) (σ : L2.St) (en : En) (H0 : Hp) (P : Hp → Hp → Prop) : Prop := ∀ H0' H' σ' e, Ex H0 H0' → SR C.K C.T H0' H' σ' e → (∀ i ∈ ws, σ'[i]? = σ[i]? ∧ e[i]? = en[i]?) → P H0' H'
def PostI (C : Ct) (H0 H : Hp) (σ : L2.St) (en : En) (Rk : It → Hp → Prop) : R (Its' × En) → Prop
  | .ok (q, en') => ∀ H0' H' J P, Stp σ en H0 H σ en' H0' H' → SR C.K C.T H0' H' σ en' → ItD C J q.1 P → Keeps C q.2 σ en' H0' P → Rk J H'
  | .exc n => C.err (OwnA σ en) H0 H n
  | .bad => False
def tI (C : Ct) (F : Sem' Its') : TI := fun σ H Rk => ∃ H0 en, SR C.K C.T H0 H σ en ∧ PostI C H0 H σ en Rk (F en)
/-- targets: is, the slots that may change -/
def PostG (C : Ct) (js : List Nat) (H0 H : Hp) (σ : L2.St) (en : En) (Q : L2.St → Hp → Prop) : R En → Prop
  | .ok en' => ∀ σ', σ'.length = σ.length → (∀ j : Nat, j ∉ js → σ'[j]? = σ[j]?) → Stp σ en H0 H σ' en' H0 H → SR C.K C.T H0 H σ' en' → Q σ' H
  | _ => False
def gD (C : Ct) (js : List Nat) (G : PyData → En → R En) : TG := fun v σ H Q => ∃ H0 en d, SR C.K C.T H0 H σ en ∧ Rp C.K H0 v d ∧ PostG C js H0 H σ en Q (G d en)
def gsD (C : Ct) (js : List Nat) (G : List PyData → En → R En) : TGs := fun vs σ H Q => ∃ H0 en ds, SR C.K C.T H0 H σ en ∧ RpAll C.K H0 vs ds ∧ PostG C js H0 H σ en Q (G ds en)
def ioAt (en : En) (i : Nat) : Bool := match en[i]? with
  | some (.own true _) => true
  | _ => false
def tgN (i : Nat) : PyData → En → R En := fun d en => if ioAt en i then .bad else .ok (en.set i (.dat d))
def tgNil : List PyData → En → R En := fun ds en => match ds with
  | [] => .ok en
  | _ => .bad
def tgCons (g : PyData → En → R En) (gs : List PyData → En → R En) : List PyData → En → R En := fun ds en => match ds with
  | d :: r => g d en >>= fun e => gs r e
  | [] => .bad
def tgT (n : Nat) (gs : List PyData → En → R En) : PyData → En → R En := fun d en => match d with
  | .tuple ds => if ds.length = n then gs ds en else .bad
  | _ => .bad
section
variable {C : Ct} {X : Cx} {H0 H H0' H' : Hp} {σ : L2.St} {en en' : En} {a b c tg : Expr} {pos : Pos}
theorem ioAt_no {i : Nat} (h : ioAt en i = false) {ds : List PyData} : en[i]? ≠ some (.own true ds) := fun e => by
  unfold ioAt at h
  rw [e] at h
  cases h
theorem set_sr {i : Nat} {v : V} {d : PyData} (s : SR C.K C.T H0 H σ en) (r : Rp C.K H0 v d) : SR C.K C.T H0 H (σ.set i (some v)) (en.set i (.dat d)) where
  len := by rw [List.length_set, List.length_set]; exact s.len
  ex := s.ex
  tb := s.tb
  nt := s.nt
  dat := fun j e h => by
    by_cases z : i = j
    · subst z
      have hl : i < en.length := by
        have := (List.getElem?_eq_some_iff.mp h).1
        rwa [List.length_set] at this
      rw [List.getElem?_set_self hl] at h
      cases h
      exact ⟨v, by rw [List.getElem?_set_self (by rw [s.len]; exact hl)], r⟩
    · rw [List.getElem?_set_ne z] at h ⊢
      exact s.dat j e h
  own := fun j io ds h => by
    by_cases z : i = j
    · subst z
      have hl : i < en.length := by
        have := (List.getElem?_eq_some_iff.mp h).1
        rwa [List.length_set] at this
      rw [List.getElem?_set_self hl] at h
      cases h
    · rw [List.getElem?_set_ne z] at h ⊢
      exact s.own j io ds h
  sep := fun j k io ds jo es p n h1 h2 e1 => by
    have ne : ∀ {j io ds}, (en.set i (Sl.dat d))[j]? = some (Sl.own io ds) → i ≠ j := fun {j io ds} h z => by
      subst z
      have hl : i < en.length := by
        have := (List.getElem?_eq_some_iff.mp h).1
        rwa [List.length_set] at this
      rw [List.getElem?_set_self hl] at h
      cases h
    have n1 := ne h1
    have n2 := ne h2
    rw [List.getElem?_set_ne n1] at h1 e1
    rw [List.getElem?_set_ne n2] at h2 ⊢
    exact s.sep j k io ds jo es p n h1 h2 e1
theorem set_stp {i : Nat} {v : V} {d : PyData} (hi : ioAt en i = false) : Stp σ en H0 H (σ.set i (some v)) (en.set i (.dat d)) H0 H where
  fm := Fm.refl
  ow := fun p ⟨j, io, ds, h1, h2⟩ => by
    by_cases z : i = j
    · subst z
      have hl : i < en.length := by
        have := (List.getElem?_eq_some_iff.mp h1).1
        rwa [List.length_set] at this
      rw [List.getElem?_set_self hl] at h1
      cases h1
    · rw [List.getElem?_set_ne z] at h1 h2
      exact .inl ⟨j, io, ds, h1, h2⟩
  io := fun j ds h => by
    have z : i ≠ j := fun z => by subst z; exact ioAt_no hi h
    rw [List.getElem?_set_ne z, List.getElem?_set_ne z]
    exact ⟨rfl, ds, h⟩
theorem dg_name {i : Nat} (h : PG X tg (gName i)) : PG X tg (gD C [i] (tgN i)) := ⟨fun pins s σ H v u Q I r ⟨H0, en, d, sr, rd, p⟩ => h.run pins s σ H v u Q I r (by
  unfold tgN at p
  split at p
  · exact p.elim
  · rename_i hi
    exact p _ (by rw [List.length_set]) (fun j hj => List.getElem?_set_ne (fun z => hj (by simp [z]))) (set_stp (by simpa using hi)) (set_sr sr rd))⟩
theorem postG_bind {js ks : List Nat} {Q : L2.St → Hp → Prop} {x : R En} {f : En → R En} (p : PostG C (js ++ ks) H0 H σ en Q (x >>= f)) : PostG C js H0 H σ en (fun σ1 H1 => ∃ en1, x = .ok en1 ∧ SR C.K C.T H0 H σ1 en1 ∧ H1 = H ∧ PostG C ks H0 H σ1 en1 Q (f en1)) x := by
  cases x with
  | ok e1 =>
    intro σ1 hl hk st sr
    refine ⟨e1, rfl, sr, rfl, ?_⟩
    have p : PostG C (js ++ ks) H0 H σ en Q (f e1) := p
    revert p
    cases f e1 with
    | ok e2 => exact fun p σ2 hl2 hk2 st2 sr2 => p σ2 (hl2.trans hl) (fun j hj => (hk2 j (fun z => hj (List.mem_append_right _ z))).trans (hk j (fun z => hj (List.mem_append_left _ z)))) (st.trans st2) sr2
    | exc n => exact fun p => p
    | bad => exact fun p => p
  | exc n => exact p
  | bad => exact p
theorem dgs_nil : PGs X [] (gsD C [] tgNil) := ⟨fun pins s σ H vs us Q I r ⟨H0, en, ds, sr, rd, p⟩ => pgs_nil.run pins s σ H vs us Q I r (by
  cases ds with
  | nil =>
    cases rd
    exact ⟨rfl, p σ rfl (fun _ _ => rfl) Stp.refl sr⟩
  | cons d r => exact p.elim)⟩
theorem dgs_cons {e : Expr} {es : List Expr} {js ks : List Nat} {g : PyData → En → R En} {gs : List PyData → En → R En} (h1 : PG X e (gD C js g)) (h2 : PGs X es (gsD C ks gs))
    (hs : (assignEach (e :: es) X.env).map (·.2) = assign e X.env :: (assignEach es X.env).map (·.2) := by rfl) : PGs X (e :: es) (gsD C (js ++ ks) (tgCons g gs)) :=
  ⟨fun pins s σ H vs us Q I r ⟨H0, en, ds, sr, rd, p⟩ => (pgs_cons h1 h2 hs).run pins s σ H vs us Q I r (by
    cases ds with
    | nil => exact p.elim
    | cons d rest =>
      cases rd with
      | cons r1 r2 =>
        refine ⟨_, _, rfl, H0, en, d, sr, r1, ?_⟩
        have q := postG_bind (x := g d en) (f := fun e => gs rest e) p
        revert q
        cases g d en with
        | ok e1 =>
          intro q σ1 hl hk st sr1
          obtain ⟨en1, e, s1, _, q1⟩ := q σ1 hl hk st sr1
          cases e
          exact ⟨H0, _, rest, s1, r2, q1⟩
        | exc n => exact fun q => q
        | bad => exact fun q => q)⟩
theorem dg_tup {es : List Expr} {k : Nat} {js : List Nat} {gs : List PyData → En → R En} {n : Nat} (hc : X.calm = true) (hK : C.K = X.K) (h : PGs X es (gsD C js gs))
    (hn : (assignEach es X.env).length = n := by rfl) (hst : (assignEach es X.env).findIdx? (·.1) = none := by rfl) : PG X (.Tuple es k pos) (gD C js (tgT n gs)) :=
  ⟨fun pins s σ H v u Q I r ⟨H0, en, d, sr, rd, p⟩ => (pg_tup hc h hn hst).run pins s σ H v u Q I r (by
    unfold tgT at p
    cases d with
    | tuple ds =>
      cases rd with
      | tup ht ra =>
        dsimp only at p
        split at p
        · rename_i hl
          exact ⟨_, _, rfl, by rw [← hK]; exact ex_t sr.ex ht, by rw [ra.length]; exact hl, H0, en, ds, sr, ra, p⟩
        · exact p.elim
    | _ => exact p.elim)⟩

/-! ### iterables -/
def seqOf (d : PyData) : R (List PyData) := match d with
  | .list ds => .ok ds
  | .tuple ds => .ok ds
  | _ => .bad
def ownIx : List Op → List Nat
  | [] => []
  | .val _ :: os => ownIx os
  | .own i :: os => i :: ownIx os
/-- what a source tells of its operands -/
def itA (f : List PyData → R (List PyData)) (F : Sem' (List Op)) : Sem' Its' := fun en => F en >>= fun p => lift (resAll p.2 p.1) >>= fun ds => lift (f ds) >>= fun z => .ok ((z, ownIx p.1), p.2)
def it1 (F : Sem' Op) : Sem' (List Op) := fun en => F en >>= fun p => .ok ([p.1], p.2)
def seq1 (ds : List PyData) : R (List PyData) := match ds with
  | [d] => seqOf d
  | _ => .bad
theorem post_bindAI {Q : List V → Hp → Prop} {Q2 : It → Hp → Prop} {x : R (List Op × En)} {f : List Op → En → R (Its' × En)}
    (h : PostI C H0 H σ en Q2 (x >>= fun p => f p.1 p.2))
    (k : ∀ a en1 H01 H1 vs, x = .ok (a, en1) → Stp σ en H0 H σ en1 H01 H1 → SR C.K C.T H01 H1 σ en1 → OpdsR C.K H01 σ vs a → PostI C H01 H1 σ en1 Q2 (f a en1) → Q vs H1) : PostA C H0 H σ en Q x := by
  cases x with
  | ok p =>
    obtain ⟨a, en1⟩ := p
    intro H01 H1 vs st sr r
    refine k a en1 H01 H1 vs rfl st sr r ?_
    have h : PostI C H0 H σ en Q2 (f a en1) := h
    revert h
    cases f a en1 with
    | ok q => exact fun h H0' H' v' P st' sr' r' => h H0' H' v' P (st.trans st') sr' r'
    | exc n => exact fun h => Ct.err_at h st.fm st.ow
    | bad => exact fun h => h
  | exc n => exact h
  | bad => exact h.elim
theorem res_same {o : Op} (h : ∀ i ∈ ownIx [o], en'[i]? = en[i]?) : o.res en' = o.res en := by
  cases o with
  | val d => rfl
  | own i =>
    have := h i (by simp [ownIx])
    simp only [Op.res, this]
theorem resAll_same : ∀ {os : List Op}, (∀ i ∈ ownIx os, en'[i]? = en[i]?) → resAll en' os = resAll en os
  | [], _ => rfl
  | o :: os, h => by
    have h1 : o.res en' = o.res en := res_same fun i hi => h i (by cases o <;> simp_all [ownIx])
    have h2 : resAll en' os = resAll en os := resAll_same fun i hi => h i (by cases o <;> simp_all [ownIx])
    unfold resAll
    rw [h1, h2]
theorem opds_same {σ' : L2.St} (e : Ex H0 H0') : ∀ {vs : List V} {os : List Op}, (∀ i ∈ ownIx os, σ'[i]? = σ[i]?) → OpdsR C.K H0 σ vs os → OpdsR C.K H0' σ' vs os
  | [], [], _, _ => trivial
  | v :: vs, o :: os, h, r => by
    refine ⟨?_, opds_same e (fun i hi => h i (by cases o <;> simp_all [ownIx])) r.2⟩
    cases o with
    | val d => exact Rp.mono e r.1
    | own i =>
      show σ'[i]? = some (some v)
      rw [h i (by simp [ownIx])]
      exact r.1
  | [], _ :: _, _, r => r.elim
  | _ :: _, [], _, r => r.elim
theorem dI_go {f : List PyData → R (List PyData)} {F : Sem' (List Op)} {Rk : It → Hp → Prop} {K' : List V → Hp → Prop}
    (s : SR C.K C.T H0 H σ en) (p : PostI C H0 H σ en Rk (itA f F en))
    (k : ∀ H01 H1 en1 vs ds z, SR C.K C.T H01 H1 σ en1 → RpXs C.K H01 H1 vs ds → f ds = .ok z → (∀ J, ItD C J z (fun H0' H' => RpXs C.K H0' H' vs ds) → Rk J H1) → K' vs H1) : tA C F σ H K' :=
  ⟨H0, en, s, post_bindAI (Q2 := Rk) (f := fun os e => lift (resAll e os) >>= fun ds => lift (f ds) >>= fun z => .ok ((z, ownIx os), e)) p fun os en1 H01 H1 vs _ st sr rs p1 => by
    have p1 : PostI C H01 H1 σ en1 Rk (lift (resAll en1 os) >>= fun ds => lift (f ds) >>= fun z => .ok ((z, ownIx os), en1)) := p1
    cases e1 : resAll en1 os with
    | ok ds =>
      rw [e1] at p1
      have p1 : PostI C H01 H1 σ en1 Rk (lift (f ds) >>= fun z => .ok ((z, ownIx os), en1)) := p1
      cases e2 : f ds with
      | ok z =>
        rw [e2] at p1
        exact k H01 H1 en1 vs ds z sr (RpXs.of sr rs e1) e2 fun J hJ => p1 H01 H1 J _ Stp.refl sr hJ fun H0' H' σ' e x s' w =>
          RpXs.of s' (opds_same x (fun i hi => (w i hi).1) rs) (by rw [resAll_same fun i hi => (w i hi).2]; exact e1)
      | exc n => rw [e2] at p1; exact p1.elim
      | bad => rw [e2] at p1; exact p1.elim
    | exc n => rw [e1] at p1; exact p1.elim
    | bad => rw [e1] at p1; exact p1.elim⟩
theorem PI.or {l : Expr} {w1 w2 : TI} (h1 : PI X tg l w1) (h2 : PI X tg l w2) : PI X tg l (fun σ H Rk => w1 σ H Rk ∨ w2 σ H Rk) := ⟨fun pins s σ H Rk I h => h.elim (h1.run pins s σ H Rk I) (h2.run pins s σ H Rk I)⟩
theorem itl_d {ds : List PyData} {v : V} {p : Addr} (e : v = .ref p) : ItD C (Itl C.K p) ds (fun H0' H' => RpX C.K H0' H' v (.list ds)) where
  go := fun H0' H' i x hp g hx => by
    obtain ⟨a, vs, ea, hr, r⟩ := hp.list g.ex
    rw [e] at ea; cases ea
    obtain ⟨u, hv, rv⟩ := r.get hx
    have q : SqL C.K H' p vs := .inl hr
    exact ⟨⟨vs, u, q, hv⟩, fun w H3 ⟨e3, hw⟩ => by
      subst e3
      have : u = w := by have := hw vs q; rw [hv] at this; exact Option.some.inj this
      subst this
      exact ⟨H0', Fm.refl, g, rv⟩⟩
  stop := fun H0' H' hp g => by
    obtain ⟨a, vs, ea, hr, r⟩ := hp.list g.ex
    rw [e] at ea; cases ea
    exact ⟨vs, .inl hr, by rw [r.length]; exact Nat.le_refl _⟩
theorem itt_d {ds : List PyData} {v : V} {p : Addr} (e : v = .ref p) : ItD C (Itt C.K p) ds (fun H0' H' => RpX C.K H0' H' v (.tuple ds)) where
  go := fun H0' H' i x hp g hx => by
    obtain ⟨a, vs, ea, hr, r⟩ := hp.tup g.ex
    rw [e] at ea; cases ea
    obtain ⟨u, hv, rv⟩ := r.get hx
    exact ⟨⟨vs, u, hr, hv⟩, fun w H3 ⟨e3, hw⟩ => by
      subst e3
      have : u = w := by have := hw vs hr; rw [hv] at this; exact Option.some.inj this
      subst this
      exact ⟨H0', Fm.refl, g, rv⟩⟩
  stop := fun H0' H' hp g => by
    obtain ⟨a, vs, ea, hr, r⟩ := hp.tup g.ex
    rw [e] at ea; cases ea
    exact ⟨vs, hr, by rw [r.length]; exact Nat.le_refl _⟩
theorem itD_imp {J : It} {xs : List PyData} {P P' : Hp → Hp → Prop} (h : ItD C J xs P) (i : ∀ H0 H, P' H0 H → P H0 H) : ItD C J xs P' := ⟨fun a b c d p => h.go a b c d (i _ _ p), fun a b p => h.stop a b (i _ _ p)⟩
/-- for x in e -/
theorem di_seq {l : Expr} {F : Sem' Op} (hK : C.K = X.K) (hl : PE X l (tO C F)) : PI X tg l (tI C (itA seq1 (it1 F))) := by
  refine ⟨fun pins s σ H Rk I ⟨H0, en, sr, p⟩ => ?_⟩
  -- by what the operand comes to
  cases e : F en with
  | exc n =>
    refine (pi_list hl).run pins s σ H Rk I ⟨H0, en, sr, ?_⟩
    have := p
    unfold itA it1 at this
    rw [e] at this ⊢
    exact this
  | bad =>
    have := p
    unfold itA it1 at this
    rw [e] at this
    exact this.elim
  | ok q =>
    obtain ⟨o, en1⟩ := q
    have p2 : PostI C H0 H σ en Rk (lift (resAll en1 [o]) >>= fun ds => lift (seq1 ds) >>= fun z => .ok ((z, ownIx [o]), en1)) := by
      have := p
      unfold itA it1 at this
      rw [e] at this
      exact this
    cases e1 : o.res en1 with
    | exc n => unfold resAll at p2; rw [e1] at p2; exact p2.elim
    | bad => unfold resAll at p2; rw [e1] at p2; exact p2.elim
    | ok d =>
      unfold resAll resAll at p2
      rw [e1] at p2
      have p2 : PostI C H0 H σ en Rk (lift (seqOf d) >>= fun z => .ok ((z, ownIx [o]), en1)) := p2
      have kp : ∀ H01 v, OpdR C.K H01 σ v o → Keeps C (ownIx [o]) σ en1 H01 (fun H0' H' => RpX C.K H0' H' v d) := fun H01 v r H0' H' σ' e x s' w => by
        have r' : OpdsR C.K H0' σ' [v] [o] := opds_same (C := C) x (fun i hi => (w i hi).1) (show OpdsR C.K H01 σ [v] [o] from ⟨r, trivial⟩)
        exact OpdR.res s' r'.1 (by rw [res_same fun i hi => (w i hi).2]; exact e1)
      cases d with
      | list ds =>
        refine (pi_list hl).run pins s σ H Rk I ⟨H0, en, sr, ?_⟩
        rw [e]
        intro H01 H1 v st s1 r
        obtain ⟨a, vs, ea, hr, ra⟩ := (OpdR.res s1 r e1).list s1.ex
        exact ⟨a, ea, ⟨vs, .inl hr⟩, by rw [← hK]; exact p2 H01 H1 _ _ st s1 (itl_d ea) (kp H01 v r)⟩
      | tuple ds =>
        refine (pi_tup hl).run pins s σ H Rk I ⟨H0, en, sr, ?_⟩
        rw [e]
        intro H01 H1 v st s1 r
        obtain ⟨a, vs, ea, hr, ra⟩ := (OpdR.res s1 r e1).tup s1.ex
        exact ⟨a, ea, ⟨vs, by rw [← hK]; exact hr⟩, by rw [← hK]; exact p2 H01 H1 _ _ st s1 (itt_d ea) (kp H01 v r)⟩
      | _ => exact p2.elim
def numsFrom (lo : Int) (n : Nat) : List PyData := (List.range n).map fun (k : Nat) => PyData.int (lo + (k : Int))
theorem itr_d {lo : Int} {n : Nat} {P : Hp → Hp → Prop} : ItD C (Itr lo n) (numsFrom lo n) P where
  go := fun H0' H' i x e g hx => by
    have hi : i < n := by
      have := (List.getElem?_eq_some_iff.mp hx).1
      simpa [numsFrom] using this
    have ex : x = .int (lo + (i : Int)) := by
      unfold numsFrom at hx
      rw [List.getElem?_map, List.getElem?_range hi] at hx
      exact (Option.some.inj hx).symm
    subst ex
    exact ⟨hi, fun v H3 ⟨e3, hv⟩ => by
      subst e3; subst hv
      exact ⟨H0', Fm.refl, g, .int _⟩⟩
  stop := fun H0' H' e g => by
    show n ≤ (numsFrom lo n).length
    simp [numsFrom]
def in62 {α : Type} (i : Int) (x : R α) : R α := if -(2 ^ 62) ≤ i ∧ i < 2 ^ 62 then x else .bad
def rng1 (os : List PyData) : R (List PyData) := match os with
  | [.int n] => in62 n (.ok (numsFrom 0 n.toNat))
  | _ => .bad
def rng2 (os : List PyData) : R (List PyData) := match os with
  | [.int i, .int j] => in62 i (in62 j (.ok (numsFrom i (j - i).toNat)))
  | _ => .bad
theorem in62_ok {α : Type} {i : Int} {x : R α} {z : α} (h : in62 i x = .ok z) : (-(2 ^ 62) ≤ i ∧ i < 2 ^ 62) ∧ x = .ok z := by
  unfold in62 at h
  split at h
  · exact ⟨by assumption, h⟩
  · cases h
theorem rpxs1 {vs : List V} {d : PyData} (h : RpXs C.K H0 H vs [d]) : ∃ v, vs = [v] ∧ RpX C.K H0 H v d := by
  match vs, h with
  | [v], h => exact ⟨v, rfl, h.1⟩
theorem rpxs2 {vs : List V} {d e : PyData} (h : RpXs C.K H0 H vs [d, e]) : ∃ v w, vs = [v, w] ∧ RpX C.K H0 H v d ∧ RpX C.K H0 H w e := by
  match vs, h with
  | [v, w], h => exact ⟨v, w, rfl, h.1, h.2.1⟩
theorem di_range1 {F : Sem' (List Op)} {p : Pos} (hg : Gl X "range") (hm : X.mg "range" = none) (ha : PA X [a] (tA C F)) (hs : starEach [a] X.env = [(false, eval a X.env)] := by rfl) : PI X tg (.Call (.Name "range" p) [a] [] pos) (tI C (itA rng1 F)) :=
  (pi_range1 hg hm ha hs).imp fun σ H Rk ⟨H0, en, s, p⟩ => dI_go s p fun H01 H1 en1 vs ds z s1 r e k => by
    unfold rng1 at e
    split at e
    · rename_i n
      obtain ⟨h1, h2⟩ := in62_ok e
      cases h2
      obtain ⟨v, rfl, rv⟩ := rpxs1 r
      exact ⟨n, by rw [rv.int], h1.1, h1.2, k _ itr_d⟩
    · cases e
theorem di_range2 {F : Sem' (List Op)} {p : Pos} (hg : Gl X "range") (hm : X.mg "range" = none) (ha : PA X [a, b] (tA C F)) (hs : starEach [a, b] X.env = [(false, eval a X.env), (false, eval b X.env)] := by rfl) (hs2 : starEach [b] X.env = [(false, eval b X.env)] := by rfl) : PI X tg (.Call (.Name "range" p) [a, b] [] pos) (tI C (itA rng2 F)) :=
  (pi_range2 hg hm ha hs hs2).imp fun σ H Rk ⟨H0, en, s, p⟩ => dI_go s p fun H01 H1 en1 vs ds z s1 r e k => by
    unfold rng2 at e
    split at e
    · rename_i i j
      obtain ⟨h1, h2⟩ := in62_ok e
      obtain ⟨h3, h4⟩ := in62_ok h2
      cases h4
      obtain ⟨v, w, rfl, rv, rw'⟩ := rpxs2 r
      exact ⟨i, j, by rw [rv.int, rw'.int], ⟨h1.1, h1.2, h3.1, h3.2⟩, k _ itr_d⟩
    · cases e
end
end PD
end
section
namespace PD
open PySem PySem.Spec PyProof.Rows L2 Evl

/-! ### list comprehensions -/
def wipeE (en : En) : List Nat → En
  | [] => en
  | v :: vs => (wipeE en vs).set v .no
def restE (en1 e : En) : List Nat → En
  | [] => e
  | v :: vs => (restE en1 e vs).set v (en1.getD v .no)
def slFree : Sl → Bool
  | .own _ _ => false
  | _ => true
def freeOf (en : En) (vs : List Nat) : Bool := vs.all fun v => slFree (en.getD v .no)
open Classical in
/-- the walked slots stand -/
noncomputable def keepW {α : Type} (ws : List Nat) (en1 e : En) (x : R α) : R α := if ∀ i ∈ ws, e[i]? = en1[i]? then x else .bad
theorem keepW_nil {α : Type} (en1 e : En) (x : R α) : keepW [] en1 e x = x := by
  unfold keepW
  rw [if_pos (fun i h => by cases h)]
theorem keepW_self {α : Type} (ws : List Nat) (en : En) (x : R α) : keepW ws en en x = x := by
  unfold keepW
  rw [if_pos (fun i h => rfl)]
noncomputable def lcLoop (ws : List Nat) (en1 : En) (vs : List Nat) (tg : PyData → En → R En) (tst : Sem' Bool) (elt : Sem' PyData) : List PyData → En → R (List PyData × En)
  | [], e => keepW ws en1 e (.ok ([], e))
  | x :: xs, e => keepW ws en1 e (lift (tg x e) >>= fun e1 => lift (tst e1) >>= fun p => if p.1 then lift (elt p.2) >>= fun q => lcLoop ws en1 vs tg tst elt xs (wipeE q.2 vs) >>= fun r => .ok (q.1 :: r.1, r.2) else lcLoop ws en1 vs tg tst elt xs (wipeE p.2 vs))
noncomputable def dLc (it : Sem' Its') (vs : List Nat) (tg : PyData → En → R En) (tst : Sem' Bool) (elt : Sem' PyData) : Sem' (List PyData) := fun en => it en >>= fun p =>
  if freeOf p.2 vs = true ∧ p.1.1.length ≤ 100000 ∧ p.1.2.all (fun i => !vs.contains i) = true then lcLoop p.1.2 (wipeE p.2 vs) vs tg tst elt p.1.1 (wipeE p.2 vs) >>= fun q => .ok (q.1, restE p.2 q.2 vs) else .bad
theorem keepW_post {C : Ct} {α : Type} {rel : En → Hp → Hp → V → α → Prop} {H0 H : Hp} {σ : L2.St} {en en1 e : En} {Q : VK} {ws : List Nat} {β : Type} {x : R β} {f : β → R (α × En)} (h : Post C rel H0 H σ en Q (keepW ws en1 e x >>= f)) : (∀ i ∈ ws, e[i]? = en1[i]?) ∧ Post C rel H0 H σ en Q (x >>= f) := by
  unfold keepW at h
  split at h
  · exact ⟨by assumption, h⟩
  · exact h.elim
def Ct.non (C : Ct) : Ct := { C with E := E0 }
section
variable {C : Ct} {X : Cx} {H0 H H0' H' H01 H1 : Hp} {σ σ' : L2.St} {en en' en1 e : En} {vs : List Nat}
theorem wipe_get (σ : L2.St) (j : Nat) : ∀ vs : List Nat, (wipe σ vs)[j]? = if j ∈ vs then (if j < σ.length then some none else none) else σ[j]?
  | [] => by simp [wipe]
  | v :: vs => by
    unfold wipe
    by_cases z : v = j
    · subst z
      rw [if_pos (List.mem_cons_self)]
      by_cases hl : v < σ.length
      · rw [List.getElem?_set_self (by rw [wipe_length]; exact hl), if_pos hl]
      · rw [if_neg hl, List.getElem?_eq_none (by rw [List.length_set, wipe_length]; omega)]
    · rw [List.getElem?_set_ne z, wipe_get σ j vs]
      have : (j ∈ v :: vs) ↔ j ∈ vs := by simp [Ne.symm z]
      simp only [this]
theorem wipeE_length (en : En) : ∀ vs : List Nat, (wipeE en vs).length = en.length
  | [] => rfl
  | v :: vs => by unfold wipeE; rw [List.length_set, wipeE_length en vs]
theorem wipeE_get (en : En) (j : Nat) : ∀ vs : List Nat, (wipeE en vs)[j]? = if j ∈ vs then (if j < en.length then some .no else none) else en[j]?
  | [] => by simp [wipeE]
  | v :: vs => by
    unfold wipeE
    by_cases z : v = j
    · subst z
      rw [if_pos (List.mem_cons_self)]
      by_cases hl : v < en.length
      · rw [List.getElem?_set_self (by rw [wipeE_length]; exact hl), if_pos hl]
      · rw [if_neg hl, List.getElem?_eq_none (by rw [List.length_set, wipeE_length]; omega)]
    · rw [List.getElem?_set_ne z, wipeE_get en j vs]
      have : (j ∈ v :: vs) ↔ j ∈ vs := by simp [Ne.symm z]
      simp only [this]
theorem restE_length (en1 e : En) : ∀ vs : List Nat, (restE en1 e vs).length = e.length
  | [] => rfl
  | v :: vs => by unfold restE; rw [List.length_set, restE_length en1 e vs]
theorem restE_get (en1 e : En) (j : Nat) : ∀ vs : List Nat, (restE en1 e vs)[j]? = if j ∈ vs then (if j < e.length then some (en1.getD j .no) else none) else e[j]?
  | [] => by simp [restE]
  | v :: vs => by
    unfold restE
    by_cases z : v = j
    · subst z
      rw [if_pos (List.mem_cons_self)]
      by_cases hl : v < e.length
      · rw [List.getElem?_set_self (by rw [restE_length]; exact hl), if_pos hl]
      · rw [if_neg hl, List.getElem?_eq_none (by rw [List.length_set, restE_length]; omega)]
    · rw [List.getElem?_set_ne z, restE_get en1 e j vs]
      have : (j ∈ v :: vs) ↔ j ∈ vs := by simp [Ne.symm z]
      simp only [this]
theorem wipe_eq (σ σ' : L2.St) (hl : σ'.length = σ.length) (hk : ∀ j : Nat, j ∉ vs → σ'[j]? = σ[j]?) : wipe σ' vs = wipe σ vs := by
  refine List.ext_getElem? fun j => ?_
  rw [wipe_get, wipe_get, hl]
  by_cases h : j ∈ vs
  · rw [if_pos h, if_pos h]
  · rw [if_neg h, if_neg h, hk j h]
theorem wipe_wipe (σ : L2.St) : wipe (wipe σ vs) vs = wipe σ vs := wipe_eq σ _ (wipe_length σ vs) fun j h => by rw [wipe_get, if_neg h]
theorem free_at (h : freeOf en vs = true) {j : Nat} (hj : j ∈ vs) : slFree (en.getD j .no) = true := List.all_eq_true.mp h j hj
theorem sr_wipe (s : SR C.K C.T H0 H σ en) : SR C.K C.T H0 H (wipe σ vs) (wipeE en vs) where
  len := by rw [wipe_length, wipeE_length]; exact s.len
  ex := s.ex
  tb := s.tb
  nt := s.nt
  dat := fun j d h => by
    rw [wipeE_get] at h
    by_cases z : j ∈ vs
    · rw [if_pos z] at h; split at h <;> cases h
    · rw [if_neg z] at h; rw [wipe_get, if_neg z]; exact s.dat j d h
  own := fun j io ds h => by
    rw [wipeE_get] at h
    by_cases z : j ∈ vs
    · rw [if_pos z] at h; split at h <;> cases h
    · rw [if_neg z] at h; rw [wipe_get, if_neg z]; exact s.own j io ds h
  sep := fun j k io ds jo es p n h1 h2 e1 => by
    rw [wipeE_get] at h1 h2
    by_cases z : j ∈ vs
    · rw [if_pos z] at h1; split at h1 <;> cases h1
    · rw [if_neg z] at h1
      by_cases y : k ∈ vs
      · rw [if_pos y] at h2; split at h2 <;> cases h2
      · rw [if_neg y] at h2
        rw [wipe_get, if_neg z] at e1
        rw [wipe_get, if_neg y]
        exact s.sep j k io ds jo es p n h1 h2 e1
theorem own_wipe {p : Addr} (h : OwnA (wipe σ vs) (wipeE en vs) p) : OwnA σ en p := by
  obtain ⟨j, io, ds, h1, h2⟩ := h
  rw [wipeE_get] at h1
  by_cases z : j ∈ vs
  · rw [if_pos z] at h1; split at h1 <;> cases h1
  · rw [if_neg z] at h1; rw [wipe_get, if_neg z] at h2; exact ⟨j, io, ds, h1, h2⟩
theorem rest_own (f : freeOf en1 vs = true) {j : Nat} {io : Bool} {ds : List PyData} (h : (restE en1 e vs)[j]? = some (.own io ds)) : j ∉ vs ∧ e[j]? = some (.own io ds) := by
  rw [restE_get] at h
  by_cases z : j ∈ vs
  · rw [if_pos z] at h
    split at h
    · have := free_at f z
      rw [Option.some.inj h] at this
      cases this
    · cases h
  · rw [if_neg z] at h
    exact ⟨z, h⟩
theorem own_unwipe (f : freeOf en1 vs = true) {p : Addr} (h : OwnA σ (restE en1 e vs) p) : OwnA (wipe σ vs) e p := by
  obtain ⟨j, io, ds, h1, h2⟩ := h
  obtain ⟨z, h1⟩ := rest_own f h1
  exact ⟨j, io, ds, h1, by rw [wipe_get, if_neg z]; exact h2⟩
theorem sr_unwipe (s : SR C.K C.T H01 H1 σ en1) (f : freeOf en1 vs = true) (x : Ex H01 H0') (r : SR C.K C.T H0' H' (wipe σ vs) e) : SR C.K C.T H0' H' σ (restE en1 e vs) where
  len := by rw [restE_length, ← r.len, wipe_length]
  ex := r.ex
  tb := r.tb
  nt := r.nt
  dat := fun j d h => by
    rw [restE_get] at h
    by_cases z : j ∈ vs
    · rw [if_pos z] at h
      split at h
      · have h : en1.getD j .no = .dat d := Option.some.inj h
        have h : en1[j]? = some (.dat d) := by
          rw [List.getD_eq_getElem?_getD] at h
          cases q : en1[j]? with
          | none => rw [q] at h; cases h
          | some y => rw [q] at h; exact congrArg some h
        obtain ⟨v, e1, rr⟩ := s.dat j d h
        exact ⟨v, e1, rr.mono x⟩
      · cases h
    · rw [if_neg z] at h
      obtain ⟨v, e1, rr⟩ := r.dat j d h
      rw [wipe_get, if_neg z] at e1
      exact ⟨v, e1, rr⟩
  own := fun j io ds h => by
    obtain ⟨z, h⟩ := rest_own f h
    obtain ⟨p, ws, e1, rr⟩ := r.own j io ds h
    rw [wipe_get, if_neg z] at e1
    exact ⟨p, ws, e1, rr⟩
  sep := fun j k io ds jo es p n h1 h2 e1 => by
    obtain ⟨z, h1⟩ := rest_own f h1
    obtain ⟨y, h2⟩ := rest_own f h2
    have := r.sep j k io ds jo es p n h1 h2 (by rw [wipe_get, if_neg z]; exact e1)
    rw [wipe_get, if_neg y] at this
    exact this
theorem stp_unwipe (f : freeOf en1 vs = true) (t : Stp (wipe σ vs) (wipeE en1 vs) H01 H1 (wipe σ vs) e H0' H') : Stp σ en1 H01 H1 σ (restE en1 e vs) H0' H' where
  fm := t.fm.weak fun _ h => own_wipe h
  ow := fun p h => (t.ow p (own_unwipe f h)).imp own_wipe id
  io := fun i ds h => by
    have z : i ∉ vs := fun z => by
      have := free_at f z
      rw [List.getD_eq_getElem?_getD, h] at this
      cases this
    obtain ⟨_, ds', h'⟩ := t.io i ds (by rw [wipeE_get, if_neg z]; exact h)
    exact ⟨rfl, ds', by rw [restE_get, if_neg z]; exact h'⟩
/-- an object beside the slots and the protected part may change -/
theorem SR.side (s : SR C.K C.T H0 H σ en) {p : Addr} {o : HO} (h0 : H0 p = none) (hl : H p = none ∨ ∃ xs, H p = some (.lst xs)) (no : ¬ OwnA σ en p) (ho : ∀ ps, o ≠ .tbl ps := by intro _ z; cases z) : SR C.K C.T H0 (upd H p o) σ en where
  len := s.len
  ex := fun a u h => by
    rw [upd_ne (ne_of_none h h0)]
    exact s.ex a u h
  tb := tabs_upd s.tb hl
  nt := s.nt
  dat := s.dat
  own := fun i io ds h => by
    obtain ⟨q, vs, e1, e2, e3, r⟩ := s.own i io ds h
    have ne : q ≠ p := fun z => no ⟨i, io, ds, h, by rw [← z]; exact e1⟩
    exact ⟨q, vs, e1, by rw [upd_ne ne]; exact e2, e3, r⟩
  sep := s.sep
theorem Fm.side {own : Addr → Prop} {p : Addr} {o : HO} (f : Fm own H0 H H0' H') (hp : H p = none) : Fm own H0 H H0' (upd H' p o) where
  ex := f.ex
  fr := fun a u h n t => by rw [upd_ne (ne_of_none h hp)]; exact f.fr a u h n t
  kp := fun a h => by
    by_cases z : a = p
    · subst z; exact nw_of hp
    · exact f.kp a fun u e => h u (by rw [upd_ne z]; exact e)
  nw := f.nw
theorem Stp.side {p : Addr} {o : HO} (t : Stp σ en H0 H σ' en' H0' H') (hp : H p = none) : Stp σ en H0 H σ' en' H0' (upd H' p o) := ⟨t.fm.side hp, t.ow, t.io⟩
theorem stp_wipe2 (t : Stp σ en H0 H σ' en' H0' H') (w : ∀ i ds, en[i]? = some (.own true ds) → i ∉ vs) : Stp σ en H0 H (wipe σ' vs) (wipeE en' vs) H0' H' := ⟨t.fm, fun p h => t.ow p (own_wipe h), fun i ds h => by
  obtain ⟨e1, ds', h'⟩ := t.io i ds h
  have z := w i ds h
  exact ⟨by rw [wipe_get, if_neg z]; exact e1, ds', by rw [wipeE_get, if_neg z]; exact h'⟩⟩

theorem lc_tn {it : Sem' Its'} {js : List Nat} {g : PyData → En → R En} {tst : Sem' Bool} {el : Sem' PyData} (hj : ∀ j ∈ js, j ∈ vs) (σ : L2.St) (H : Hp) (Q : VK) (h : tN C (dLc it vs g tst el) σ H Q) : tLc (tI C it) (gD C.non js g) (tT C.non tst) (tE C.non el) vs σ H Q := by
  obtain ⟨H0, en, s, p⟩ := h
  unfold dLc at p
  refine ⟨H0, en, s, ?_⟩
  cases e0 : it en with
  | exc n => rw [e0] at p; exact p
  | bad => rw [e0] at p; exact p.elim
  | ok q =>
    obtain ⟨⟨xs, ws⟩, en1⟩ := q
    rw [e0] at p
    intro H01 H1 J P st0 s1 hJ hP D hD
    have hJ : ItD C J xs P := hJ
    have p : Post C (NewL C.K σ H) H0 H σ en Q (if freeOf en1 vs = true ∧ xs.length ≤ 100000 ∧ ws.all (fun i => !vs.contains i) = true then lcLoop ws (wipeE en1 vs) vs g tst el xs (wipeE en1 vs) >>= fun q => .ok (q.1, restE en1 q.2 vs) else .bad) := p
    split at p
    case isFalse => exact p.elim
    rename_i hf
    obtain ⟨hf, hlen, hws⟩ := hf
    have wsn : ∀ i ∈ ws, i ∉ vs := fun i hi z => by
      have := List.all_eq_true.mp hws i hi
      simp only [Bool.not_eq_true', List.contains_eq_mem, decide_eq_false_iff_not] at this
      exact this z
    have toP : ∀ (H0' H' : Hp) (e : En), Ex H01 H0' → SR C.K C.T H0' H' (wipe σ vs) e → (∀ i ∈ ws, e[i]? = (wipeE en1 vs)[i]?) → P H0' H' := fun H0' H' e x s' w => hP H0' H' (wipe σ vs) e x s' fun i hi => ⟨by rw [wipe_get, if_neg (wsn i hi)], by rw [w i hi, wipeE_get, if_neg (wsn i hi)]⟩
    have iov : ∀ (i : Nat) (ds : List PyData), (wipeE en1 vs)[i]? = some (.own true ds) → i ∉ vs := fun i ds h z => by
      rw [wipeE_get, if_pos z] at h
      split at h <;> cases h
    have hD0 : H01 D = none := fresh_back s1.ex hD
    have hDH : Nw H D := st0.fm.kp D (nw_of hD)
    let Wn : Nat → Hp → Prop := fun i H' => i ≤ xs.length ∧ ∃ H0' e acc ys, H' D = some (.lst acc) ∧ H0' D = none ∧ RpAll C.K H0' acc ys ∧ ys.length ≤ i ∧ SR C.K C.T H0' H' (wipe σ vs) e ∧ ¬ OwnA (wipe σ vs) e D ∧
      Stp (wipe σ vs) (wipeE en1 vs) H01 H1 (wipe σ vs) e H0' H' ∧ Post C (NewL C.K σ H) H0 H σ en Q (lcLoop ws (wipeE en1 vs) vs g tst el (xs.drop i) e >>= fun q => .ok (ys ++ q.1, restE en1 q.2 vs))
    refine ⟨fun i m H' => m = xs.length - i ∧ Wn i H', ⟨xs.length, rfl, Nat.zero_le _, H01, wipeE en1 vs, [], [], upd_same, hD0, .nil, Nat.le_refl _, ?_, ?_, ?_, ?_⟩, ?_⟩
    · exact (sr_wipe s1).newO hD
    · rintro ⟨j, io, ds, h1, h2⟩
      obtain ⟨q, ws, e1, e2, _⟩ := (sr_wipe (vs := vs) s1).own j io ds h1
      rw [h2] at e1
      cases e1
      rw [hD] at e2
      cases e2
    · exact Stp.refl.side hD
    · simpa using p
    · rintro i m H' ⟨rfl, hi, H0', e, acc, ys, d1, d2, ra, hy, sr, no, st, pp⟩
      by_cases hlt : i < xs.length
      case neg =>
        have ei : i = xs.length := by omega
        subst ei
        have pp : Post C (NewL C.K σ H) H0 H σ en Q (lcLoop ws (wipeE en1 vs) vs g tst el (xs.drop xs.length) e >>= fun q => .ok (ys ++ q.1, restE en1 q.2 vs)) := pp
        rw [List.drop_length] at pp
        obtain ⟨hw, pp⟩ := keepW_post pp
        refine .inl ⟨hJ.stop H0' H' (toP H0' H' e st.fm.ex sr hw) sr.good, ?_⟩
        have pp : Post C (NewL C.K σ H) H0 H σ en Q (.ok (ys ++ [], restE en1 e vs)) := pp
        rw [List.append_nil] at pp
        exact pp H0' H' (.ref D) (st0.trans (stp_unwipe hf st)) (sr_unwipe s1 hf st.fm.ex sr) ⟨D, acc, rfl, hDH, d1, d2, ra, fun h => no (own_unwipe hf h)⟩
      case pos =>
        have hx : xs[i]? = some xs[i] := List.getElem?_eq_getElem hlt
        rw [List.drop_eq_getElem_cons hlt] at pp
        obtain ⟨hwt, pp⟩ := keepW_post pp
        obtain ⟨go, yld⟩ := hJ.go H0' H' i xs[i] (toP H0' H' e st.fm.ex sr hwt) sr.good hx
        refine .inr ⟨go, fun H' => Wn (i + 1) H', fun H' w => ⟨xs.length - (i + 1), by omega, rfl, w⟩, fun v H3 hy3 => ?_⟩
        obtain ⟨H03, f3, g3, rx⟩ := yld v H3 hy3
        have s3 : SR C.K C.T H03 H3 (wipe σ vs) e := sr.grown f3 g3
        have d31 : H3 D = some (.lst acc) := f3.fr D _ d1 (fun z => z) fun _ z => by cases z
        have d32 : H03 D = none := f3.nw D (nw_lst d1) (fun z => z) d2
        have st3 : Stp (wipe σ vs) (wipeE en1 vs) H01 H1 (wipe σ vs) e H03 H3 := st.trans f3.stp
        have pp : Post C (NewL C.K σ H) H0 H σ en Q ((lift (g xs[i] e) >>= fun e1 => lift (tst e1) >>= fun p => if p.1 then lift (el p.2) >>= fun q => lcLoop ws (wipeE en1 vs) vs g tst el (xs.drop (i + 1)) (wipeE q.2 vs) >>= fun r => .ok (q.1 :: r.1, r.2) else lcLoop ws (wipeE en1 vs) vs g tst el (xs.drop (i + 1)) (wipeE p.2 vs)) >>= fun q => .ok (ys ++ q.1, restE en1 q.2 vs)) := pp
        refine ⟨H03, e, xs[i], s3, rx, ?_⟩
        cases eg : g xs[i] e with
        | exc n => rw [eg] at pp; exact pp.elim
        | bad => rw [eg] at pp; exact pp.elim
        | ok e1 =>
          rw [eg] at pp
          intro σ2 hl2 hk2 st2 sr2
          have hw : wipe σ2 vs = wipe σ vs := by
            rw [wipe_eq (vs := vs) (wipe σ vs) σ2 hl2 fun j hjv => hk2 j fun z => hjv (hj j z)]
            exact wipe_wipe σ
          refine ⟨hw, ?_⟩
          have stA := st3.trans st2
          have noA : ¬ OwnA σ2 e1 D := fun z => (st2.ow D z).elim no fun z => nw_lst d31 z
          have pp : Post C (NewL C.K σ H) H0 H σ en Q ((lift (tst e1) >>= fun p => if p.1 then lift (el p.2) >>= fun q => lcLoop ws (wipeE en1 vs) vs g tst el (xs.drop (i + 1)) (wipeE q.2 vs) >>= fun r => .ok (q.1 :: r.1, r.2) else lcLoop ws (wipeE en1 vs) vs g tst el (xs.drop (i + 1)) (wipeE p.2 vs)) >>= fun q => .ok (ys ++ q.1, restE en1 q.2 vs)) := pp
          refine ⟨H03, e1, sr2, ?_⟩
          cases et : tst e1 with
          | exc n => rw [et] at pp; exact pp.elim
          | bad => rw [et] at pp; exact pp.elim
          | ok q =>
            obtain ⟨b, e2⟩ := q
            rw [et] at pp
            intro H0b Hb stb srb
            have stB := stA.trans stb
            have db1 : Hb D = some (.lst acc) := stb.fm.fr D _ d31 noA fun _ z => by cases z
            have db2 : H0b D = none := stb.fm.nw D (nw_lst d31) noA d32
            have noB : ¬ OwnA σ2 e2 D := fun z => (stb.ow D z).elim noA fun z => nw_lst d31 z
            cases b with
            | false =>
              have pp : Post C (NewL C.K σ H) H0 H σ en Q (lcLoop ws (wipeE en1 vs) vs g tst el (xs.drop (i + 1)) (wipeE e2 vs) >>= fun q => .ok (ys ++ q.1, restE en1 q.2 vs)) := pp
              rw [if_neg Bool.false_ne_true]
              have sw := sr_wipe (vs := vs) srb
              have stw := stp_wipe2 (vs := vs) stB iov
              rw [hw] at sw stw
              exact ⟨hlt, H0b, wipeE e2 vs, acc, ys, db1, db2, ra.mono (f3.ex.trans stb.fm.ex), by omega, sw, fun z => noB (own_wipe (vs := vs) (by rw [hw]; exact z)), stw, pp⟩
            | true =>
              have pp : Post C (NewL C.K σ H) H0 H σ en Q ((lift (el e2) >>= fun q => lcLoop ws (wipeE en1 vs) vs g tst el (xs.drop (i + 1)) (wipeE q.2 vs) >>= fun r => .ok (q.1 :: r.1, r.2)) >>= fun q => .ok (ys ++ q.1, restE en1 q.2 vs)) := pp
              rw [if_pos rfl]
              refine ⟨H0b, e2, srb, ?_⟩
              cases ee : el e2 with
              | exc n => rw [ee] at pp; exact pp.elim
              | bad => rw [ee] at pp; exact pp.elim
              | ok q =>
                obtain ⟨y, e3⟩ := q
                rw [ee] at pp
                intro H0c Hc yv stc src ry
                have stC := stB.trans stc
                have dc1 : Hc D = some (.lst acc) := stc.fm.fr D _ db1 noB fun _ z => by cases z
                have dc2 : H0c D = none := stc.fm.nw D (nw_lst db1) noB db2
                have noC : ¬ OwnA σ2 e3 D := fun z => (stc.ow D z).elim noB fun z => nw_lst db1 z
                refine ⟨acc, dc1, Nat.lt_of_le_of_lt (Nat.le_of_eq ra.length) (sz_lt (by omega)), hlt, H0c, wipeE e3 vs, acc ++ [yv], ys ++ [y], upd_same, dc2, (ra.mono ((f3.ex.trans stb.fm.ex).trans stc.fm.ex)).append (.cons ry .nil), by rw [List.length_append]; exact Nat.succ_le_succ hy, ?_, ?_, ?_, ?_⟩
                · have sw := sr_wipe (vs := vs) (src.side (o := .lst (acc ++ [yv])) dc2 (.inr ⟨_, dc1⟩) noC)
                  rw [hw] at sw
                  exact sw
                · exact fun z => noC (own_wipe (vs := vs) (by rw [hw]; exact z))
                · have stw := (stp_wipe2 (vs := vs) stC iov).side (p := D) (o := .lst (acc ++ [yv])) hD
                  rw [hw] at stw
                  exact stw
                · revert pp
                  show Post C (NewL C.K σ H) H0 H σ en Q ((lcLoop ws (wipeE en1 vs) vs g tst el (xs.drop (i + 1)) (wipeE e3 vs) >>= fun r => .ok (y :: r.1, r.2)) >>= fun q => .ok (ys ++ q.1, restE en1 q.2 vs)) → _
                  cases lcLoop ws (wipeE en1 vs) vs g tst el (xs.drop (i + 1)) (wipeE e3 vs) with
                  | ok r =>
                    intro pp
                    have pp : Post C (NewL C.K σ H) H0 H σ en Q (.ok (ys ++ (y :: r.1), restE en1 r.2 vs)) := pp
                    rw [List.append_cons] at pp
                    exact pp
                  | exc n => exact fun pp => pp
                  | bad => exact fun pp => pp
theorem dn_lc {elt tg iter : Expr} {ifs : List Expr} {scope : Scope} {own : List (Str × Nat)} {pos : Pos} {it : Sem' Its'} {js : List Nat} {g : PyData → En → R En} {tst : Sem' Bool} {el : Sem' PyData} (hc : X.calm = true) (hN : X.N.Nodup) (hi : PI X tg iter (tI C it)) (ok : BlkOk X.N X.env.scope scope own)
    (hg : ∀ (s : Shared) (H : Hp) (a : Addr) (cl : List (Str × Addr)) (fp : List Addr), PG (X.blk s H scope (compEnvC scope cl a X.env) fp) tg (gD C.non js g)) (ht : ∀ (s : Shared) (H : Hp) (a : Addr) (cl : List (Str × Addr)) (fp : List Addr), PTs (X.blk s H scope (compEnvC scope cl a X.env) fp) ifs (tT C.non tst))
    (he : ∀ (s : Shared) (H : Hp) (a : Addr) (cl : List (Str × Addr)) (fp : List Addr), PE (X.blk s H scope (compEnvC scope cl a X.env) fp) elt (tE C.non el)) (hj : ∀ j ∈ js, j ∈ own.map (·.2)) (hs : ∀ x, foldedSetIterable iter X.env x = pure x := by intro _; rfl) :
    PE X (.ListComp elt [⟨tg, iter, ifs, 0⟩] scope pos) (tN C (dLc it (own.map (·.2)) g tst el)) := (pe_lc hc hN hi ok hg ht he hs).imp (lc_tn hj)
end
end PD
end
section
namespace PD
open PySem PySem.Spec PyProof.Rows L2 Evl

/-! ### statements -/
inductive Rv where
  | dat (d : PyData)
  | new (ds : List PyData)
inductive RS where
  | next (en : En)
  | ret (r : Rv) (en : En)
  | brk (en : En)
  | cont (en : En)
  | exc (n : Nat)
  | bad
abbrev SemS := En → RS
def RvR (K : PySem.W.Frag) (σ : L2.St) (Hs : Hp) (en' : En) (H0' H' : Hp) (v : V) : Rv → Prop
  | .dat d => Rp K H0' v d
  | .new ds => NewL K σ Hs en' H0' H' v ds
def PostS (C : Ct) (H0 H : Hp) (σ : L2.St) (en : En) (D : Ends) : RS → Prop
  | .next en' => ∀ H0' H' σ', Stp σ en H0 H σ' en' H0' H' → SR C.K C.T H0' H' σ' en' → D.nx σ' H'
  | .ret r en' => ∀ H0' H' σ' v, Stp σ en H0 H σ' en' H0' H' → SR C.K C.T H0' H' σ' en' → RvR C.K σ' H en' H0' H' v r → D.rt v H'
  | .brk en' => ∀ H0' H' σ', Stp σ en H0 H σ' en' H0' H' → SR C.K C.T H0' H' σ' en' → D.bk σ' H'
  | .cont en' => ∀ H0' H' σ', Stp σ en H0 H σ' en' H0' H' → SR C.K C.T H0' H' σ' en' → D.ct σ' H'
  | .exc n => C.err (OwnA σ en) H0 H n
  | .bad => False
def tS (C : Ct) (S : SemS) : TS := fun D σ H => ∃ H0 en, SR C.K C.T H0 H σ en ∧ PostS C H0 H σ en D (S en)
def ofR {α : Type} (x : R α) (f : α → RS) : RS := match x with
  | .ok a => f a
  | .exc n => .exc n
  | .bad => .bad
@[simp] theorem ofR_ok {α : Type} (a : α) (f : α → RS) : ofR (.ok a) f = f a := rfl
@[simp] theorem ofR_exc {α : Type} (n : Nat) (f : α → RS) : ofR (.exc n) f = .exc n := rfl
@[simp] theorem ofR_bad {α : Type} (f : α → RS) : ofR .bad f = .bad := rfl
def sNext : SemS := fun en => .next en
def sThen (x : RS) (f : SemS) : RS := match x with
  | .next en => f en
  | y => y
def sSeq (S T : SemS) : SemS := fun en => sThen (S en) T
def sAsg (F : Sem' PyData) (g : PyData → En → R En) : SemS := fun en => ofR (F en) fun p => ofR (lift (g p.1 p.2)) fun e => .next e
/-- a new list that slot i alone holds -/
def sOwn (F : Sem' (List PyData)) (i : Nat) : SemS := fun en => ofR (F en) fun p => if ioAt p.2 i then .bad else .next (p.2.set i (.own false p.1))
def sDrop (F : Sem' PyData) : SemS := fun en => ofR (F en) fun p => .next p.2
def sRet (F : Sem' PyData) : SemS := fun en => ofR (F en) fun p => .ret (.dat p.1) p.2
def sRetN : SemS := fun en => .ret (.dat .none) en
def sRetL (F : Sem' (List PyData)) : SemS := fun en => ofR (F en) fun p => .ret (.new p.1) p.2
def sIf (T : Sem' Bool) (S U : SemS) : SemS := fun en => ofR (T en) fun p => if p.1 then S p.2 else U p.2
def sBrk : SemS := fun en => .brk en
def sCont : SemS := fun en => .cont en
def sExc (n : Nat) : SemS := fun _ => .exc n
def forLoop (g : PyData → En → R En) (S : SemS) : List PyData → En → RS
  | [], e => .next e
  | x :: xs, e => ofR (lift (g x e)) fun e1 => match S e1 with
    | .next e2 => forLoop g S xs e2
    | .cont e2 => forLoop g S xs e2
    | .brk e2 => .next e2
    | y => y
def sFor (it : Sem' Its') (g : PyData → En → R En) (S : SemS) : SemS := fun en => ofR (it en) fun p => if p.1.2.isEmpty = true then forLoop g S p.1.1 p.2 else .bad
def whLoop (T : Sem' Bool) (S : SemS) : Nat → En → RS
  | 0, _ => .bad
  | n + 1, e => ofR (T e) fun p => if p.1 then match S p.2 with
    | .next e2 => whLoop T S n e2
    | .cont e2 => whLoop T S n e2
    | .brk e2 => .next e2
    | y => y
    else .next p.2
def sWhile (n : En → Nat) (T : Sem' Bool) (S : SemS) : SemS := fun en => whLoop T S (n en) en

section
variable {C : Ct} {X : Cx} {H0 H H0' H' H01 H1 : Hp} {σ σ' : L2.St} {en en' en1 e : En} {a b c tg : Expr} {pos : Pos} {D : Ends}
/-- a later start of the same -/
theorem postS_at {D' : Ends} {r : RS} (h : PostS C H0 H σ en D r) (st : Stp σ en H0 H σ' en' H0' H') (hn : D'.nx = D.nx) (hr : D'.rt = D.rt) (hb : D'.bk = D.bk) (hc : D'.ct = D.ct) : PostS C H0' H' σ' en' D' r := by
  cases r with
  | next e => exact fun a b c st2 sr => by rw [hn]; exact h a b c (st.trans st2) sr
  | brk e => exact fun a b c st2 sr => by rw [hb]; exact h a b c (st.trans st2) sr
  | cont e => exact fun a b c st2 sr => by rw [hc]; exact h a b c (st.trans st2) sr
  | ret r e =>
      intro a b c v st2 sr rr
      rw [hr]
      refine h a b c v (st.trans st2) sr ?_
      cases r with
      | dat d => exact rr
      | new ds =>
        obtain ⟨p, vs, e1, e2, e3⟩ := rr
        exact ⟨p, vs, e1, st.fm.kp p e2, e3⟩
  | exc n => exact Ct.err_at h st.fm st.ow
  | bad => exact h
theorem postS_bind {α : Type} {rel : En → Hp → Hp → V → α → Prop} {Q : VK} {x : R (α × En)} {f : α → En → RS}
    (h : PostS C H0 H σ en D (ofR x fun p => f p.1 p.2))
    (k : ∀ a en1 H01 H1 v, x = .ok (a, en1) → Stp σ en H0 H σ en1 H01 H1 → SR C.K C.T H01 H1 σ en1 → rel en1 H01 H1 v a → PostS C H01 H1 σ en1 D (f a en1) → Q v H1) : Post C rel H0 H σ en Q x := by
  cases x with
  | ok p =>
    obtain ⟨a, en1⟩ := p
    intro H01 H1 v st sr r
    exact k a en1 H01 H1 v rfl st sr r (postS_at (h : PostS C H0 H σ en D (f a en1)) st rfl rfl rfl rfl)
  | exc n => exact h
  | bad => exact h.elim
theorem postS_bindB {Q : Bool → Hp → Prop} {x : R (Bool × En)} {f : Bool → En → RS}
    (h : PostS C H0 H σ en D (ofR x fun p => f p.1 p.2))
    (k : ∀ a en1 H01 H1, x = .ok (a, en1) → Stp σ en H0 H σ en1 H01 H1 → SR C.K C.T H01 H1 σ en1 → PostS C H01 H1 σ en1 D (f a en1) → Q a H1) : PostB C H0 H σ en Q x := by
  cases x with
  | ok p =>
    obtain ⟨a, en1⟩ := p
    intro H01 H1 st sr
    exact k a en1 H01 H1 rfl st sr (postS_at (h : PostS C H0 H σ en D (f a en1)) st rfl rfl rfl rfl)
  | exc n => exact h
  | bad => exact h.elim
theorem ds_nil : PSs X [] (tS C sNext) := pss_nil.imp fun D σ H ⟨H0, en, s, p⟩ => p H0 H σ Stp.refl s
theorem ds_pass : PS X (.Pass pos) (tS C sNext) := ps_pass.imp fun D σ H ⟨H0, en, s, p⟩ => p H0 H σ Stp.refl s
theorem ds_break : PS X (.Break pos) (tS C sBrk) := ps_break.imp fun D σ H ⟨H0, en, s, p⟩ => p H0 H σ Stp.refl s
theorem ds_continue : PS X (.Continue pos) (tS C sCont) := ps_continue.imp fun D σ H ⟨H0, en, s, p⟩ => p H0 H σ Stp.refl s
theorem ds_one {st : Stmt} {S : SemS} (h : PS X st (tS C S)) : PSs X [st] (tS C S) := pss_one h
/-- what follows a step -/
theorem postS_seq {r : RS} {T : SemS} (p : PostS C H0 H σ en D (sThen r T)) : PostS C H0 H σ en { D with nx := tS C T D } r := by
  cases r with
  | next e => exact fun H0' H' σ' st sr => ⟨H0', e, sr, postS_at (p : PostS C H0 H σ en D (T e)) st rfl rfl rfl rfl⟩
  | _ => exact p
theorem ds_cons {st : Stmt} {rest : List Stmt} {S T : SemS} (h1 : PS X st (tS C S)) (h2 : PSs X rest (tS C T)) : PSs X (st :: rest) (tS C (sSeq S T)) :=
  (pss_cons h1 h2).imp fun D σ H ⟨H0, en, s, p⟩ => ⟨H0, en, s, postS_seq p⟩
theorem asg_go {F : Sem' PyData} {js : List Nat} {g : PyData → En → R En} (s : SR C.K C.T H0 H σ en) (p : PostS C H0 H σ en D (sAsg F g en)) : tAsg (tE C F) (gD C js g) D σ H :=
  ⟨H0, en, s, postS_bind (f := fun d e => ofR (lift (g d e)) fun e => .next e) (D := D) p fun d en1 H01 H1 v _ st sr r p1 => ⟨H01, en1, d, sr, r, by
    cases eg : g d en1 with
    | ok e2 =>
      rw [eg] at p1
      exact fun σ' hl hk st2 sr2 => p1 H01 H1 σ' st2 sr2
    | exc n => rw [eg] at p1; exact p1.elim
    | bad => rw [eg] at p1; exact p1.elim⟩⟩
/-- target = e -/
theorem ds_asg {F : Sem' PyData} {js : List Nat} {g : PyData → En → R En} (he : PE X a (tE C F)) (hg : PG X tg (gD C js g)) (hs : swapsWithSole [tg] a pos.line X.env = pure false := by rfl) (hw : swappedStores [tg] a X.env = pure none := by rfl)
    (h1 : (assignEach [tg] X.env).map (·.2) = [assign tg X.env] := by rfl) : PS X (.Assign [tg] a pos) (tS C (sAsg F g)) :=
  (ps_asg he hg hs hw h1).imp fun D σ H ⟨H0, en, s, p⟩ => asg_go s p
theorem setN_go {F : Sem' PyData} {i : Nat} (s : SR C.K C.T H0 H σ en) (p : PostS C H0 H σ en D (sAsg F (tgN i) en)) : tAsg (tE C F) (gName i) D σ H :=
  ⟨H0, en, s, postS_bind (f := fun d e => ofR (lift (tgN i d e)) fun e => .next e) (D := D) p fun d en1 H01 H1 v _ st sr r p1 => by
    unfold tgN at p1
    split at p1
    · exact p1.elim
    · rename_i hi
      exact p1 H01 H1 _ (set_stp (by simpa using hi)) (set_sr sr r)⟩
/-- name = e -/
theorem ds_set {F : Sem' PyData} {i : Nat} {x : Str} {pos' : Pos} (hN : X.N.Nodup) (hi : X.N[i]? = some x) (hx : Loc X.env.scope x) (he : PE X a (tE C F)) (hs : swapsWith a (some (.Name x pos')) pos.line X.env = pure false := by rfl) (hf : X.fn x = true ∨ X.env.scope.names.lookup x = some .local := by first | exact .inl rfl | exact .inr rfl | assumption) :
    PS X (.Assign [.Name x pos'] a pos) (tS C (sAsg F (tgN i))) :=
  (ps_set hN hi hx he hs hf).imp fun D σ H ⟨H0, en, s, p⟩ => setN_go s p
theorem own_sr {i : Nat} {p : Addr} {ws : List V} {ds : List PyData} (s : SR C.K C.T H0 H σ en) (hp : H p = some (.lst ws)) (h0 : H0 p = none) (r : RpAll C.K H0 ws ds) (no : ¬ OwnA σ en p) : SR C.K C.T H0 H (σ.set i (some (.ref p))) (en.set i (.own false ds)) := by
  have at_i : ∀ {y : Sl}, (en.set i (.own false ds))[i]? = some y → i < en.length ∧ y = .own false ds := fun {y} h => by
    have hl : i < en.length := by
      have := (List.getElem?_eq_some_iff.mp h).1
      rwa [List.length_set] at this
    rw [List.getElem?_set_self hl] at h
    exact ⟨hl, (Option.some.inj h).symm⟩
  refine ⟨by rw [List.length_set, List.length_set]; exact s.len, s.ex, s.tb, s.nt, fun j d h => ?_, fun j io es h => ?_, fun j k io es jo fs q n h1 h2 e1 => ?_⟩
  · by_cases z : i = j
    · subst z
      cases (at_i h).2
    · rw [List.getElem?_set_ne z] at h ⊢
      exact s.dat j d h
  · by_cases z : i = j
    · subst z
      obtain ⟨hl, e⟩ := at_i h
      cases e
      exact ⟨p, ws, by rw [List.getElem?_set_self (by rw [s.len]; exact hl)], hp, h0, r⟩
    · rw [List.getElem?_set_ne z] at h ⊢
      exact s.own j io es h
  · by_cases z : i = j
    · subst z
      obtain ⟨hl, e⟩ := at_i h1
      rw [List.getElem?_set_self (by rw [s.len]; exact hl)] at e1
      cases e1
      rw [List.getElem?_set_ne n] at h2 ⊢
      exact fun e2 => no ⟨k, jo, fs, h2, e2⟩
    · rw [List.getElem?_set_ne z] at h1 e1
      by_cases y : i = k
      · subst y
        obtain ⟨hl, e⟩ := at_i h2
        rw [List.getElem?_set_self (by rw [s.len]; exact hl)]
        intro e2
        cases e2
        exact no ⟨j, io, es, h1, e1⟩
      · rw [List.getElem?_set_ne y] at h2 ⊢
        exact s.sep j k io es jo fs q n h1 h2 e1
theorem own_stp {Hs Hs0 : Hp} {i : Nat} {p : Addr} {ds : List PyData} (st : Stp σ en1 Hs0 Hs σ en H0 H) (hs : Nw Hs p) (hi : ioAt en i = false) : Stp σ en1 Hs0 Hs (σ.set i (some (.ref p))) (en.set i (.own false ds)) H0 H where
  fm := st.fm
  ow := fun q ⟨j, io, es, h1, h2⟩ => by
    by_cases z : i = j
    · subst z
      have hl : i < σ.length := by
        have := (List.getElem?_eq_some_iff.mp h2).1
        rwa [List.length_set] at this
      rw [List.getElem?_set_self hl] at h2
      cases h2
      exact .inr hs
    · rw [List.getElem?_set_ne z] at h1 h2
      exact st.ow q ⟨j, io, es, h1, h2⟩
  io := fun j es h => by
    obtain ⟨e1, ds', h'⟩ := st.io j es h
    have z : i ≠ j := fun z => by subst z; exact ioAt_no hi h'
    rw [List.getElem?_set_ne z, List.getElem?_set_ne z]
    exact ⟨rfl, ds', h'⟩
theorem own_go {F : Sem' (List PyData)} {i : Nat} (s : SR C.K C.T H0 H σ en) (p : PostS C H0 H σ en D (sOwn F i en)) : tAsg (tN C F) (gName i) D σ H := by
  refine ⟨H0, en, s, ?_⟩
  unfold sOwn at p
  cases e : F en with
  | exc n => rw [e] at p; exact p
  | bad => rw [e] at p; exact p.elim
  | ok q =>
    obtain ⟨ds, e1⟩ := q
    rw [e] at p
    intro H01 H1 v st sr ⟨q, ws, ev, hn, hq, h0, r, no⟩
    subst ev
    have p : PostS C H0 H σ en D (if ioAt e1 i then .bad else .next (e1.set i (.own false ds))) := p
    split at p
    · exact p.elim
    · rename_i hi
      exact p H01 H1 _ (own_stp st hn (by simpa using hi)) (own_sr sr hq h0 r no)
/-- name = a new list that is changed later -/
theorem ds_own {F : Sem' (List PyData)} {i : Nat} {x : Str} {pos' : Pos} (hN : X.N.Nodup) (hi : X.N[i]? = some x) (hx : Loc X.env.scope x) (he : PE X a (tN C F)) (hs : swapsWith a (some (.Name x pos')) pos.line X.env = pure false := by rfl) (hf : X.fn x = true ∨ X.env.scope.names.lookup x = some .local := by first | exact .inl rfl | exact .inr rfl | assumption) :
    PS X (.Assign [.Name x pos'] a pos) (tS C (sOwn F i)) :=
  (ps_set hN hi hx he hs hf).imp fun D σ H ⟨H0, en, s, p⟩ => own_go s p
theorem ds_expr {F : Sem' PyData} (he : PE X a (tE C F)) (hs : swapsWith a none pos.line X.env = pure false := by rfl) : PS X (.Expr a pos) (tS C (sDrop F)) :=
  (ps_expr he hs).imp fun D σ H ⟨H0, en, s, p⟩ => ⟨H0, en, s, postS_bind (f := fun _ e => .next e) (D := D) p fun d en1 H01 H1 v _ st sr r p1 => p1 H01 H1 σ Stp.refl sr⟩
theorem ds_doc {x : Str} {j : Nat} {pos' : Pos} : PS X (.Expr (.Constant (.str x) j pos) pos') (tS C sNext) := ps_doc.imp fun D σ H ⟨H0, en, s, p⟩ => p H0 H σ Stp.refl s
theorem ds_ret {F : Sem' PyData} (he : PE X a (tE C F)) : PS X (.Return (some a) pos) (tS C (sRet F)) :=
  (ps_ret he).imp fun D σ H ⟨H0, en, s, p⟩ => ⟨H0, en, s, postS_bind (f := fun d e => .ret (.dat d) e) (D := D) p fun d en1 H01 H1 v _ st sr r p1 => p1 H01 H1 σ v Stp.refl sr r⟩
theorem ds_retL {F : Sem' (List PyData)} (he : PE X a (tN C F)) : PS X (.Return (some a) pos) (tS C (sRetL F)) :=
  (ps_ret he).imp fun D σ H ⟨H0, en, s, p⟩ => ⟨H0, en, s, by
    unfold sRetL at p
    cases e : F en with
    | exc n => rw [e] at p; exact p
    | bad => rw [e] at p; exact p.elim
    | ok q =>
      rw [e] at p
      exact fun H01 H1 v st sr r => p H01 H1 σ v st sr r⟩
theorem ds_retN : PS X (.Return none pos) (tS C sRetN) := ps_retN.imp fun D σ H ⟨H0, en, s, p⟩ => p H0 H σ .non Stp.refl s .non
theorem ds_if {T : Sem' Bool} {S U : SemS} {x y : List Stmt} (hc : PT X c (tT C T)) (ha : PSs X x (tS C S)) (hb : PSs X y (tS C U)) : PS X (.If c x y pos) (tS C (sIf T S U)) :=
  (ps_if hc ha hb).imp fun D σ H ⟨H0, en, s, p⟩ => ⟨H0, en, s, postS_bindB (f := fun b e => if b then S e else U e) (D := D) p fun b en1 H01 H1 _ st sr p1 => by
    cases b with
    | true => rw [if_pos rfl]; exact ⟨H01, en1, sr, p1⟩
    | false => rw [if_neg Bool.false_ne_true]; exact ⟨H01, en1, sr, p1⟩⟩
theorem ds_for {iter : Expr} {body : List Stmt} {it : Sem' Its'} {js : List Nat} {g : PyData → En → R En} {S : SemS} (hp : PassesOwn (model X.prog X.w) X.A X.env X.xe) (hc : X.calm = true) (hi : PI X tg iter (tI C it)) (hg : PG X tg (gD C js g)) (hb : PSs X body (tS C S))
    (hs : ∀ x, foldedSetIterable iter X.env x = pure x := by intro _; rfl) : PS X (.For tg iter body [] pos) (tS C (sFor it g S)) :=
  (ps_for hp hc hi hg hb hs).imp fun D σ H ⟨H0, en, s, p⟩ => by
    refine ⟨H0, en, s, ?_⟩
    unfold sFor at p
    cases e0 : it en with
    | exc n => rw [e0] at p; exact p
    | bad => rw [e0] at p; exact p.elim
    | ok q =>
      obtain ⟨⟨xs, ws⟩, en1⟩ := q
      rw [e0] at p
      have p : PostS C H0 H σ en D (if ws.isEmpty = true then forLoop g S xs en1 else .bad) := p
      split at p
      case isFalse => exact p.elim
      rename_i hws
      have hws : ws = [] := by simpa using hws
      subst hws
      intro H01 H1 J P st0 s1 hJ hP
      have hJ : ItD C J xs P := hJ
      have toP : ∀ (H0' H' : Hp) (σ' : L2.St) (e : En), Ex H01 H0' → SR C.K C.T H0' H' σ' e → P H0' H' := fun H0' H' σ' e x s' => hP H0' H' σ' e x s' fun i hi => by cases hi
      have p := postS_at (D' := D) p st0 rfl rfl rfl rfl
      let Wn : Nat → L2.St → Hp → Prop := fun i σ' H' => i ≤ xs.length ∧ ∃ H0' e, Ex H01 H0' ∧ SR C.K C.T H0' H' σ' e ∧ PostS C H0' H' σ' e D (forLoop g S (xs.drop i) e)
      refine ⟨fun i m σ' H' => m = xs.length - i ∧ Wn i σ' H', ⟨xs.length, rfl, Nat.zero_le _, H01, en1, Ex.refl _, s1, p⟩, ?_⟩
      rintro i m σ' H' ⟨rfl, hi, H0', e, hx, sr, pp⟩
      by_cases hlt : i < xs.length
      case neg =>
        have ei : i = xs.length := by omega
        subst ei
        refine .inl ⟨hJ.stop H0' H' (toP H0' H' σ' e hx sr) sr.good, ?_⟩
        rw [List.drop_length] at pp
        exact pp H0' H' σ' Stp.refl sr
      case pos =>
        obtain ⟨go, yld⟩ := hJ.go H0' H' i xs[i] (toP H0' H' σ' e hx sr) sr.good (List.getElem?_eq_getElem hlt)
        refine .inr ⟨go, fun σ' H' => Wn (i + 1) σ' H', fun σ' H' w => ⟨xs.length - (i + 1), by omega, rfl, w⟩, fun v H3 hy3 => ?_⟩
        obtain ⟨H03, f3, g3, rx⟩ := yld v H3 hy3
        rw [List.drop_eq_getElem_cons hlt] at pp
        have pp := postS_at (D' := D) pp (f3.stp (σ := σ') (en := e)) rfl rfl rfl rfl
        have pp : PostS C H03 H3 σ' e D (ofR (lift (g xs[i] e)) fun e1 => match S e1 with
          | .next e2 => forLoop g S (xs.drop (i + 1)) e2
          | .cont e2 => forLoop g S (xs.drop (i + 1)) e2
          | .brk e2 => .next e2
          | y => y) := pp
        refine ⟨H03, e, xs[i], sr.grown f3 g3, rx, ?_⟩
        cases eg : g xs[i] e with
        | exc n => rw [eg] at pp; exact pp.elim
        | bad => rw [eg] at pp; exact pp.elim
        | ok e1 =>
          rw [eg] at pp
          intro σ2 hl2 hk2 st2 sr2
          have pp := postS_at (D' := D) pp st2 rfl rfl rfl rfl
          have pp : PostS C H03 H3 σ2 e1 D (match S e1 with
            | .next e2 => forLoop g S (xs.drop (i + 1)) e2
            | .cont e2 => forLoop g S (xs.drop (i + 1)) e2
            | .brk e2 => .next e2
            | y => y) := pp
          refine ⟨H03, e1, sr2, ?_⟩
          cases es : S e1 with
          | next e2 =>
            rw [es] at pp
            exact fun H0b Hb σb st sr => ⟨hlt, H0b, e2, (hx.trans f3.ex).trans st.fm.ex, sr, postS_at pp st rfl rfl rfl rfl⟩
          | cont e2 =>
            rw [es] at pp
            exact fun H0b Hb σb st sr => ⟨hlt, H0b, e2, (hx.trans f3.ex).trans st.fm.ex, sr, postS_at pp st rfl rfl rfl rfl⟩
          | brk e2 =>
            rw [es] at pp
            exact fun H0b Hb σb st sr => pp H0b Hb σb st sr
          | ret r e2 => rw [es] at pp; exact pp
          | exc n => rw [es] at pp; exact pp
          | bad => rw [es] at pp; exact pp
theorem ds_while {body : List Stmt} {T : Sem' Bool} {S : SemS} (n : En → Nat) (hp : PassesOwn (model X.prog X.w) X.A X.env X.xe) (hc : PT X c (tT C T)) (hb : PSs X body (tS C S)) : PS X (.While c body [] pos) (tS C (sWhile n T S)) :=
  (ps_while hp hc hb).imp fun D σ H ⟨H0, en, s, p⟩ => by
    refine ⟨fun m σ' H' => ∃ H0' e, SR C.K C.T H0' H' σ' e ∧ PostS C H0' H' σ' e D (whLoop T S m e), ⟨n en, H0, en, s, p⟩, ?_⟩
    rintro m σ' H' ⟨H0', e, sr, pp⟩
    cases m with
    | zero => exact pp.elim
    | succ m =>
      refine ⟨H0', e, sr, ?_⟩
      have pp : PostS C H0' H' σ' e D (ofR (T e) fun p => if p.1 then match S p.2 with
        | .next e2 => whLoop T S m e2
        | .cont e2 => whLoop T S m e2
        | .brk e2 => .next e2
        | y => y
        else .next p.2) := pp
      refine postS_bindB (f := fun b e => if b then match S e with
        | .next e2 => whLoop T S m e2
        | .cont e2 => whLoop T S m e2
        | .brk e2 => .next e2
        | y => y
        else .next e) (D := D) pp fun b e1 H01 H1 _ st s1 p1 => ?_
      cases b with
      | false =>
        rw [if_neg Bool.false_ne_true]
        exact p1 H01 H1 σ' Stp.refl s1
      | true =>
        rw [if_pos rfl]
        have p1 : PostS C H01 H1 σ' e1 D (match S e1 with
          | .next e2 => whLoop T S m e2
          | .cont e2 => whLoop T S m e2
          | .brk e2 => .next e2
          | y => y) := p1
        refine ⟨fun σ2 H2 => ∃ H0' e, SR C.K C.T H0' H2 σ2 e ∧ PostS C H0' H2 σ2 e D (whLoop T S m e), fun σ2 H2 w => ⟨m, Nat.lt_succ_self m, w⟩, H01, e1, s1, ?_⟩
        cases es : S e1 with
        | next e2 =>
          rw [es] at p1
          exact fun H0b Hb σb st sr => ⟨H0b, e2, sr, postS_at p1 st rfl rfl rfl rfl⟩
        | cont e2 =>
          rw [es] at p1
          exact fun H0b Hb σb st sr => ⟨H0b, e2, sr, postS_at p1 st rfl rfl rfl rfl⟩
        | brk e2 =>
          rw [es] at p1
          exact fun H0b Hb σb st sr => p1 H0b Hb σb st sr
        | ret r e2 => rw [es] at p1; exact p1
        | exc n => rw [es] at p1; exact p1
        | bad => rw [es] at p1; exact p1
end
end PD
end
section
namespace PD
open PySem PySem.Spec PyProof.Rows L2 Evl

/-! ### defs -/
abbrev Fn := List Sl → R (Rv × List Sl)
def spD (K : PySem.W.Frag) (T : List (Addr × Str)) (ca : Nat → Addr) (n : Nat) (f : Fn) : Sp := fun vs H Q E => vs.length = n ∧ ∃ H0 args, SR K T H0 H (vs.map some) args ∧ (∀ (i : Nat) (ds : List PyData), args[i]? ≠ some (.own false ds)) ∧
  match f args with
  | .ok (r, args') => ∀ H0' H' v, Stp (vs.map some) args H0 H (vs.map some) args' H0' H' → SR K T H0' H' (vs.map some) args' → RvR K (vs.map some) H args' H0' H' v r → Q v H'
  | .exc m => Ct.err ⟨K, T, ca, E⟩ (OwnA (vs.map some) args) H0 H m
  | .bad => False
def backArgs : List Sl → En → List Sl
  | [], _ => []
  | a :: as, e => (match a with
    | .own true _ => e.headD .no
    | a => a) :: backArgs as e.tail
def runF (m : Nat) (B : SemS) : Fn := fun args => match B (args ++ List.replicate (m - args.length) .no) with
  | .ret r e => .ok (r, backArgs args e)
  | .next e => .ok (.dat .none, backArgs args e)
  | .exc n => .exc n
  | _ => .bad
section
variable {K : PySem.W.Frag} {T : List (Addr × Str)} {ca : Nat → Addr} {H0 H H0' H' : Hp} {σ σ' : L2.St} {en en' e : En}
theorem backArgs_length : ∀ (as : List Sl) (e : En), (backArgs as e).length = as.length
  | [], _ => rfl
  | a :: as, e => by unfold backArgs; rw [List.length_cons, List.length_cons, backArgs_length as e.tail]
theorem back_dat : ∀ (as : List Sl) (e : En) (i : Nat), (∀ ds, as[i]? ≠ some (.own true ds)) → (backArgs as e)[i]? = as[i]?
  | [], _, i, _ => rfl
  | a :: as, e, 0, h => by
    unfold backArgs
    cases a with
    | own io ds =>
      cases io with
      | true => exact absurd rfl (h ds)
      | false => rfl
    | _ => rfl
  | a :: as, e, i + 1, h => by
    unfold backArgs
    have := back_dat as e.tail i (by simpa using h)
    simpa using this
theorem back_own : ∀ (as : List Sl) (e : En) (i : Nat) (ds : List PyData) (y : Sl), as[i]? = some (.own true ds) → e[i]? = some y → (backArgs as e)[i]? = some y
  | [], _, i, _, _, h, _ => by simp at h
  | a :: as, e, 0, ds, y, h, hy => by
    have h : a = .own true ds := Option.some.inj h
    subst h
    unfold backArgs
    cases e with
    | nil => simp at hy
    | cons z r => simpa using hy
  | a :: as, e, i + 1, ds, y, h, hy => by
    unfold backArgs
    have := back_own as e.tail i ds y (by simpa using h) (by cases e with
      | nil => simp at hy
      | cons z r => simpa using hy)
    simpa using this
theorem start_get {N : List Str} {vs : List V} {i : Nat} (h : i < vs.length) : (start N vs)[i]? = (vs.map some)[i]? := by
  unfold L2.start
  rw [List.getElem?_append_left (by rw [List.length_map]; exact h)]
theorem pad_get {as : List Sl} {m i : Nat} {y : Sl} (h : (as ++ List.replicate m .no)[i]? = some y) (hy : y ≠ .no) : as[i]? = some y := by
  by_cases hl : i < as.length
  · rwa [List.getElem?_append_left hl] at h
  · rw [List.getElem?_append_right (by omega)] at h
    have := List.mem_of_getElem? h
    exact absurd (List.eq_of_mem_replicate this) hy
theorem sr_pad {N : List Str} {vs : List V} {args : List Sl} (s : SR K T H0 H (vs.map some) args) (hl : vs.length ≤ N.length) : SR K T H0 H (start N vs) (args ++ List.replicate (N.length - args.length) .no) := by
  have hlen : vs.length = args.length := by have := s.len; rwa [List.length_map] at this
  have lt : ∀ {i : Nat} {y : Sl}, args[i]? = some y → i < vs.length := fun {i y} h => by rw [hlen]; exact (List.getElem?_eq_some_iff.mp h).1
  refine ⟨?_, s.ex, s.tb, s.nt, fun i d h => ?_, fun i io ds h => ?_, fun i j io ds jo es p n h1 h2 e1 => ?_⟩
  · unfold L2.start
    rw [List.length_append, List.length_append, List.length_map, List.length_replicate, List.length_replicate, hlen]
  · have h := pad_get h (fun z => by cases z)
    rw [start_get (lt h)]
    exact s.dat i d h
  · have h := pad_get h (fun z => by cases z)
    rw [start_get (lt h)]
    exact s.own i io ds h
  · have h1 := pad_get h1 (fun z => by cases z)
    have h2 := pad_get h2 (fun z => by cases z)
    rw [start_get (lt h1)] at e1
    rw [start_get (lt h2)]
    exact s.sep i j io ds jo es p n h1 h2 e1
theorem own_pad {N : List Str} {vs : List V} {args : List Sl} {m : Nat} (hl : vs.length = args.length) {p : Addr} (h : OwnA (start N vs) (args ++ List.replicate m .no) p) : OwnA (vs.map some) args p := by
  obtain ⟨i, io, ds, h1, h2⟩ := h
  have h1 := pad_get h1 (fun z => by cases z)
  rw [start_get (by rw [hl]; exact (List.getElem?_eq_some_iff.mp h1).1)] at h2
  exact ⟨i, io, ds, h1, h2⟩
theorem pad_own {args : List Sl} {m i : Nat} {y : Sl} (h : args[i]? = some y) : (args ++ List.replicate m .no)[i]? = some y := by
  rw [List.getElem?_append_left (List.getElem?_eq_some_iff.mp h).1]; exact h
/-- what a body leaves, told of the arguments -/
theorem back_all {N : List Str} {vs : List V} {args : List Sl} (s : SR K T H0 H (vs.map some) args) (ho : ∀ (i : Nat) (ds : List PyData), args[i]? ≠ some (.own false ds)) (t : Stp (start N vs) (args ++ List.replicate (N.length - args.length) .no) H0 H σ' e H0' H') (sr : SR K T H0' H' σ' e) :
    Stp (vs.map some) args H0 H (vs.map some) (backArgs args e) H0' H' ∧ SR K T H0' H' (vs.map some) (backArgs args e) := by
  have hlen : vs.length = args.length := by have := s.len; rwa [List.length_map] at this
  have key : ∀ {i : Nat} {io : Bool} {ds : List PyData}, (backArgs args e)[i]? = some (.own io ds) → (∃ ds0, args[i]? = some (.own true ds0)) ∧ e[i]? = some (.own io ds) ∧ σ'[i]? = (vs.map some)[i]? := fun {i io ds} h => by
    by_cases z : ∃ ds0, args[i]? = some (.own true ds0)
    · obtain ⟨ds0, z⟩ := z
      obtain ⟨e1, ds1, e2⟩ := t.io i ds0 (pad_own z)
      rw [back_own args e i ds0 _ z e2] at h
      cases h
      rw [start_get (by rw [hlen]; exact (List.getElem?_eq_some_iff.mp z).1)] at e1
      exact ⟨⟨ds0, z⟩, e2, e1⟩
    · rw [back_dat args e i (fun ds0 y => z ⟨ds0, y⟩)] at h
      cases io with
      | true => exact absurd ⟨ds, h⟩ z
      | false => exact absurd h (ho i ds)
  refine ⟨⟨t.fm.weak fun p h => own_pad hlen h, fun p ⟨i, io, ds, h1, h2⟩ => ?_, fun i ds h => ?_⟩, ⟨?_, sr.ex, sr.tb, sr.nt, fun i d h => ?_, fun i io ds h => ?_, fun i j io ds jo es p n h1 h2 e1 => ?_⟩⟩
  · obtain ⟨⟨ds0, z⟩, _, _⟩ := key h1
    exact .inl ⟨i, true, ds0, z, h2⟩
  · obtain ⟨e1, ds1, e2⟩ := t.io i ds (pad_own h)
    exact ⟨rfl, ds1, back_own args e i ds _ h e2⟩
  · rw [backArgs_length]; exact s.len
  · by_cases z : ∃ ds0, args[i]? = some (.own true ds0)
    · obtain ⟨ds0, z⟩ := z
      obtain ⟨e1, ds1, e2⟩ := t.io i ds0 (pad_own z)
      rw [back_own args e i ds0 _ z e2] at h
      cases h
    · rw [back_dat args e i (fun ds0 y => z ⟨ds0, y⟩)] at h
      obtain ⟨v, e1, r⟩ := s.dat i d h
      exact ⟨v, e1, r.mono t.fm.ex⟩
  · obtain ⟨_, e2, e3⟩ := key h
    rw [← e3]
    exact sr.own i io ds e2
  · obtain ⟨⟨d1, z1⟩, _, _⟩ := key h1
    obtain ⟨⟨d2, z2⟩, _, _⟩ := key h2
    exact s.sep i j true d1 true d2 p n z1 z2 e1
/-- the def's promise starts its body -/
theorem run_start {N : List Str} {n : Nat} {vs : List V} {Q : VK} {E : XK} {B : SemS} (h : spD K T ca n (runF N.length B) vs H Q E) (hl : n ≤ N.length) : tS ⟨K, T, ca, E⟩ B { nx := fun _ H' => Q .non H', rt := Q } (start N vs) H := by
  obtain ⟨hn, H0, args, sr, ho, p⟩ := h
  have hlen : vs.length = args.length := by have := sr.len; rwa [List.length_map] at this
  refine ⟨H0, _, sr_pad sr (by omega), ?_⟩
  unfold runF at p
  cases e : B (args ++ List.replicate (N.length - args.length) Sl.no) with
  | next e1 =>
    rw [e] at p
    intro H0' H' σ' t s1
    obtain ⟨a, b⟩ := back_all sr ho t s1
    exact p H0' H' .non a b .non
  | ret r e1 =>
    rw [e] at p
    intro H0' H' σ' v t s1 rr
    obtain ⟨a, b⟩ := back_all sr ho t s1
    refine p H0' H' v a b ?_
    cases r with
    | dat d => exact rr
    | new ds =>
      obtain ⟨q, ws, e1, e2, e3, e4, e5, e6⟩ := rr
      refine ⟨q, ws, e1, e2, e3, e4, e5, fun h => ?_⟩
      rcases a.ow q h with ⟨i, io, es, h1, h2⟩ | _
      · obtain ⟨q', ws', f1, f2, _⟩ := sr.own i io es h1
        rw [h2] at f1
        cases f1
        exact nw_lst f2 e2
      · obtain ⟨i, io, es, h1, h2⟩ := h
        by_cases z : ∃ ds0, args[i]? = some (.own true ds0)
        · obtain ⟨ds0, z⟩ := z
          obtain ⟨q', ws', f1, f2, _⟩ := sr.own i true ds0 z
          rw [h2] at f1
          cases f1
          exact nw_lst f2 e2
        · rw [back_dat args _ i (fun ds0 y => z ⟨ds0, y⟩)] at h1
          cases io with
          | true => exact z ⟨es, h1⟩
          | false => exact ho i es h1
  | exc n =>
    rw [e] at p
    exact Ct.err_at (C := ⟨K, T, ca, E⟩) p Fm.refl fun q h => .inl (own_pad hlen h)
  | brk e1 => rw [e] at p; exact p.elim
  | cont e1 => rw [e] at p; exact p.elim
  | bad => rw [e] at p; exact p.elim
/-- THE RULE for a def: its body's reading over plain data -/
theorem fn_D {P : Program} {w : World} {mg : Str → Option Value} {base : Heap} {x qual : Str} {st : Stmt} {f : Addr} {fd : FuncData} {N ps : List Str} {k : Nat} {B : SemS} (F : Fun K x qual st f fd) (S : FnScope N ps (defScope st)) (hl : ps.length ≤ N.length)
    (hb : ∀ (cdv : Value) (A : Around) (outer : List Env) (s : Shared) (H : Hp) (E : XK), Room k (A.deeper (envOfC qual (defScope st) s.heap.objs.size f cdv)) →
      PSs (cxOf (L2.CX P w) P w K mg base N qual (defScope st) f cdv A outer s H E) (defBody st) (tS ⟨K, T, ca, E⟩ B)) : FnOk P w K mg base (L2.CX P w) (k + 1) f fd ps (spD K T ca ps.length (runF N.length B)) := by
  exact F.okX S (fun vs H Q E h => h.1) fun cdv A outer s H vs Q E hr h => ⟨_, hb cdv A outer s H E hr, run_start h hl⟩
/-- the same, by a nicer function -/
theorem fn_like {P : Program} {w : World} {mg : Str → Option Value} {base : Heap} {CX : CXT} {k n : Nat} {f : Addr} {fd : FuncData} {ps : List Str} {g h : Fn} (F : FnOk P w K mg base CX k f fd ps (spD K T ca n g)) (e : ∀ args, h args ≠ .bad → g args = h args) : FnOk P w K mg base CX k f fd ps (spD K T ca n h) :=
  F.imp fun vs H Q E ⟨hn, H0, args, sr, ho, p⟩ => ⟨hn, H0, args, sr, ho, by
    rw [e args (fun z => by rw [z] at p; exact p)]
    exact p⟩
end

/-! ### calls -/
def argOf (en : En) : Op → R Sl
  | .val d => .ok (.dat d)
  | .own i => match en[i]? with
    | some (.own _ ds) => .ok (.own true ds)
    | _ => .bad
def argsOf (en : En) : List Op → R (List Sl)
  | [] => .ok []
  | o :: os => lift (argOf en o) >>= fun a => argsOf en os >>= fun as => .ok (a :: as)
def ownsOf : List Op → Nat → List (Nat × Nat)
  | [], _ => []
  | .val _ :: os, n => ownsOf os (n + 1)
  | .own i :: os, n => (n, i) :: ownsOf os (n + 1)
def callEn (en : En) (os : List Op) (args' : List Sl) : R En := match ownsOf os 0 with
  | [] => .ok en
  | [(k, i)] => match en[i]?, args'[k]? with
    | some (.own io _), some (.own _ ds) => .ok (en.set i (.own io ds))
    | _, _ => .bad
  | _ => .bad
def dCall (n : Nat) (f : Fn) (F : Sem' (List Op)) : Sem' Rv := fun en => F en >>= fun p => lift (argsOf p.2 p.1) >>= fun as => if as.length = n ∧ (ownsOf p.1 0).length ≤ 1 then f as >>= fun q => lift (callEn p.2 p.1 q.2) >>= fun e => .ok (q.1, e) else .bad
def tV (C : Ct) (F : Sem' Rv) : TE := fun σ H Q => ∃ H0 en, SR C.K C.T H0 H σ en ∧ Post C (fun en' H0' H' v a => RvR C.K σ H en' H0' H' v a) H0 H σ en Q (F en)
def rvE (F : Sem' Rv) : Sem' PyData := fun en => F en >>= fun p => match p.1 with
  | .dat d => .ok (d, p.2)
  | .new ds => .ok (.list ds, p.2)
def rvN (F : Sem' Rv) : Sem' (List PyData) := fun en => F en >>= fun p => match p.1 with
  | .dat _ => .bad
  | .new ds => .ok (ds, p.2)
section
variable {C : Ct} {X : Cx} {H0 H H0' H' : Hp} {σ : L2.St} {en en1 : En} {a : Expr} {pos : Pos}
theorem argsOf_get : ∀ {os : List Op} {as : List Sl} {k : Nat} {y : Sl}, argsOf en os = .ok as → as[k]? = some y → ∃ o, os[k]? = some o ∧ argOf en o = .ok y
  | [], as, k, y, h, e => by
    have h : R.ok ([] : List Sl) = .ok as := h
    cases h
    simp at e
  | o :: os, as, k, y, h, e => by
    have h : (lift (argOf en o) >>= fun a => argsOf en os >>= fun as => R.ok (a :: as)) = .ok as := h
    cases h1 : argOf en o with
    | ok z =>
      rw [h1] at h
      have h : (argsOf en os >>= fun as => R.ok (z :: as)) = .ok as := h
      cases h2 : argsOf en os with
      | ok zs =>
        rw [h2] at h
        have h : R.ok (z :: zs) = .ok as := h
        cases h
        cases k with
        | zero =>
          have e : z = y := Option.some.inj e
          subst e
          exact ⟨o, rfl, h1⟩
        | succ k => exact argsOf_get (k := k) h2 (by simpa using e)
      | exc n => rw [h2] at h; cases h
      | bad => rw [h2] at h; cases h
    | exc n => rw [h1] at h; cases h
    | bad => rw [h1] at h; cases h
theorem argsOf_len : ∀ {os : List Op} {as : List Sl}, argsOf en os = .ok as → as.length = os.length
  | [], as, h => by
    have h : R.ok ([] : List Sl) = .ok as := h
    cases h
    rfl
  | o :: os, as, h => by
    have h : (lift (argOf en o) >>= fun a => argsOf en os >>= fun as => R.ok (a :: as)) = .ok as := h
    cases h1 : argOf en o with
    | ok z =>
      rw [h1] at h
      have h : (argsOf en os >>= fun as => R.ok (z :: as)) = .ok as := h
      cases h2 : argsOf en os with
      | ok zs =>
        rw [h2] at h
        have h : R.ok (z :: zs) = .ok as := h
        cases h
        rw [List.length_cons, List.length_cons, argsOf_len h2]
      | exc n => rw [h2] at h; cases h
      | bad => rw [h2] at h; cases h
    | exc n => rw [h1] at h; cases h
    | bad => rw [h1] at h; cases h
theorem opds_get : ∀ {vs : List V} {os : List Op} {k : Nat} {o : Op}, OpdsR C.K H0 σ vs os → os[k]? = some o → ∃ v, vs[k]? = some v ∧ OpdR C.K H0 σ v o
  | [], [], k, o, _, e => by simp at e
  | v :: vs, o' :: os, 0, o, h, e => by
    have e : o' = o := Option.some.inj e
    subst e
    exact ⟨v, rfl, h.1⟩
  | v :: vs, o' :: os, k + 1, o, h, e => by
    obtain ⟨w, h1, h2⟩ := opds_get (k := k) h.2 (by simpa using e)
    exact ⟨w, by simpa using h1, h2⟩
  | [], _ :: _, _, _, h, _ => h.elim
  | _ :: _, [], _, _, h, _ => h.elim
theorem opds_len : ∀ {vs : List V} {os : List Op}, OpdsR C.K H0 σ vs os → vs.length = os.length
  | [], [], _ => rfl
  | _ :: _, _ :: _, h => by rw [List.length_cons, List.length_cons, opds_len h.2]
  | [], _ :: _, h => h.elim
  | _ :: _, [], h => h.elim
theorem owns_mem : ∀ {os : List Op} {n k i : Nat}, os[k]? = some (.own i) → (n + k, i) ∈ ownsOf os n
  | [], n, k, i, h => by simp at h
  | o :: os, n, 0, i, h => by
    have h : o = .own i := Option.some.inj h
    subst h
    exact List.mem_cons_self
  | o :: os, n, k + 1, i, h => by
    have := owns_mem (os := os) (n := n + 1) (k := k) (i := i) (by simpa using h)
    have e : n + 1 + k = n + (k + 1) := by omega
    rw [e] at this
    cases o with
    | val d => exact this
    | own j => exact List.mem_cons_of_mem _ this
theorem owns_at : ∀ {os : List Op} {n k i : Nat}, (k, i) ∈ ownsOf os n → ∃ j, k = n + j ∧ os[j]? = some (.own i)
  | [], n, k, i, h => by cases h
  | .val d :: os, n, k, i, h => by
    obtain ⟨j, e, h⟩ := owns_at (os := os) h
    exact ⟨j + 1, by omega, by simpa using h⟩
  | .own j' :: os, n, k, i, h => by
    rcases List.mem_cons.mp h with e | h
    · cases e
      exact ⟨0, rfl, rfl⟩
    · obtain ⟨j, e, h⟩ := owns_at (os := os) h
      exact ⟨j + 1, by omega, by simpa using h⟩
theorem arg_own {o : Op} {io : Bool} {ds : List PyData} (h : argOf en o = .ok (.own io ds)) : io = true ∧ ∃ i jo, o = .own i ∧ en[i]? = some (.own jo ds) := by
  cases o with
  | val d => cases h
  | own i =>
    have h : (match en[i]? with
      | some (.own _ ds) => R.ok (Sl.own true ds)
      | _ => R.bad) = .ok (.own io ds) := h
    split at h
    · rename_i jo ds' he
      cases h
      exact ⟨rfl, i, jo, rfl, he⟩
    · cases h
theorem arg_dat {o : Op} {d : PyData} (h : argOf en o = .ok (.dat d)) : o = .val d := by
  cases o with
  | val d' => cases h; rfl
  | own i =>
    have h : (match en[i]? with
      | some (.own _ ds) => R.ok (Sl.own true ds)
      | _ => R.bad) = .ok (.dat d) := h
    split at h <;> cases h
/-- the arguments as slots -/
theorem args_sr {vs : List V} {os : List Op} {as : List Sl} (s : SR C.K C.T H0 H σ en) (h : OpdsR C.K H0 σ vs os) (e : argsOf en os = .ok as) (o1 : (ownsOf os 0).length ≤ 1) : SR C.K C.T H0 H (vs.map some) as where
  len := by rw [List.length_map, opds_len h, argsOf_len e]
  ex := s.ex
  tb := s.tb
  nt := s.nt
  dat := fun k d hk => by
    obtain ⟨o, h1, h2⟩ := argsOf_get e hk
    have := arg_dat h2
    subst this
    obtain ⟨v, h3, h4⟩ := opds_get h h1
    exact ⟨v, by rw [List.getElem?_map, h3]; rfl, h4⟩
  own := fun k io ds hk => by
    obtain ⟨o, h1, h2⟩ := argsOf_get e hk
    obtain ⟨_, i, jo, rfl, h5⟩ := arg_own h2
    obtain ⟨v, h3, h4⟩ := opds_get h h1
    obtain ⟨p, ws, f1, f2, f3, f4⟩ := s.own i jo ds h5
    have h4 : σ[i]? = some (some v) := h4
    rw [h4] at f1
    cases f1
    exact ⟨p, ws, by rw [List.getElem?_map, h3]; rfl, f2, f3, f4⟩
  sep := fun k l io ds jo es p n hk hl _ => by
    obtain ⟨o, h1, h2⟩ := argsOf_get e hk
    obtain ⟨_, i, _, rfl, _⟩ := arg_own h2
    obtain ⟨o', h1', h2'⟩ := argsOf_get e hl
    obtain ⟨_, i', _, rfl, _⟩ := arg_own h2'
    have m1 := owns_mem (n := 0) h1
    have m2 := owns_mem (n := 0) h1'
    exfalso
    cases q : ownsOf os 0 with
    | nil => rw [q] at m1; cases m1
    | cons z r =>
      rw [q] at m1 m2 o1
      have : r = [] := by
        cases r with
        | nil => rfl
        | cons _ _ => simp at o1
      subst this
      have a1 := List.mem_singleton.mp m1
      have a2 := List.mem_singleton.mp m2
      have a3 := a1.trans a2.symm
      simp at a3
      exact n a3.1
theorem args_own {vs : List V} {os : List Op} {as : List Sl} (h : OpdsR C.K H0 σ vs os) (e : argsOf en os = .ok as) {p : Addr} (o : OwnA (vs.map some) as p) : ∃ k i io ds, (k, i) ∈ ownsOf os 0 ∧ en[i]? = some (.own io ds) ∧ σ[i]? = some (some (.ref p)) := by
  obtain ⟨k, io, ds, h1, h2⟩ := o
  obtain ⟨o, g1, g2⟩ := argsOf_get e h1
  obtain ⟨_, i, jo, rfl, h5⟩ := arg_own g2
  obtain ⟨v, h3, h4⟩ := opds_get h g1
  rw [List.getElem?_map, h3] at h2
  have h2 : some v = some (V.ref p) := Option.some.inj h2
  cases h2
  have := owns_mem (n := 0) g1
  exact ⟨_, i, jo, ds, this, h5, h4⟩
/-- behind a call -/
theorem call_back {vs : List V} {os : List Op} {as as' : List Sl} {e2 : En} (s : SR C.K C.T H0 H σ en) (h : OpdsR C.K H0 σ vs os) (e : argsOf en os = .ok as) (ce : callEn en os as' = .ok e2)
    (t : Stp (vs.map some) as H0 H (vs.map some) as' H0' H') (sr : SR C.K C.T H0' H' (vs.map some) as') : Stp σ en H0 H σ e2 H0' H' ∧ SR C.K C.T H0' H' σ e2 ∧ ∀ q, OwnA σ e2 q → OwnA σ en q := by
  have own_in : ∀ p, OwnA (vs.map some) as p → OwnA σ en p := fun p o => by
    obtain ⟨k, i, io, ds, _, h1, h2⟩ := args_own h e o
    exact ⟨i, io, ds, h1, h2⟩
  unfold callEn at ce
  cases q : ownsOf os 0 with
  | nil =>
    rw [q] at ce
    have ce : R.ok en = .ok e2 := ce
    cases ce
    have none_own : ∀ p, OwnA (vs.map some) as p → False := fun p o => by
      obtain ⟨k, i, io, ds, m, _⟩ := args_own h e o
      rw [q] at m
      cases m
    have f : Fm (fun _ => False) H0 H H0' H' := t.fm.weak fun p o => none_own p o
    exact ⟨f.stp, s.grown f sr.good, fun _ h => h⟩
  | cons z r =>
    obtain ⟨k, i⟩ := z
    cases r with
    | cons _ _ => rw [q] at ce; cases ce
    | nil =>
      rw [q] at ce
      have ce : (match en[i]?, as'[k]? with
        | some (.own io _), some (.own _ ds) => R.ok (en.set i (.own io ds))
        | _, _ => R.bad) = .ok e2 := ce
      split at ce
      case h_2 => cases ce
      rename_i io ds0 jo ds' h1 h2
      cases ce
      obtain ⟨p, ws, f1, f2, f3, f4⟩ := s.own i io ds0 h1
      obtain ⟨p', ws', g1, g2, g3, g4⟩ := sr.own k jo ds' h2
      have hil : i < en.length := (List.getElem?_eq_some_iff.mp h1).1
      have hp : p' = p := by
        obtain ⟨j, ej, hj⟩ := owns_at (os := os) (n := 0) (k := k) (i := i) (by rw [q]; exact List.mem_singleton.mpr rfl)
        have ej : k = j := by omega
        subst ej
        obtain ⟨v, h3, h4⟩ := opds_get h hj
        have h4 : σ[i]? = some (some v) := h4
        rw [f1] at h4
        cases h4
        rw [List.getElem?_map, h3] at g1
        cases g1
        rfl
      subst hp
      have only : ∀ p2, OwnA (vs.map some) as p2 → p2 = p' := fun p2 o => by
        obtain ⟨k2, i2, io2, ds2, m, a1, a2⟩ := args_own h e o
        rw [q] at m
        have m := List.mem_singleton.mp m
        cases m
        rw [f1] at a2
        cases a2
        rfl
      have ati : ∀ {j : Nat} {y : Sl}, (en.set i (.own io ds'))[j]? = some y → (j = i ∧ y = .own io ds') ∨ (j ≠ i ∧ en[j]? = some y) := fun {j y} hj => by
        by_cases z : i = j
        · subst z
          rw [List.getElem?_set_self hil] at hj
          exact .inl ⟨rfl, (Option.some.inj hj).symm⟩
        · rw [List.getElem?_set_ne z] at hj
          exact .inr ⟨Ne.symm z, hj⟩
      have own_back : ∀ q, OwnA σ (en.set i (.own io ds')) q → OwnA σ en q := fun q ⟨j, jo2, es, a1, a2⟩ => by
        rcases ati a1 with ⟨e1, e2⟩ | ⟨_, c1⟩
        · subst e1; cases e2
          exact ⟨j, io, ds0, h1, a2⟩
        · exact ⟨j, jo2, es, c1, a2⟩
      refine ⟨⟨t.fm.weak own_in, fun p2 o => .inl (own_back p2 o), fun j es hj => ?_⟩, ⟨?_, sr.ex, sr.tb, sr.nt, fun j d hj => ?_, fun j jo2 es hj => ?_, fun j l jo2 es lo fs p2 n a1 a2 b1 => ?_⟩, own_back⟩
      · by_cases z : i = j
        · subst z
          rw [h1] at hj
          cases hj
          exact ⟨rfl, ds', List.getElem?_set_self hil⟩
        · exact ⟨rfl, es, by rw [List.getElem?_set_ne z]; exact hj⟩
      · rw [List.length_set]; exact s.len
      · rcases ati hj with ⟨_, e2⟩ | ⟨_, hj⟩
        · cases e2
        · obtain ⟨v, b1, b2⟩ := s.dat j d hj
          exact ⟨v, b1, b2.mono t.fm.ex⟩
      · rcases ati hj with ⟨e1, e2⟩ | ⟨n, hj⟩
        · subst e1; cases e2
          exact ⟨p', ws', f1, g2, g3, g4⟩
        · obtain ⟨p2, ws2, b1, b2, b3, b4⟩ := s.own j jo2 es hj
          have ne : ¬ OwnA (vs.map some) as p2 := fun o => by
            have := only p2 o
            subst this
            exact s.sep j i jo2 es io ds0 p2 n hj h1 b1 f1
          exact ⟨p2, ws2, b1, t.fm.fr p2 _ b2 ne (fun _ z => by cases z), t.fm.nw p2 (nw_lst b2) ne b3, b4.mono t.fm.ex⟩
      · rcases ati a1 with ⟨e1, e2⟩ | ⟨n1, c1⟩
        · subst e1; cases e2
          rcases ati a2 with ⟨e1, _⟩ | ⟨_, c2⟩
          · exact absurd e1.symm n
          · exact s.sep j l io ds0 lo fs p2 n h1 c2 b1
        · rcases ati a2 with ⟨e1, e2⟩ | ⟨_, c2⟩
          · subst e1; cases e2
            exact s.sep j l jo2 es io ds0 p2 n c1 h1 b1
          · exact s.sep j l jo2 es lo fs p2 n c1 c2 b1
variable {x : Str} {p : Pos} {es : List Expr} {k n : Nat} {f : Addr} {fd : FuncData} {ps : List Str} {g : Fn} {G : Sem' (List Op)}
theorem call_imp {σ : L2.St} {H : Hp} {Q : VK} (h : tV C (dCall n g G) σ H Q) : tCall (spD C.K C.T C.ca n g) [] C.E (tA C G) σ H Q := by
  obtain ⟨H0, en, s, p⟩ := h
  refine ⟨H0, en, s, post_bindA (rel2 := fun en' H0' H' v a => RvR C.K σ H en' H0' H' v a) (f := fun os e => lift (argsOf e os) >>= fun as => if as.length = n ∧ (ownsOf os 0).length ≤ 1 then g as >>= fun q => lift (callEn e os q.2) >>= fun e => .ok (q.1, e) else .bad) (Q2 := Q) p fun os en1 H01 H1 vs _ st sr rs p1 => ?_⟩
  have p1 : Post C (fun en' H0' H' v a => RvR C.K σ H en' H0' H' v a) H01 H1 σ en1 Q (lift (argsOf en1 os) >>= fun as => if as.length = n ∧ (ownsOf os 0).length ≤ 1 then g as >>= fun q => lift (callEn en1 os q.2) >>= fun e => .ok (q.1, e) else .bad) := p1
  rw [List.append_nil]
  cases e1 : argsOf en1 os with
  | exc n => rw [e1] at p1; exact p1.elim
  | bad => rw [e1] at p1; exact p1.elim
  | ok as =>
    rw [e1] at p1
    have p1 : Post C (fun en' H0' H' v a => RvR C.K σ H en' H0' H' v a) H01 H1 σ en1 Q (if as.length = n ∧ (ownsOf os 0).length ≤ 1 then g as >>= fun q => lift (callEn en1 os q.2) >>= fun e => .ok (q.1, e) else .bad) := p1
    split at p1
    case isFalse => exact p1.elim
    rename_i hn
    obtain ⟨hn, o1⟩ := hn
    refine ⟨by rw [opds_len rs, ← argsOf_len e1]; exact hn, H01, as, ?_⟩
    cases eg : g as with
    | bad => rw [eg] at p1; exact p1.elim
    | exc m =>
      rw [eg] at p1
      refine ⟨args_sr sr rs e1 o1, fun i ds h => ?_, Ct.err_at (C := C) p1 Fm.refl fun q o => .inl (by
          obtain ⟨k, i, io, ds, _, h1, h2⟩ := args_own rs e1 o
          exact ⟨i, io, ds, h1, h2⟩)⟩
      obtain ⟨o, g1, g2⟩ := argsOf_get e1 h
      exact absurd (arg_own g2).1 (by decide)
    | ok q =>
      obtain ⟨r, as'⟩ := q
      rw [eg] at p1
      have p1 : Post C (fun en' H0' H' v a => RvR C.K σ H en' H0' H' v a) H01 H1 σ en1 Q (lift (callEn en1 os as') >>= fun e => .ok (r, e)) := p1
      cases ec : callEn en1 os as' with
      | exc n => rw [ec] at p1; exact p1.elim
      | bad => rw [ec] at p1; exact p1.elim
      | ok e2 =>
        rw [ec] at p1
        refine ⟨args_sr sr rs e1 o1, fun i ds h => ?_, fun H0' H' v t s2 rr => ?_⟩
        · obtain ⟨o, g1, g2⟩ := argsOf_get e1 h
          exact absurd (arg_own g2).1 (by decide)
        · obtain ⟨t1, t2, t3⟩ := call_back sr rs e1 ec t s2
          refine p1 H0' H' v t1 t2 ?_
          cases r with
          | dat d => exact rr
          | new ds =>
            obtain ⟨q, ws, a1, a2, a3, a4, a5, a6⟩ := rr
            have hq : Nw H q := st.fm.kp q a2
            refine ⟨q, ws, a1, hq, a3, a4, a5, fun o => ?_⟩
            obtain ⟨i, io, es, h1, h2⟩ := t3 q o
            obtain ⟨q', ws', f1, f2, _⟩ := sr.own i io es h1
            rw [h2] at f1
            cases f1
            exact nw_lst f2 a2
/-- f(e, ..), f a def of the text -/
theorem dv_call {fa : Addr} (F : FnOk X.prog X.w X.K X.mg X.base (L2.CX X.prog X.w) k fa fd ps (spD C.K C.T C.ca n g)) (hr : Room k X.A) (hg : Gl X x) (hm : X.mg x = some (.ref fa)) (hk : PySem.W.keepIn X.K (.ref fa) = true) (hb : Binds X.K fd ps []) (hx : Passes (L2.CX X.prog X.w) X C.E)
    (ha : PA X (a :: es) (tA C G)) (hdb : (x == ("__debug__" : Str)) = false := by decide) (he : starEach (a :: es) X.env = (false, eval a X.env) :: starEach es X.env := by rfl) (hpl : (backTo pos (starEach es X.env)).any (·.1) = false := by rfl) :
    PE X (.Call (.Name x p) (a :: es) [] pos) (tV C (dCall n g G)) := (pe_call F hr hg hm hk hb .nil hx ha hdb he hpl).imp fun σ H Q h => call_imp h
theorem dv_call0 {fa : Addr} (F : FnOk X.prog X.w X.K X.mg X.base (L2.CX X.prog X.w) k fa fd ps (spD C.K C.T C.ca 0 g)) (hr : Room k X.A) (hg : Gl X x) (hm : X.mg x = some (.ref fa)) (hk : PySem.W.keepIn X.K (.ref fa) = true) (hb : Binds X.K fd ps []) (hx : Passes (L2.CX X.prog X.w) X C.E)
    (hdb : (x == ("__debug__" : Str)) = false := by decide) : PE X (.Call (.Name x p) [] [] pos) (tV C (dCall 0 g aNil)) := (pe_call0 F hr hg hm hk hb .nil hx hdb).imp fun σ H Q h => by
  obtain ⟨H0, en, s, p⟩ := call_imp h
  exact p H0 H [] Stp.refl s trivial
theorem dn_ofV {F : Sem' Rv} (h : PE X a (tV C F)) : PE X a (tN C (rvN F)) := h.imp fun σ H Q ⟨H0, en, s, p⟩ => ⟨H0, en, s, by
  unfold rvN at p
  cases e : F en with
  | exc n => rw [e] at p; exact p
  | bad => rw [e] at p; exact p
  | ok q =>
    obtain ⟨r, e1⟩ := q
    rw [e] at p
    cases r with
    | dat d => exact p.elim
    | new ds => exact fun H0' H' v st sr r => p H0' H' v st sr r⟩
theorem de_ofV {F : Sem' Rv} (h : PE X a (tV C F)) : PE X a (tE C (rvE F)) := h.imp fun σ H Q ⟨H0, en, s, p⟩ => ⟨H0, en, s, by
  unfold rvE at p
  cases e : F en with
  | exc n => rw [e] at p; exact p
  | bad => rw [e] at p; exact p.elim
  | ok q =>
    obtain ⟨r, en'⟩ := q
    rw [e] at p
    cases r with
    | dat d => exact fun H0' H' v st sr r => p H0' H' v st sr r
    | new ds =>
      intro H0' H' v st sr ⟨q, vs, ev, hn, hq, h0, r, no⟩
      subst ev
      refine p (upd H0' q (.lst vs)) H' (.ref q) ⟨Fm.frz hn hq st.fm h0, st.ow, st.io⟩ ?_ (.lst (Rd.of upd_same) (r.mono (Ex.new h0)))
      refine ⟨sr.len, (sr.good.frz hq h0 fun _ z => by cases z).ex, sr.tb, (sr.good.frz hq h0 fun _ z => by cases z).nt, fun i d hi => ?_, fun i io es hi => ?_, sr.sep⟩
      · obtain ⟨v, e1, r1⟩ := sr.dat i d hi
        exact ⟨v, e1, r1.mono (Ex.new h0)⟩
      · obtain ⟨p', ws, e1, e2, e3, r1⟩ := sr.own i io es hi
        have ne : p' ≠ q := fun z => no ⟨i, io, es, hi, by rw [← z]; exact e1⟩
        exact ⟨p', ws, e1, e2, by rw [upd_ne ne]; exact e3, r1.mono (Ex.new h0)⟩⟩
end
end PD
end
section
namespace PD
open PySem PySem.Spec PyProof.Rows L2 Evl

/-! ### lists that one slot holds, changed -/
def ownAt (en : En) (i : Nat) : R (Bool × List PyData) := match en[i]? with
  | some (.own io ds) => .ok (io, ds)
  | _ => .bad
def sAug (i : Nat) (op : PyData → PyData → R PyData) (F : Sem' PyData) : SemS := fun en => match en[i]? with
  | some (.dat x) => ofR (F en) fun p => ofR (lift (op x p.1)) fun d => ofR (lift (tgN i d p.2)) fun e => .next e
  | _ => .bad
def ixR (n : Nat) (i : PyData) : R Nat := match i with
  | .int k => R.get (ixN n k)
  | _ => .bad
/-- x[i] = e -/
def sSetIx (s : Nat) (I F : Sem' PyData) : SemS := fun en => ofR (F en) fun p => ofR (ownAt p.2 s) fun _ => ofR (I p.2) fun q => ofR (ownAt q.2 s) fun o => ofR (ixR o.2.length q.1) fun j => .next (q.2.set s (.own o.1 (o.2.set j p.1)))
/-- x[i] op= e -/
def sAugIx (s : Nat) (op : PyData → PyData → R PyData) (I F : Sem' PyData) : SemS := fun en => ofR (ownAt en s) fun _ => ofR (I en) fun p => ofR (ownAt p.2 s) fun o => ofR (ixR o.2.length p.1) fun j => ofR (R.get o.2[j]?) fun x => ofR (F p.2) fun q => ofR (lift (op x q.1)) fun d =>
  ofR (ownAt q.2 s) fun o2 => ofR (ixR o2.2.length p.1) fun j2 => .next (q.2.set s (.own o2.1 (o2.2.set j2 d)))
def sApp (s : Nat) (F : Sem' PyData) : SemS := fun en => ofR (F en) fun p => ofR (ownAt p.2 s) fun o => if o.2.length < 100000 then .next (p.2.set s (.own o.1 (o.2 ++ [p.1]))) else .bad
def dPopAt (s : Nat) (F : Sem' PyData) : Sem' PyData := fun en => F en >>= fun p => ownAt p.2 s >>= fun o => match p.1 with
  | .int k => if -(2 ^ 62) ≤ k ∧ k < 2 ^ 62 then R.get (ixN o.2.length k) >>= fun j => R.get o.2[j]? >>= fun x => .ok (x, p.2.set s (.own o.1 (o.2.eraseIdx j))) else .bad
  | _ => .bad
def dPop (s : Nat) (F : Sem' PyData) : Sem' PyData := fun en => ownAt en s >>= fun _ => dPopAt s F en
def sAppend (s : Nat) (F : Sem' PyData) : SemS := fun en => ofR (ownAt en s) fun _ => sApp s F en
/-- reading a list that a slot holds, from then on data -/
def dVarF (i : Nat) : Sem' PyData := fun en => match en[i]? with
  | some (.own false ds) => .ok (.list ds, en.set i (.dat (.list ds)))
  | some (.dat d) => .ok (d, en)
  | _ => .bad
section
variable {C : Ct} {X : Cx} {H0 H H0' H' H01 H1 : Hp} {σ σ' : L2.St} {en en' en1 e : En} {a b c tg : Expr} {pos : Pos} {D : Ends}
theorem set_at {i : Nat} {y z : Sl} {j : Nat} (hl : i < en.length) (h : (en.set i y)[j]? = some z) : (j = i ∧ z = y) ∨ (j ≠ i ∧ en[j]? = some z) := by
  by_cases e : i = j
  · subst e
    rw [List.getElem?_set_self hl] at h
    exact .inl ⟨rfl, (Option.some.inj h).symm⟩
  · rw [List.getElem?_set_ne e] at h
    exact .inr ⟨Ne.symm e, h⟩
theorem mut_sr {i : Nat} {io : Bool} {ds ds' : List PyData} {p : Addr} {ws ws' : List V} (s : SR C.K C.T H0 H σ en) (h : en[i]? = some (.own io ds)) (hσ : σ[i]? = some (some (.ref p))) (hp : H p = some (.lst ws)) (r : RpAll C.K H0 ws' ds') :
    SR C.K C.T H0 (upd H p (.lst ws')) σ (en.set i (.own io ds')) ∧ Stp σ en H0 H σ (en.set i (.own io ds')) H0 (upd H p (.lst ws')) := by
  have hl : i < en.length := (List.getElem?_eq_some_iff.mp h).1
  obtain ⟨p', _, f1, f2, f3, _⟩ := s.own i io ds h
  rw [hσ] at f1
  cases f1
  have back : ∀ q, OwnA σ (en.set i (.own io ds')) q → OwnA σ en q := fun q ⟨j, jo, es, a1, a2⟩ => by
    rcases set_at hl a1 with ⟨e1, e2⟩ | ⟨_, c1⟩
    · subst e1; cases e2
      exact ⟨j, io, ds, h, a2⟩
    · exact ⟨j, jo, es, c1, a2⟩
  refine ⟨⟨by rw [List.length_set]; exact s.len, fun q u hq => by rw [upd_ne (ne_of_none hq f3)]; exact s.ex q u hq, tabs_upd s.tb (.inr ⟨_, hp⟩), s.nt, fun j d hj => ?_, fun j jo es hj => ?_, fun j l jo es lo fs q n a1 a2 b1 => ?_⟩, ⟨Fm.mut hp ⟨i, io, ds, h, hσ⟩, fun q o => .inl (back q o), fun j es hj => ?_⟩⟩
  · rcases set_at hl hj with ⟨_, e2⟩ | ⟨_, c1⟩
    · cases e2
    · exact s.dat j d c1
  · rcases set_at hl hj with ⟨e1, e2⟩ | ⟨n, c1⟩
    · subst e1; cases e2
      exact ⟨p, ws', hσ, upd_same, f3, r⟩
    · obtain ⟨q, vs, g1, g2, g3, g4⟩ := s.own j jo es c1
      have ne : q ≠ p := fun z => by
        subst z
        exact s.sep j i jo es io ds q n c1 h g1 hσ
      exact ⟨q, vs, g1, by rw [upd_ne ne]; exact g2, g3, g4⟩
  · rcases set_at hl a1 with ⟨e1, e2⟩ | ⟨_, c1⟩
    · subst e1; cases e2
      rcases set_at hl a2 with ⟨e1, _⟩ | ⟨_, c2⟩
      · exact absurd e1.symm n
      · exact s.sep j l io ds lo fs q n h c2 b1
    · rcases set_at hl a2 with ⟨e1, e2⟩ | ⟨_, c2⟩
      · subst e1; cases e2
        exact s.sep j l jo es io ds q n c1 h b1
      · exact s.sep j l jo es lo fs q n c1 c2 b1
  · by_cases z : i = j
    · subst z
      rw [h] at hj
      cases hj
      exact ⟨rfl, ds', List.getElem?_set_self hl⟩
    · exact ⟨rfl, es, by rw [List.getElem?_set_ne z]; exact hj⟩
theorem ownAt_ok {i : Nat} {o : Bool × List PyData} (h : ownAt en i = .ok o) : en[i]? = some (.own o.1 o.2) := by
  unfold ownAt at h
  split at h
  · rename_i he
    cases h
    exact he
  · cases h
theorem frz_sr {i : Nat} {ds : List PyData} {p : Addr} {ws : List V} (s : SR C.K C.T H0 H σ en) (h : en[i]? = some (.own false ds)) (hσ : σ[i]? = some (some (.ref p))) (hp : H p = some (.lst ws)) (h0 : H0 p = none) (r : RpAll C.K H0 ws ds) :
    SR C.K C.T (upd H0 p (.lst ws)) H σ (en.set i (.dat (.list ds))) ∧ Stp σ en H0 H σ (en.set i (.dat (.list ds))) (upd H0 p (.lst ws)) H := by
  have hl : i < en.length := (List.getElem?_eq_some_iff.mp h).1
  have x : Ex H0 (upd H0 p (.lst ws)) := Ex.new h0
  have g := s.good.frz hp h0 fun _ z => by cases z
  have rp : Rp C.K (upd H0 p (.lst ws)) (.ref p) (.list ds) := .lst (Rd.of upd_same) (r.mono x)
  refine ⟨⟨by rw [List.length_set]; exact s.len, g.ex, s.tb, g.nt, fun j d hj => ?_, fun j jo es hj => ?_, fun j l jo es lo fs q n a1 a2 b1 => ?_⟩, ⟨⟨x, fun _ _ h _ _ => h, fun _ h => h, fun q hq n e => ?_⟩, fun q ⟨j, jo, es, a1, a2⟩ => ?_, fun j es hj => ?_⟩⟩
  · rcases set_at hl hj with ⟨e1, e2⟩ | ⟨_, c1⟩
    · subst e1; cases e2
      exact ⟨_, hσ, rp⟩
    · obtain ⟨v, e1, r1⟩ := s.dat j d c1
      exact ⟨v, e1, r1.mono x⟩
  · rcases set_at hl hj with ⟨_, e2⟩ | ⟨n, c1⟩
    · cases e2
    · obtain ⟨q, vs, g1, g2, g3, g4⟩ := s.own j jo es c1
      have ne : q ≠ p := fun z => by
        subst z
        exact s.sep j i jo es false ds q n c1 h g1 hσ
      exact ⟨q, vs, g1, g2, by rw [upd_ne ne]; exact g3, g4.mono x⟩
  · rcases set_at hl a1 with ⟨_, e2⟩ | ⟨_, c1⟩
    · cases e2
    · rcases set_at hl a2 with ⟨_, e2⟩ | ⟨_, c2⟩
      · cases e2
      · exact s.sep j l jo es lo fs q n c1 c2 b1
  · have ne : q ≠ p := fun z => n (by subst z; exact ⟨i, false, ds, h, hσ⟩)
    rw [upd_ne ne]; exact e
  · rcases set_at hl a1 with ⟨_, e2⟩ | ⟨_, c1⟩
    · cases e2
    · exact .inl ⟨j, jo, es, c1, a2⟩
  · have z : i ≠ j := fun z => by subst z; rw [h] at hj; cases hj
    exact ⟨rfl, es, by rw [List.getElem?_set_ne z]; exact hj⟩
theorem de_varF {i : Nat} (h : PE X a (tVar i)) : PE X a (tE C (dVarF i)) := h.imp fun σ H Q ⟨H0, en, s, p⟩ => by
  unfold dVarF at p
  split at p
  · rename_i ds hi
    obtain ⟨q, ws, e1, e2, e3, r⟩ := s.own i false ds hi
    obtain ⟨s1, t1⟩ := frz_sr s hi e1 e2 e3 r
    exact ⟨_, e1, p _ H _ t1 s1 (.lst (Rd.of upd_same) (r.mono (Ex.new e3)))⟩
  · rename_i d hi
    obtain ⟨v, e1, r⟩ := s.dat i d hi
    exact ⟨v, e1, p H0 H v Stp.refl s r⟩
  · exact p.elim
/-- an operand that is read at the end: data or a held list -/
def oAny (i : Nat) : Sem' Op := fun en => match en[i]? with
  | some (.own _ _) => .ok (.own i, en)
  | some (.dat d) => .ok (.val d, en)
  | _ => .bad
theorem do_any {i : Nat} (h : PE X a (tVar i)) : PE X a (tO C (oAny i)) := h.imp fun σ H Q ⟨H0, en, s, p⟩ => by
  unfold oAny at p
  split at p
  · rename_i io d hi
    obtain ⟨v, vs, e, r⟩ := s.own i io d hi
    exact ⟨.ref v, e, p H0 H (.ref v) Stp.refl s e⟩
  · rename_i d hi
    obtain ⟨v, e1, r⟩ := s.dat i d hi
    exact ⟨v, e1, p H0 H v Stp.refl s r⟩
  · exact p.elim
theorem frz_tn {F : Sem' (List PyData)} (σ : L2.St) (H : Hp) (Q : VK) (h : tE C (dFrz F) σ H Q) : tN C F σ H Q := by
  obtain ⟨H0, en, s, p⟩ := h
  refine ⟨H0, en, s, ?_⟩
  unfold dFrz at p
  cases e : F en with
  | exc n => rw [e] at p; exact p
  | bad => rw [e] at p; exact p
  | ok q =>
    rw [e] at p
    obtain ⟨ds, en'⟩ := q
    intro H0' H' v st sr ⟨q, vs, ev, hn, hq, h0, r, no⟩
    subst ev
    refine p (upd H0' q (.lst vs)) H' (.ref q) ⟨Fm.frz hn hq st.fm h0, st.ow, st.io⟩ ?_ (.lst (Rd.of upd_same) (r.mono (Ex.new h0)))
    refine ⟨sr.len, (sr.good.frz hq h0 fun _ z => by cases z).ex, sr.tb, (sr.good.frz hq h0 fun _ z => by cases z).nt, fun i d hi => ?_, fun i io es hi => ?_, sr.sep⟩
    · obtain ⟨v, e1, r1⟩ := sr.dat i d hi
      exact ⟨v, e1, r1.mono (Ex.new h0)⟩
    · obtain ⟨p', ws, e1, e2, e3, r1⟩ := sr.own i io es hi
      have ne : p' ≠ q := fun z => no ⟨i, io, es, hi, by rw [← z]; exact e1⟩
      exact ⟨p', ws, e1, e2, by rw [upd_ne ne]; exact e3, r1.mono (Ex.new h0)⟩
theorem tN_mono {F : Sem' (List PyData)} {t : TE} (hi : ∀ σ H Q, tN C F σ H Q → t σ H Q) {g : TG} (σ : L2.St) (H : Hp) (h : tAsg (tN C F) g D σ H) : tAsg t g D σ H := hi σ H _ h

/-! ### name = [.. for ..] -/
section
variable {elt iter : Expr} {ifs : List Expr} {scope : Scope} {own : List (Str × Nat)} {i : Nat} {y : Str} {py spos : Pos} {it : Sem' Its'} {js : List Nat} {g : PyData → En → R En} {tst : Sem' Bool} {el : Sem' PyData}
theorem ps_lcD (hc : X.calm = true) (hN : X.N.Nodup) (hy : X.N[i]? = some y) (hyl : X.env.scope.names.lookup y = some .local)
    (hsw : swapsWith (.ListComp elt [⟨tg, iter, ifs, 0⟩] scope pos) (some (.Name y py)) spos.line X.env = pure true) (hi : PI X tg iter (tI C it)) (ok : BlkOk X.N X.env.scope scope own)
    (hg : ∀ (s : Shared) (H : Hp) (a : Addr) (cl : List (Str × Addr)) (fp : List Addr), PG (X.blk s H scope (compEnvC scope cl a X.env) fp) tg (gD C.non js g)) (ht : ∀ (s : Shared) (H : Hp) (a : Addr) (cl : List (Str × Addr)) (fp : List Addr), PTs (X.blk s H scope (compEnvC scope cl a X.env) fp) ifs (tT C.non tst))
    (he : ∀ (s : Shared) (H : Hp) (a : Addr) (cl : List (Str × Addr)) (fp : List Addr), PE (X.blk s H scope (compEnvC scope cl a X.env) fp) elt (tE C.non el)) (hj : ∀ j ∈ js, j ∈ own.map (·.2)) (hs : ∀ x, foldedSetIterable iter X.env x = pure x := by intro _; rfl) :
    PS X (.Assign [.Name y py] (.ListComp elt [⟨tg, iter, ifs, 0⟩] scope pos) spos) (tAsg (tN C (dLc it (own.map (·.2)) g tst el)) (gName i)) :=
  (ps_setLc hc hN hy hyl hsw hi ok hg ht he hs).imp fun D σ H h => tN_mono (lc_tn hj) σ H h
theorem ds_setLc (hc : X.calm = true) (hN : X.N.Nodup) (hy : X.N[i]? = some y) (hyl : X.env.scope.names.lookup y = some .local)
    (hsw : swapsWith (.ListComp elt [⟨tg, iter, ifs, 0⟩] scope pos) (some (.Name y py)) spos.line X.env = pure true) (hi : PI X tg iter (tI C it)) (ok : BlkOk X.N X.env.scope scope own)
    (hg : ∀ (s : Shared) (H : Hp) (a : Addr) (cl : List (Str × Addr)) (fp : List Addr), PG (X.blk s H scope (compEnvC scope cl a X.env) fp) tg (gD C.non js g)) (ht : ∀ (s : Shared) (H : Hp) (a : Addr) (cl : List (Str × Addr)) (fp : List Addr), PTs (X.blk s H scope (compEnvC scope cl a X.env) fp) ifs (tT C.non tst))
    (he : ∀ (s : Shared) (H : Hp) (a : Addr) (cl : List (Str × Addr)) (fp : List Addr), PE (X.blk s H scope (compEnvC scope cl a X.env) fp) elt (tE C.non el)) (hj : ∀ j ∈ js, j ∈ own.map (·.2)) (hs : ∀ x, foldedSetIterable iter X.env x = pure x := by intro _; rfl) :
    PS X (.Assign [.Name y py] (.ListComp elt [⟨tg, iter, ifs, 0⟩] scope pos) spos) (tS C (sAsg (dFrz (dLc it (own.map (·.2)) g tst el)) (tgN i))) :=
  (ps_lcD hc hN hy hyl hsw hi ok hg ht he hj hs).imp fun D σ H ⟨H0, en, s, p⟩ => frz_tn σ H _ (setN_go s p)
theorem ds_ownLc (hc : X.calm = true) (hN : X.N.Nodup) (hy : X.N[i]? = some y) (hyl : X.env.scope.names.lookup y = some .local)
    (hsw : swapsWith (.ListComp elt [⟨tg, iter, ifs, 0⟩] scope pos) (some (.Name y py)) spos.line X.env = pure true) (hi : PI X tg iter (tI C it)) (ok : BlkOk X.N X.env.scope scope own)
    (hg : ∀ (s : Shared) (H : Hp) (a : Addr) (cl : List (Str × Addr)) (fp : List Addr), PG (X.blk s H scope (compEnvC scope cl a X.env) fp) tg (gD C.non js g)) (ht : ∀ (s : Shared) (H : Hp) (a : Addr) (cl : List (Str × Addr)) (fp : List Addr), PTs (X.blk s H scope (compEnvC scope cl a X.env) fp) ifs (tT C.non tst))
    (he : ∀ (s : Shared) (H : Hp) (a : Addr) (cl : List (Str × Addr)) (fp : List Addr), PE (X.blk s H scope (compEnvC scope cl a X.env) fp) elt (tE C.non el)) (hj : ∀ j ∈ js, j ∈ own.map (·.2)) (hs : ∀ x, foldedSetIterable iter X.env x = pure x := by intro _; rfl) :
    PS X (.Assign [.Name y py] (.ListComp elt [⟨tg, iter, ifs, 0⟩] scope pos) spos) (tS C (sOwn (dLc it (own.map (·.2)) g tst el) i)) :=
  (ps_lcD hc hN hy hyl hsw hi ok hg ht he hj hs).imp fun D σ H ⟨H0, en, s, p⟩ => own_go s p
end

/-! ### stores -/
theorem postS_ofR {α : Type} {x : R α} {f : α → RS} (h : PostS C H0 H σ en D (ofR x f)) (hx : ∀ n, x ≠ .exc n) : ∃ a, x = .ok a ∧ PostS C H0 H σ en D (f a) := by
  cases x with
  | ok a => exact ⟨a, rfl, h⟩
  | exc n => exact absurd rfl (hx n)
  | bad => exact h.elim
theorem ownAt_nx {i : Nat} : ∀ n, ownAt en i ≠ .exc n := fun n h => by
  unfold ownAt at h
  split at h <;> cases h
theorem get_nx {α : Type} {o : Option α} : ∀ n, R.get o ≠ .exc n := fun n h => by cases o <;> cases h
theorem ixR_nx {m : Nat} {d : PyData} : ∀ n, ixR m d ≠ .exc n := fun n h => by
  unfold ixR at h
  split at h
  · exact get_nx n h
  · cases h
theorem lift_nx {α : Type} {x : R α} : ∀ n, lift x ≠ .exc n := fun n h => by cases x <;> cases h
theorem get_ok {α : Type} {o : Option α} {a : α} (h : R.get o = .ok a) : o = some a := by
  cases o with
  | none => cases h
  | some b => cases h; rfl
theorem ixR_ok {m j : Nat} {d : PyData} (h : ixR m d = .ok j) : ∃ k, d = .int k ∧ ixN m k = some j := by
  unfold ixR at h
  split at h
  · rename_i k
    exact ⟨k, rfl, get_ok h⟩
  · cases h
theorem ds_aug {F : Sem' PyData} {i : Nat} {x : Str} {op : Operator} {ti : TIp} {f : PyData → PyData → R PyData} {pos' : Pos} (hN : X.N.Nodup) (hi : X.N[i]? = some x) (hx : Loc X.env.scope x) (he : PE X a (tE C F)) (ho : PIp X op ti) (hr : Rule2 C ti f)
    (hf : X.fn x = true ∨ X.env.scope.names.lookup x = some .local := by first | exact .inl rfl | exact .inr rfl | assumption) : PS X (.AugAssign (.Name x pos') op a pos) (tS C (sAug i f F)) :=
  (ps_aug hN hi hx he ho hf).imp fun D σ H ⟨H0, en, s, p⟩ => by
    unfold sAug at p
    split at p
    · rename_i dx hx
      obtain ⟨v, e1, r⟩ := s.dat i dx hx
      refine ⟨v, e1, H0, en, s, postS_bind (f := fun d e => ofR (lift (f dx d)) fun d => ofR (lift (tgN i d e)) fun e => .next e) (D := D) p fun d en1 H01 H1 w _ st sr r2 p1 => ?_⟩
      obtain ⟨z, ez, p2⟩ := postS_ofR p1 lift_nx
      refine hr H01 H1 v w dx d z _ sr.good (.inl (r.mono st.fm.ex)) (.inl r2) (lift_eq ez) fun H0' H' u fm g ru => ?_
      obtain ⟨e2, ee, p3⟩ := postS_ofR p2 lift_nx
      have ee := lift_eq ee
      unfold tgN at ee
      split at ee
      · cases ee
      · rename_i hio
        cases ee
        have s2 := sr.grown fm g
        exact p3 H0' H' _ (fm.stp.trans (set_stp (by simpa using hio))) (set_sr s2 ru)
    · exact p.elim
theorem ds_setIx {I F : Sem' PyData} {s : Nat} {tpos : Pos} (ho : PE X a (tVar s)) (hi : PE X b (tE C I)) (he : PE X c (tE C F)) (hs : swapsWithSole [.Subscript a b tpos] c pos.line X.env = pure false := by rfl) (hw : swappedStores [.Subscript a b tpos] c X.env = pure none := by rfl)
    (h1 : (assignEach [.Subscript a b tpos] X.env).map (·.2) = [assign (.Subscript a b tpos) X.env] := by rfl)
    (ha : ∀ v, assign (.Subscript a b tpos) X.env v = (do
      let ov ← holding [v] (eval a X.env)
      let iv ← holding [v, ov] (eval b X.env)
      standAt tpos
      holding [v, ov, iv] (setItem ov iv v)
      release [v, ov, iv] []) := by intro _; rfl) : PS X (.Assign [.Subscript a b tpos] c pos) (tS C (sSetIx s I F)) :=
  (ps_asg he (pg_sub ho hi set_list ha) hs hw h1).imp fun D σ H ⟨H0, en, sr, p⟩ => ⟨H0, en, sr, postS_bind (f := fun d e => ofR (ownAt e s) fun _ => ofR (I e) fun q => ofR (ownAt q.2 s) fun o => ofR (ixR o.2.length q.1) fun j => .next (q.2.set s (.own o.1 (o.2.set j d)))) (D := D) p fun d en1 H01 H1 v _ st s1 r p1 => by
    obtain ⟨o0, e0, p1⟩ := postS_ofR p1 ownAt_nx
    obtain ⟨q, ws, f1, f2, f3, f4⟩ := s1.own s _ _ (ownAt_ok e0)
    refine ⟨_, f1, H01, en1, s1, postS_bind (f := fun i e => ofR (ownAt e s) fun o => ofR (ixR o.2.length i) fun j => .next (e.set s (.own o.1 (o.2.set j d)))) (D := D) p1 fun i en2 H02 H2 w _ st2 s2 r2 p2 => ?_⟩
    obtain ⟨o, e1, p3⟩ := postS_ofR p2 ownAt_nx
    obtain ⟨j, e2, p4⟩ := postS_ofR p3 ixR_nx
    obtain ⟨k, rfl, e3⟩ := ixR_ok e2
    cases r2
    obtain ⟨q', ws', g1, g2, g3, g4⟩ := s2.own s _ _ (ownAt_ok e1)
    rw [f1] at g1
    cases g1
    obtain ⟨m1, m2⟩ := mut_sr s2 (ownAt_ok e1) f1 g2 (RpAll.set (r.mono st2.fm.ex) j g4)
    exact ⟨q, ws', k, j, rfl, rfl, g2, by rw [g4.length]; exact e3, p4 _ _ σ m2 m1⟩⟩
/-- o[i] read, in o[i] op= e -/
theorem pget_list : PGet X (rIxL X.K) := by
  intro pins s σ H o i ov iv Q I r1 r2 h
  obtain ⟨p, xs, k, v, rfl, rfl, hs, hv, q⟩ := h
  cases r1
  obtain ⟨t, rfl⟩ := r2
  obtain ⟨its, rv, pl, hz⟩ := I.list hs
  obtain ⟨j, h1, h2, h3, h4, h5⟩ := atI_get hv
  obtain ⟨w, ew, rw'⟩ := rv.get h2
  have hl := rv.length
  have hn := line63
  have fin : EP X pins σ Q w s := ⟨v, H, I, rw', q⟩
  by_cases h0 : 0 ≤ k
  · have hj : k.toNat = j := by
      rw [seqIndex_of h0 h5] at h1
      exact Option.some.inj h1
    exact wpAny_getItem_list pl.isList h0 (by omega) (by rw [hj]; simpa using ew) fin
  · have hj : (k + (its.toArray.size : Int)).toNat = j := by
      rw [seqIndex_neg (by omega) h4] at h1
      rw [List.size_toArray, ← hl]
      exact Option.some.inj h1
    exact wpAny_getItem_list_neg pl.isList (by omega) (by rw [List.size_toArray] <;> omega) (by omega) (by rw [hj]; simpa using ew) fin
theorem ds_augIx {I F : Sem' PyData} {s : Nat} {op : Operator} {ti : TIp} {f : PyData → PyData → R PyData} {tpos : Pos} (hK : C.K = X.K) (ho : PE X a (tVar s)) (hi : PE X b (tE C I)) (he : PE X c (tE C F)) (hp : PIp X op ti) (hr : Rule2 C ti f)
    (ha : ∀ ov iv new, augStore b ov iv new = (do holding [new, ov, iv] (setItem ov iv new); release [new, ov, iv] []; pure .next) := by intros; rfl) : PS X (.AugAssign (.Subscript a b tpos) op c pos) (tS C (sAugIx s f I F)) :=
  (ps_augS ho hi pget_list he hp set_list ha).imp fun D σ H ⟨H0, en, sr, p⟩ => by
    obtain ⟨o0, e0, p⟩ := postS_ofR p ownAt_nx
    obtain ⟨q, ws, f1, f2, f3, f4⟩ := sr.own s _ _ (ownAt_ok e0)
    refine ⟨_, f1, H0, en, sr, postS_bind (f := fun i e => ofR (ownAt e s) fun o => ofR (ixR o.2.length i) fun j => ofR (R.get o.2[j]?) fun x => ofR (F e) fun q => ofR (lift (f x q.1)) fun d =>
      ofR (ownAt q.2 s) fun o2 => ofR (ixR o2.2.length i) fun j2 => .next (q.2.set s (.own o2.1 (o2.2.set j2 d)))) (D := D) p fun i en1 H01 H1 w _ st s1 r1 p1 => ?_⟩
    obtain ⟨o, e1, p1⟩ := postS_ofR p1 ownAt_nx
    obtain ⟨j, e2, p1⟩ := postS_ofR p1 ixR_nx
    obtain ⟨x, e3, p1⟩ := postS_ofR p1 get_nx
    have e3 := get_ok e3
    obtain ⟨k, rfl, e4⟩ := ixR_ok e2
    cases r1
    obtain ⟨q1, ws1, g1, g2, g3, g4⟩ := s1.own s _ _ (ownAt_ok e1)
    rw [f1] at g1
    cases g1
    obtain ⟨v, hv, rx⟩ := g4.get e3
    refine ⟨q, ws1, k, v, rfl, rfl, by rw [← hK]; exact SqL.of g2, ?_, H01, en1, s1, postS_bind (f := fun d e => ofR (lift (f x d)) fun d =>
      ofR (ownAt e s) fun o2 => ofR (ixR o2.2.length (.int k)) fun j2 => .next (e.set s (.own o2.1 (o2.2.set j2 d)))) (D := D) p1 fun d en2 H02 H2 y _ st2 s2 r2 p2 => ?_⟩
    · unfold atI
      rw [g4.length, e4]
      exact hv
    obtain ⟨z, ez, p2⟩ := postS_ofR p2 lift_nx
    refine hr H02 H2 v y x d z _ s2.good (.inl (rx.mono st2.fm.ex)) (.inl r2) (lift_eq ez) fun H03 H3 u fm g ru => ?_
    have s3 := s2.grown fm g
    obtain ⟨o2, e5, p2⟩ := postS_ofR p2 ownAt_nx
    obtain ⟨j2, e6, p2⟩ := postS_ofR p2 ixR_nx
    obtain ⟨k2, ek, e7⟩ := ixR_ok e6
    cases ek
    obtain ⟨q2, ws2, l1, l2, l3, l4⟩ := s3.own s _ _ (ownAt_ok e5)
    rw [f1] at l1
    cases l1
    obtain ⟨m1, m2⟩ := mut_sr s3 (ownAt_ok e5) f1 l2 (RpAll.set ru j2 l4)
    exact ⟨q, ws2, k, j2, rfl, rfl, l2, by rw [l4.length]; exact e7, p2 _ _ σ (fm.stp.trans m2) m1⟩
/-- x.append(e) -/
theorem ds_app {F : Sem' PyData} {s : Nat} {apos cpos : Pos} (ho : PE X a (tVar s)) (he : PE X b (tE C F))
    (hbase : attributeBase a "append" X.env (eval a X.env) = eval a X.env := by rfl)
    (hfew : ((backTo cpos (starEach (b :: []) X.env)).all (fun x => !x.1) && (backToKw cpos (keywordEach [] X.env)).all (fun x => x.1.isSome)
      && decide ((b :: ([] : List Expr)).length + ([] : List Keyword).length + (if ([] : List Keyword).isEmpty then 0 else 1) < 30)) = true := by rfl)
    (hline : (apos.endLine == cpos.line) = true := by rfl) (hs : starEach (b :: []) X.env = (false, eval b X.env) :: starEach [] X.env := by rfl) (hplain : (backTo cpos (starEach [] X.env)).any (·.1) = false := by rfl)
    (hsw : swapsWith (.Call (.Attribute a "append" apos) [b] [] cpos) none pos.line X.env = pure false := by rfl) : PS X (.Expr (.Call (.Attribute a "append" apos) [b] [] cpos) pos) (tS C (sAppend s F)) :=
  (ps_expr (pe_bm PySem.F.plainAttrs_list PySem.F.slot_list_append PySem.F.type_list_append mt_append ho (pa_cons he pa_nil hs) hbase hfew hline hs hplain) hsw).imp fun D σ H ⟨H0, en, sr, p⟩ => by
    obtain ⟨o0, e0, p⟩ := postS_ofR p ownAt_nx
    obtain ⟨q, ws, f1, f2, f3, f4⟩ := sr.own s _ _ (ownAt_ok e0)
    refine ⟨_, f1, .inl ⟨rfl, _, SqL.of f2⟩, H0, en, sr, postS_bind (f := fun d e => ofR (ownAt e s) fun o => if o.2.length < 100000 then .next (e.set s (.own o.1 (o.2 ++ [d]))) else .bad) (D := D) p fun d en1 H01 H1 w _ st s1 r1 p1 => ?_⟩
    obtain ⟨o, e1, p1⟩ := postS_ofR p1 ownAt_nx
    split at p1
    case isFalse => exact p1.elim
    rename_i hl
    obtain ⟨q1, ws1, g1, g2, g3, g4⟩ := s1.own s _ _ (ownAt_ok e1)
    rw [f1] at g1
    cases g1
    obtain ⟨m1, m2⟩ := mut_sr s1 (ownAt_ok e1) f1 g2 (g4.append (.cons r1 .nil))
    exact ⟨q, ws1, w, rfl, rfl, g2, sz_lt (by rw [g4.length]; exact hl), p1 _ _ σ m2 m1⟩
/-- x.pop(e) -/
theorem de_popAt {F : Sem' PyData} {s : Nat} {apos cpos : Pos} (ho : PE X a (tVar s)) (he : PE X b (tE C F))
    (hbase : attributeBase a "pop" X.env (eval a X.env) = eval a X.env := by rfl)
    (hfew : ((backTo cpos (starEach (b :: []) X.env)).all (fun x => !x.1) && (backToKw cpos (keywordEach [] X.env)).all (fun x => x.1.isSome)
      && decide ((b :: ([] : List Expr)).length + ([] : List Keyword).length + (if ([] : List Keyword).isEmpty then 0 else 1) < 30)) = true := by rfl)
    (hline : (apos.endLine == cpos.line) = true := by rfl) (hs : starEach (b :: []) X.env = (false, eval b X.env) :: starEach [] X.env := by rfl) (hplain : (backTo cpos (starEach [] X.env)).any (·.1) = false := by rfl) :
    PE X (.Call (.Attribute a "pop" apos) [b] [] cpos) (tE C (dPop s F)) :=
  (pe_bm PySem.F.plainAttrs_list PySem.F.slot_list_pop PySem.F.type_list_pop mt_popAt ho (pa_cons he pa_nil hs) hbase hfew hline hs hplain).imp fun σ H Q ⟨H0, en, sr, p⟩ => by
    unfold dPop at p
    cases e0 : ownAt en s with
    | exc n => exact absurd e0 (ownAt_nx n)
    | bad => rw [e0] at p; exact p.elim
    | ok o0 =>
      rw [e0] at p
      obtain ⟨q, ws, f1, f2, f3, f4⟩ := sr.own s _ _ (ownAt_ok e0)
      have p : Post C (fun _ H0' _ v a => Rp C.K H0' v a) H0 H σ en Q (dPopAt s F en) := p
      refine ⟨_, f1, .inl ⟨rfl, _, SqL.of f2⟩, H0, en, sr, post_bind (rel2 := fun _ H0' _ v a => Rp C.K H0' v a) (f := fun d e => ownAt e s >>= fun o => match d with
        | .int k => if -(2 ^ 62) ≤ k ∧ k < 2 ^ 62 then R.get (ixN o.2.length k) >>= fun j => R.get o.2[j]? >>= fun x => .ok (x, e.set s (.own o.1 (o.2.eraseIdx j))) else .bad
        | _ => .bad) (Q2 := Q) p fun d en1 H01 H1 w _ st s1 r1 p1 => ?_⟩
      cases e1 : ownAt en1 s with
      | exc n => exact absurd e1 (ownAt_nx n)
      | bad => rw [e1] at p1; exact p1.elim
      | ok o =>
        rw [e1] at p1
        cases d with
        | int k =>
          have p1 : Post C (fun _ H0' _ v a => Rp C.K H0' v a) H01 H1 σ en1 Q (if -(2 ^ 62) ≤ k ∧ k < 2 ^ 62 then R.get (ixN o.2.length k) >>= fun j => R.get o.2[j]? >>= fun x => .ok (x, en1.set s (.own o.1 (o.2.eraseIdx j))) else .bad) := p1
          split at p1
          case isFalse => exact p1.elim
          rename_i hk
          cases r1
          cases e2 : ixN o.2.length k with
          | none => rw [e2] at p1; exact p1.elim
          | some j =>
            rw [e2] at p1
            have p1 : Post C (fun _ H0' _ v a => Rp C.K H0' v a) H01 H1 σ en1 Q (R.get o.2[j]? >>= fun x => .ok (x, en1.set s (.own o.1 (o.2.eraseIdx j)))) := p1
            cases e3 : o.2[j]? with
            | none => rw [e3] at p1; exact p1.elim
            | some x =>
              rw [e3] at p1
              obtain ⟨q1, ws1, g1, g2, g3, g4⟩ := s1.own s _ _ (ownAt_ok e1)
              rw [f1] at g1
              cases g1
              obtain ⟨v, hv, rx⟩ := g4.get e3
              obtain ⟨m1, m2⟩ := mut_sr s1 (ownAt_ok e1) f1 g2 (g4.eraseIdx j)
              refine ⟨q, ws1, k, j, v, rfl, rfl, g2, by omega, by omega, by rw [g4.length]; exact (ixN_seq e2).1, hv, p1 _ _ v m2 m1 rx⟩
        | _ => exact p1.elim
/-- raise of an own error -/
theorem pmk_own0 {Ca : Addr} {bmB : List Value} {B newId initId : String} {x : Str} {p : Pos} (F : ExcBaseFacts B newId initId bmB) (q : PySem.W.excIn X.K Ca bmB newId = true) (gC : X.mg x = some (.ref Ca))
    (kC : PySem.W.keepIn X.K (.ref Ca) = true) (r : Raises X (.ref Ca)) (hg : Gl X x) (hdb : (x == ("__debug__" : Str)) = false := by decide) :
    PMk X (.Call (.Name x p) [] [] pos) (fun _ H Q => Q (.ref Ca) none H) := by
  intro pins s σ H Q I h
  refine wpAny_Call_Name_kw (ld_glob I hg gC ?_ hdb)
  refine PySem.W.callWith_K0 I.kIn kC ?_
  show wpAny _ _ (call (.ref Ca) []) _ _ _
  obtain ⟨bm, N, nm, qn, bs, hdct, sn, sub, ab, col, dd, k0, k1, k2, k3, k5, mN, hC, hN, hni, T⟩ := exc_obj I.kIn q
  refine wpAny_call_exc_subT F T hC hN hni (fun h' e hm => ?_) (by show 0 ≤ sizeLine; exact Nat.zero_le _)
  exact mk_of I hm r h (I.hok.gone hm.new)
theorem ds_raise0 {Ca : Addr} {bmB : List Value} {B newId initId : String} {x : Str} {p pos2 : Pos} {n : Nat} (hc : X.calm = true) (tk : Takes X (fun cls d _ H => C.E cls d H)) (F : ExcBaseFacts B newId initId bmB) (q : PySem.W.excIn X.K Ca bmB newId = true) (gC : X.mg x = some (.ref Ca))
    (kC : PySem.W.keepIn X.K (.ref Ca) = true) (r : Raises X (.ref Ca)) (hn : C.ca n = Ca) (hg : Gl X x) (hdb : (x == ("__debug__" : Str)) = false := by decide) : PS X (.Raise (some (.Call (.Name x p) [] [] pos)) none pos2) (tS C (sExc n)) :=
  (ps_raise hc tk (pmk_own0 F q gC kC r hg hdb)).imp fun D σ H ⟨H0, en, s, p⟩ => by
    rw [← hn]
    exact p H0 H Fm.refl s.ex s.tb s.nt
end
end PD
end
section
namespace PD
open PySem PySem.Spec PyProof.Rows L2 Evl

/-! ### operators over data -/
def bigB : Nat := 2 ^ 100000
def MulOk (i j : Int) : Prop := (i.natAbs < 2 ^ 63 ∨ j.natAbs < 2 ^ 63) ∨ (i.natAbs < bigB ∧ j.natAbs < bigB)
instance (i j : Int) : Decidable (MulOk i j) := by unfold MulOk; infer_instance
def few2 {α : Type} (n : Nat) (x : R α) : R α := if n ≤ 100000 then x else .bad
theorem few2_ok {α : Type} {n : Nat} {x : R α} {z : α} (h : few2 n x = .ok z) : n ≤ 100000 ∧ x = .ok z := by
  unfold few2 at h
  split at h
  · exact ⟨by assumption, h⟩
  · cases h
def pAdd (x y : PyData) : R PyData := match x, y with
  | .int a, .int b => .ok (.int (a + b))
  | _, _ => .bad
def pSub (x y : PyData) : R PyData := match x, y with
  | .int a, .int b => .ok (.int (a - b))
  | _, _ => .bad
def pMul (x y : PyData) : R PyData := match x, y with
  | .int a, .int b => if MulOk a b then .ok (.int (a * b)) else .bad
  | _, _ => .bad
def pFdiv (x y : PyData) : R PyData := match x, y with
  | .int a, .int b => if 0 < b ∧ b.natAbs < 2 ^ 8000 then .ok (.int (a / b)) else .bad
  | _, _ => .bad
def pMod (x y : PyData) : R PyData := match x, y with
  | .int a, .int b => if 0 < b then .ok (.int (a % b)) else .bad
  | _, _ => .bad
def pPow (x y : PyData) : R PyData := match x, y with
  | .int a, .int b => if a.natAbs < 2 ^ 63 ∧ 0 ≤ b ∧ b ≤ 1000 then .ok (.int (a ^ b.toNat)) else .bad
  | _, _ => .bad
def pNeg (x : PyData) : R PyData := match x with
  | .int a => .ok (.int (-a))
  | _ => .bad
def pCatT (x y : PyData) : R PyData := match x, y with
  | .tuple a, .tuple b => few2 (a.length + b.length) (.ok (.tuple (a ++ b)))
  | _, _ => .bad
def pCat (x y : PyData) : R (List PyData) := match x, y with
  | .list a, .list b => few2 (a.length + b.length) (.ok (a ++ b))
  | _, _ => .bad
def pLt (x y : PyData) : R PyData := match x, y with
  | .int a, .int b => .ok (.bool (decide (a < b)))
  | _, _ => .bad
def pLe (x y : PyData) : R PyData := match x, y with
  | .int a, .int b => .ok (.bool (decide (a ≤ b)))
  | _, _ => .bad
def pGt (x y : PyData) : R PyData := match x, y with
  | .int a, .int b => .ok (.bool (decide (b < a)))
  | _, _ => .bad
def pGe (x y : PyData) : R PyData := match x, y with
  | .int a, .int b => .ok (.bool (decide (b ≤ a)))
  | _, _ => .bad
def plainD (d : PyData) : Bool := nd d && SeqAt.shaped d
def pEq (x y : PyData) : R PyData := if plainD x = true ∧ plainD y = true then .ok (.bool (PyData.eqv x y)) else .bad
def pNe (x y : PyData) : R PyData := if plainD x = true ∧ plainD y = true then .ok (.bool (!PyData.eqv x y)) else .bad
def isNon (x : PyData) : Bool := match x with
  | .none => true
  | _ => false
def pIsN (x y : PyData) : R PyData := match y with
  | .none => .ok (.bool (isNon x))
  | _ => .bad
def pNotN (x y : PyData) : R PyData := match y with
  | .none => .ok (.bool (!isNon x))
  | _ => .bad
def flatD : PyData → Bool
  | .none => true
  | .bool _ => true
  | .int _ => true
  | .str _ => true
  | _ => false
/-- x in a list, a tuple of flat things; a list of data -/
def pIn (x y : PyData) : R PyData := match y with
  | .list ds => if plainD x = true ∧ plainD (.list ds) = true then .ok (.bool (ds.any fun z => PyData.eqv z x)) else .bad
  | .tuple ds => if flatD x = true ∧ ds.all flatD = true then .ok (.bool (ds.any fun z => PyData.eqv z x)) else .bad
  | _ => .bad
def pNotIn (x y : PyData) : R PyData := match y with
  | .list ds => if plainD x = true ∧ plainD (.list ds) = true then .ok (.bool (!ds.any fun z => PyData.eqv z x)) else .bad
  | .tuple ds => if flatD x = true ∧ ds.all flatD = true then .ok (.bool (!ds.any fun z => PyData.eqv z x)) else .bad
  | _ => .bad
def pIx (x y : PyData) : R PyData := match x, y with
  | .list ds, .int i => R.get (atI ds i)
  | .tuple ds, .int i => R.get (atI ds i)
  | _, _ => .bad

section
variable {C : Ct} {X : Cx} {H0 H : Hp} {x y v : V} {dx dy d : PyData} {Q : VK}
theorem MulOk.imp {i j : Int} (h : MulOk i j) : CMul i j ∨ CMulW i j := by
  have p : (2 : Nat) ^ 63 < 2 ^ 64 := by decide
  rcases h with (h | h) | ⟨h1, h2⟩
  · exact .inl (.inl ⟨by omega, by omega⟩)
  · exact .inl (.inr ⟨by omega, by omega⟩)
  · exact .inr (wide_mul h1 h2 (by decide) (by decide) (by decide))
theorem op_mulA : OpR X (binaryOp .Mult) (fun x y H Q => rI CMul (fun i j => .int (i * j)) x y H Q ∨ rI CMulW (fun i j => .int (i * j)) x y H Q) := op_mul.or op_mulW
theorem r_add : Rule2 C (rI0 fun i j => .int (i + j)) pAdd := fun H0 H x y dx dy d Q g rx ry e o => by
  unfold pAdd at e
  split at e
  · cases e
    rw [rx.int, ry.int]
    exact ⟨_, _, rfl, rfl, o.now g (.int _)⟩
  · cases e
theorem r_sub : Rule2 C (rI0 fun i j => .int (i - j)) pSub := fun H0 H x y dx dy d Q g rx ry e o => by
  unfold pSub at e
  split at e
  · cases e
    rw [rx.int, ry.int]
    exact ⟨_, _, rfl, rfl, o.now g (.int _)⟩
  · cases e
theorem r_ipadd : Rule2 C (ipI fun i j => i + j) pAdd := fun H0 H x y dx dy d Q g rx ry e o => by
  unfold pAdd at e
  split at e
  · cases e
    rw [rx.int, ry.int]
    exact ⟨_, _, rfl, rfl, o.now g (.int _)⟩
  · cases e
theorem r_ipsub : Rule2 C (ipI fun i j => i - j) pSub := fun H0 H x y dx dy d Q g rx ry e o => by
  unfold pSub at e
  split at e
  · cases e
    rw [rx.int, ry.int]
    exact ⟨_, _, rfl, rfl, o.now g (.int _)⟩
  · cases e
theorem r_mul : Rule2 C (fun x y H Q => rI CMul (fun i j => .int (i * j)) x y H Q ∨ rI CMulW (fun i j => .int (i * j)) x y H Q) pMul := fun H0 H x y dx dy d Q g rx ry e o => by
  unfold pMul at e
  split at e
  · split at e
    · rename_i hm
      cases e
      rw [rx.int, ry.int]
      exact hm.imp.imp (fun h => ⟨_, _, rfl, rfl, h, o.now g (.int _)⟩) (fun h => ⟨_, _, rfl, rfl, h, o.now g (.int _)⟩)
    · cases e
  · cases e
theorem r_fdiv : Rule2 C (rI CDivW fun i j => .int (i / j)) pFdiv := fun H0 H x y dx dy d Q g rx ry e o => by
  unfold pFdiv at e
  split at e
  · split at e
    · rename_i hm
      cases e
      rw [rx.int, ry.int]
      exact ⟨_, _, rfl, rfl, wide_div hm.1 hm.2 (by decide) (by decide), o.now g (.int _)⟩
    · cases e
  · cases e
theorem r_mod : Rule2 C (rI (fun _ j => 0 < j) fun i j => .int (i % j)) pMod := fun H0 H x y dx dy d Q g rx ry e o => by
  unfold pMod at e
  split at e
  · split at e
    · rename_i hm
      cases e
      rw [rx.int, ry.int]
      exact ⟨_, _, rfl, rfl, hm, o.now g (.int _)⟩
    · cases e
  · cases e
theorem r_pow : Rule2 C (rI CPow fun i j => .int (i ^ j.toNat)) pPow := fun H0 H x y dx dy d Q g rx ry e o => by
  unfold pPow at e
  split at e
  · split at e
    · rename_i hm
      cases e
      rw [rx.int, ry.int]
      exact ⟨_, _, rfl, rfl, ⟨hm.2.1, by omega, by have : (2 : Nat) ^ 63 < 2 ^ 64 := by decide
                                                   omega⟩, o.now g (.int _)⟩
    · cases e
  · cases e
theorem r_neg : Rule1 C (rU fun i => .int (-i)) pNeg := fun H0 H x dx d Q g rx e o => by
  unfold pNeg at e
  split at e
  · cases e
    rw [rx.int]
    exact ⟨_, rfl, o.now g (.int _)⟩
  · cases e
theorem r_lt : Rule2 C (rI0 fun i j => .bl (decide (i < j))) pLt := fun H0 H x y dx dy d Q g rx ry e o => by
  unfold pLt at e
  split at e
  · cases e
    rw [rx.int, ry.int]
    exact ⟨_, _, rfl, rfl, o.now g (.bl _)⟩
  · cases e
theorem r_le : Rule2 C (rI0 fun i j => .bl (decide (i ≤ j))) pLe := fun H0 H x y dx dy d Q g rx ry e o => by
  unfold pLe at e
  split at e
  · cases e
    rw [rx.int, ry.int]
    exact ⟨_, _, rfl, rfl, o.now g (.bl _)⟩
  · cases e
theorem r_gt : Rule2 C (rI0 fun i j => .bl (decide (j < i))) pGt := fun H0 H x y dx dy d Q g rx ry e o => by
  unfold pGt at e
  split at e
  · cases e
    rw [rx.int, ry.int]
    exact ⟨_, _, rfl, rfl, o.now g (.bl _)⟩
  · cases e
theorem r_ge : Rule2 C (rI0 fun i j => .bl (decide (j ≤ i))) pGe := fun H0 H x y dx dy d Q g rx ry e o => by
  unfold pGe at e
  split at e
  · cases e
    rw [rx.int, ry.int]
    exact ⟨_, _, rfl, rfl, o.now g (.bl _)⟩
  · cases e
theorem plainD_and {d : PyData} (h : plainD d = true) : nd d = true ∧ SeqAt.shaped d = true := (Bool.and_eq_true _ _).mp h
theorem r_eq : Rule2 C (rEqD C.K) pEq := fun H0 H x y dx dy d Q g rx ry e o => by
  unfold pEq at e
  split at e
  · rename_i hm
    cases e
    exact ⟨dx, dy, (rx.mono g.ex).dp (plainD_and hm.1).1, (ry.mono g.ex).dp (plainD_and hm.2).1, (plainD_and hm.1).2, (plainD_and hm.2).2, o.now g (.bl _)⟩
  · cases e
theorem r_ne : Rule2 C (rNeD C.K) pNe := fun H0 H x y dx dy d Q g rx ry e o => by
  unfold pNe at e
  split at e
  · rename_i hm
    cases e
    exact ⟨dx, dy, (rx.mono g.ex).dp (plainD_and hm.1).1, (ry.mono g.ex).dp (plainD_and hm.2).1, (plainD_and hm.1).2, (plainD_and hm.2).2, o.now g (.bl _)⟩
  · cases e
theorem rpx_non (h : RpX C.K H0 H v d) : decide (v = .non) = isNon d := by
  rcases h with h | ⟨p, ws, ds, rfl, rfl, _, _⟩
  · cases h <;> rfl
  · rfl
theorem r_isN : Rule2 C (fun x y H Q => y = .non ∧ Q (.bl (decide (x = .non))) H) pIsN := fun H0 H x y dx dy d Q g rx ry e o => by
  unfold pIsN at e
  split at e
  · cases e
    exact ⟨ry.non, o.now g (by rw [rpx_non rx]; exact .bl _)⟩
  · cases e
theorem r_notN : Rule2 C (fun x y H Q => y = .non ∧ Q (.bl (!decide (x = .non))) H) pNotN := fun H0 H x y dx dy d Q g rx ry e o => by
  unfold pNotN at e
  split at e
  · cases e
    exact ⟨ry.non, o.now g (by rw [rpx_non rx]; exact .bl _)⟩
  · cases e
theorem eqV_eqv {a b : V} {da db : PyData} (ha : Rp C.K H0 a da) (hb : Rp C.K H0 b db) (fa : flatD da = true) (fb : flatD db = true) : eqV a b = PyData.eqv da db ∧ flatV a = true ∧ flatV b = true := by
  cases ha <;> first | (simp [flatD] at fa; done) | skip
  all_goals (cases hb <;> first | (simp [flatD] at fb; done) | skip)
  all_goals (refine ⟨?_, rfl, rfl⟩; simp [eqV, PyData.eqv])
theorem inV_any {x : V} {dx : PyData} (hx : Rp C.K H0 x dx) (fx : flatD dx = true) : ∀ {vs : List V} {ds : List PyData}, RpAll C.K H0 vs ds → ds.all flatD = true → inV x vs = (ds.any fun z => PyData.eqv z dx) ∧ vs.all flatV = true
  | [], [], _, _ => ⟨rfl, rfl⟩
  | v :: vs, d :: ds, .cons h t, f => by
    rw [List.all_cons, Bool.and_eq_true] at f
    obtain ⟨e1, e2, e3⟩ := eqV_eqv h hx f.1 fx
    obtain ⟨i1, i2⟩ := inV_any hx fx t f.2
    refine ⟨?_, by rw [List.all_cons, e2, i2]; rfl⟩
    unfold inV at i1 ⊢
    rw [List.any_cons, List.any_cons, e1, i1]
theorem flat_rp (h : RpX C.K H0 H v d) (f : flatD d = true) : Rp C.K H0 v d := by
  rcases h with h | ⟨p, ws, ds, rfl, rfl, _, _⟩
  · exact h
  · cases f
theorem flat_tup {ds : List PyData} (h : RpX C.K H0 H v (.tuple ds)) : Rp C.K H0 v (.tuple ds) := by
  rcases h with h | ⟨p, ws, ds, rfl, e, _, _⟩
  · exact h
  · cases e
theorem op_inA (hu : X.A.units + 65 < cLine) : OpR X (compareOp .In) (fun x y H Q => rInD X.K x y H Q ∨ rIn X.K false x y H Q) := (op_inD hu).or op_in_seq
theorem op_notInA (hu : X.A.units + 65 < cLine) : OpR X (compareOp .NotIn) (fun x y H Q => rNotInD X.K x y H Q ∨ rIn X.K true x y H Q) := (op_notInD hu).or op_notIn_seq
theorem r_in : Rule2 C (fun x y H Q => rInD C.K x y H Q ∨ rIn C.K false x y H Q) pIn := fun H0 H x y dx dy d Q g rx ry e o => by
  unfold pIn at e
  split at e
  · split at e
    · rename_i hm
      cases e
      exact .inl ⟨dx, _, (rx.mono g.ex).dp (plainD_and hm.1).1, (ry.mono g.ex).dp (plainD_and hm.2).1, (plainD_and hm.1).2, (plainD_and hm.2).2, o.now g (.bl _)⟩
    · cases e
  · split at e
    · rename_i hm
      cases e
      obtain ⟨a, vs, e1, e2, e3⟩ := ry.tup g.ex
      obtain ⟨i1, i2⟩ := inV_any (flat_rp rx hm.1) hm.1 e3 hm.2
      refine .inr ⟨a, vs, e1, .inr e2, (eqV_eqv (flat_rp rx hm.1) (flat_rp rx hm.1) hm.1 hm.1).2.1, i2, o.now g ?_⟩
      rw [i1]
      exact .bl _
    · cases e
  · cases e
theorem r_notIn : Rule2 C (fun x y H Q => rNotInD C.K x y H Q ∨ rIn C.K true x y H Q) pNotIn := fun H0 H x y dx dy d Q g rx ry e o => by
  unfold pNotIn at e
  split at e
  · split at e
    · rename_i hm
      cases e
      exact .inl ⟨dx, _, (rx.mono g.ex).dp (plainD_and hm.1).1, (ry.mono g.ex).dp (plainD_and hm.2).1, (plainD_and hm.1).2, (plainD_and hm.2).2, o.now g (.bl _)⟩
    · cases e
  · split at e
    · rename_i hm
      cases e
      obtain ⟨a, vs, e1, e2, e3⟩ := ry.tup g.ex
      obtain ⟨i1, i2⟩ := inV_any (flat_rp rx hm.1) hm.1 e3 hm.2
      refine .inr ⟨a, vs, e1, .inr e2, (eqV_eqv (flat_rp rx hm.1) (flat_rp rx hm.1) hm.1 hm.1).2.1, i2, o.now g ?_⟩
      rw [i1]
      exact .bl _
    · cases e
  · cases e
theorem rp_at {vs : List V} {ds : List PyData} {i : Int} (h : RpAll C.K H0 vs ds) (e : atI ds i = some d) : ∃ v, atI vs i = some v ∧ Rp C.K H0 v d := by
  unfold atI at e ⊢
  rw [h.length]
  cases q : ixN ds.length i with
  | none => rw [q] at e; cases e
  | some j =>
    rw [q] at e
    exact h.get e
theorem ix_two : IxR X (fun x y H Q => rIxL X.K x y H Q ∨ rIxT X.K x y H Q) := ix_list.or ix_tup
theorem r_ix : Rule2 C (fun x y H Q => rIxL C.K x y H Q ∨ rIxT C.K x y H Q) pIx := fun H0 H x y dx dy d Q g rx ry e o => by
  unfold pIx at e
  split at e
  · obtain ⟨a, vs, e1, e2, e3⟩ := rx.list g.ex
    obtain ⟨v, h1, h2⟩ := rp_at e3 (get_ok e)
    exact .inl ⟨a, vs, _, v, e1, ry.int, .inl e2, h1, o.now g h2⟩
  · obtain ⟨a, vs, e1, e2, e3⟩ := rx.tup g.ex
    obtain ⟨v, h1, h2⟩ := rp_at e3 (get_ok e)
    exact .inr ⟨a, vs, _, v, e1, ry.int, e2, h1, o.now g h2⟩
  · cases e
/-- t + u -/
theorem r_catT : Rule2 C (rCatA C.K) pCatT := fun H0 H x y dx dy d Q g rx ry e o => by
  unfold pCatT at e
  split at e
  · obtain ⟨hl, e⟩ := few2_ok e
    cases e
    obtain ⟨a, vs, e1, e2, e3⟩ := rx.tup g.ex
    obtain ⟨b, ws, f1, f2, f3⟩ := ry.tup g.ex
    have hz : vs.length + ws.length ≤ sizeLine := sz_of (by rw [e3.length, f3.length]; exact hl)
    have ra : Rp C.K H x (.tuple _) := rx.mono g.ex
    have rb : Rp C.K H y (.tuple _) := ry.mono g.ex
    refine ⟨a, b, vs, ws, e1, f1, e2, f2, hz, fun z => ?_, fun _ z => ?_, fun _ _ p hp => ?_⟩
    · subst z
      cases e3
      subst f1
      exact o.now g (flat_tup ry)
    · subst z
      cases f3
      rw [List.append_nil] at o
      subst e1
      exact o.now g (flat_tup rx)
    · exact o _ _ _ (Fm.new g.ex hp) (g.new hp fun _ z => by cases z) (.tup (SqT.of upd_same) ((e3.append f3).mono (Ex.new (fresh_back g.ex hp))))
  · cases e
/-- xs + ys -/
def rCatR : R2 := fun x y H Q => ∃ l b xs zs, x = .ref l ∧ y = .ref b ∧ Rd H l (.lst xs) ∧ Rd H b (.lst zs) ∧ xs.length + zs.length ≤ sizeLine ∧ ∀ p, H p = none → Q (.ref p) (upd H p (.lst (xs ++ zs)))
theorem op_catR : OpR X (binaryOp .Add) rCatR := by
  intro pins s σ H x y v u Q I rx ry h
  obtain ⟨l, b, xs, zs, rfl, rfl, hH, hB, hz, q⟩ := h
  cases rx
  cases ry
  obtain ⟨z, its, n, r, e⟩ := hH.ok I.hok
  obtain ⟨z2, its2, n2, r2, e2⟩ := hB.ok I.hok
  have hl := r.length
  have hl2 := r2.length
  refine PySem.P.add_list e e2 ?_ (by rw [List.size_toArray, List.size_toArray]; omega)
  have ea : its.toArray ++ its2.toArray = (its ++ its2).toArray := by simp
  rw [ea]
  exact ⟨.ref _, _, I.lnew (t' := s.toks) (r.append r2) (by rw [List.length_append]; omega), rfl, q _ I.fresh⟩
theorem r_cat : Rule2N C rCatR pCat := fun H0 H x y dx dy ds Q g rx ry e o => by
  unfold pCat at e
  split at e
  · obtain ⟨hl, e⟩ := few2_ok e
    cases e
    obtain ⟨a, vs, e1, e2, e3⟩ := rx.list g.ex
    obtain ⟨b, ws, f1, f2, f3⟩ := ry.list g.ex
    exact ⟨a, b, vs, ws, e1, f1, e2, f2, sz_of (by rw [e3.length, f3.length]; exact hl), fun p hp => o p _ _ (Fm.newO hp) (g.newO hp) hp upd_same (e3.append f3)⟩
  · cases e
/-- [x] * n -/
def pRep (x y : PyData) : R (List PyData) := match x, y with
  | .list a, .int n => if 0 ≤ n ∧ n ≤ 1000 ∧ a.length ≤ 100 then .ok (List.replicate n.toNat a).flatten else .bad
  | _, _ => .bad
end
end PD
end
section
/-! rules of the hand layer that it lacks: zip of a list and a tuple in any mix, enumerate of a tuple, sum of a tuple, repr of data, a list times a number -/
namespace PD
open PySem PySem.Spec PyProof.Rows L2 Evl

/-- a sequence: a list or a tuple -/
def Sq (K : PySem.W.Frag) (H : Hp) : Bool → Addr → List V → Prop
  | false => SqL K H
  | true => SqT K H
def SrcAt (h : Heap) : Bool → Addr → Array Value → Prop
  | false => h.IsList
  | true => h.IsTuple
def ItAt (h : Heap) : Bool → Addr → Addr → Nat → Prop
  | false => h.IsListIter
  | true => h.IsTupleIter
def itObj (b : Bool) (a : Addr) : Obj := { cls := .type (if b then "tuple_iterator" else "list_iterator"), data := .fields #[.ref a, .int 0 0] }
section
variable {X : Cx} {pins : List (Addr × Obj)} {σ : L2.St} {H : Hp} {s : Shared} {a : Addr} {b : Bool} {xs ys : List V}
theorem _root_.L2.Inv.sq (I : Inv X pins σ H s) (h : Sq X.K H b a xs) : ∃ its : List Value, Vals xs its ∧ SrcAt s.heap b a its.toArray := by
  cases b with
  | false =>
    obtain ⟨its, r, p, _⟩ := I.list h
    exact ⟨its, r, p.isList⟩
  | true =>
    obtain ⟨its, r, p, _⟩ := I.tuple h
    exact ⟨its, r, p⟩
theorem _root_.L2.Inv.sq_inj (I : Inv X pins σ H s) (h : Sq X.K H b a xs) (h' : Sq X.K H b a ys) : xs = ys := by
  cases b with
  | false => exact I.list_inj h h'
  | true => exact I.tuple_inj h h'
theorem src_lt {h : Heap} {its : Array Value} (p : SrcAt h b a its) : a < h.objs.size := by
  cases b with
  | false => obtain ⟨_, e, _⟩ := p; exact Heap.lt_size e
  | true => obtain ⟨_, e, _⟩ := p; exact Heap.lt_size e
theorem begins_sq (a : Addr) (its : Array Value) : Begins (.ref a) (itObj b a) fun h => SrcAt h b a its := by
  cases b with
  | false => exact begins_list a its
  | true => exact begins_tuple a its
theorem itAt_obj {h : Heap} {it : Addr} (e : h.get? it = some (itObj b a)) : ItAt h b it a 0 := by
  cases b with
  | false => exact ⟨_, e, rfl, rfl⟩
  | true => exact ⟨_, e, rfl, rfl⟩
theorem draws_sq {prog : Program} {w : World} {A : Around} (hh : A.handled = none) (it l : Addr) (hne : l ≠ it) (items : Array Value) :
    Draws prog w A it [it, l] items.size (fun i v => items[i]? = some v) (fun i h => ItAt h b it l i ∧ SrcAt h b l items) := by
  cases b with
  | false => exact Draws.list hh it l hne items
  | true => exact Draws.tuple hh it l hne items
theorem itAt_live {h : Heap} {it l : Addr} {i : Nat} (st : ItAt h b it l i) : ∃ o, h.get? it = some o ∧ ∀ v, o.data ≠ .cell v := by
  cases b with
  | false => obtain ⟨o, e, _, d⟩ := st; exact ⟨o, e, fun v z => by rw [d] at z; cases z⟩
  | true => obtain ⟨o, e, _, d⟩ := st; exact ⟨o, e, fun v z => by rw [d] at z; cases z⟩
theorem itAt_keep {h h' : Heap} {it l : Addr} {i : Nat} (st : ItAt h b it l i) (k : ∀ o, h.get? it = some o → h'.get? it = some o) : ItAt h' b it l i := by
  cases b with
  | false => exact Heap.IsListIter.at st k
  | true => exact Heap.IsTupleIter.at st k
end
def Itzu (K : PySem.W.Frag) (b1 b2 : Bool) (a1 a2 : Addr) : It :=
  ⟨fun i H => ∃ (xs ys : List V) (x y : V), Sq K H b1 a1 xs ∧ Sq K H b2 a2 ys ∧ xs[i]? = some x ∧ ys[i]? = some y,
    fun i H v H' => ∃ T x y, v = .ref T ∧ H T = none ∧ H' = upd H T (.tup [x, y]) ∧ (∀ xs, Sq K H b1 a1 xs → xs[i]? = some x) ∧ ∀ ys, Sq K H b2 a2 ys → ys[i]? = some y,
    fun i H => ∃ xs ys : List V, Sq K H b1 a1 xs ∧ Sq K H b2 a2 ys ∧ min xs.length ys.length = i⟩
structure ZApart (z TI TO i1 i2 a1 a2 : Addr) : Prop where
  sep : ZipSep2 z TI TO i1 i2 [i1, a1] [i2, a2]
  n1 : a1 ≠ i1
  n2 : a2 ≠ i2
theorem turn_zipU {P : Program} {w : World} {K : PySem.W.Frag} {elts : List Expr} {kk : Nat} {tpos : Pos} {b1 b2 : Bool} {a1 a2 z TI TO i1 i2 : Addr} (D : ZApart z TI TO i1 i2 a1 a2) :
    Turn P w K (.Tuple elts kk tpos) (Itzu K b1 b2 a1 a2) [z, TI, TO, i1, i2] z (fun i h => IsZip h z TI TO .none ∧ IsTupOf2 h TI (.ref i1) (.ref i2) ∧ (∃ x y, IsTupOf2 h TO x y) ∧ ItAt h b1 i1 a1 i ∧ ItAt h b2 i2 a2 i) where
  mem := by simp
  obj := fun i h st c hc => by
    obtain ⟨hz, hTI, ⟨x, y, hTO⟩, h1, h2⟩ := st
    have e' : c = z ∨ c = TI ∨ c = TO ∨ c = i1 ∨ c = i2 := by simpa using hc
    rcases e' with q | q | q | q | q
    · rw [q]; exact ⟨_, hz, fun v q => nomatch q⟩
    · rw [q]; exact ⟨_, hTI, fun v q => nomatch q⟩
    · rw [q]; exact ⟨_, hTO, fun v q => nomatch q⟩
    · rw [q]; exact itAt_live h1
    · rw [q]; exact itAt_live h2
  keep := fun i h h' st k => by
    obtain ⟨hz, hTI, ⟨x, y, hTO⟩, h1, h2⟩ := st
    exact ⟨k z (by simp) _ hz, k TI (by simp) _ hTI, ⟨x, y, k TO (by simp) _ hTO⟩, itAt_keep h1 fun o q => k i1 (by simp) o q, itAt_keep h2 fun o q => k i2 (by simp) o q⟩
  item := by
    intro X hP hw hK hc i pins s σ H E I hf st hg
    subst hP hw hK
    obtain ⟨hz, hTI, hTO, h1, h2⟩ := st
    obtain ⟨xs, ys, x, y, hqx, hqy, hx, hy⟩ := hg
    obtain ⟨its, rv, p⟩ := I.sq hqx
    obtain ⟨its2, rv2, p2⟩ := I.sq hqy
    obtain ⟨u, hu, ru⟩ := rv.get hx
    obtain ⟨u2, hu2, ru2⟩ := rv2.get hy
    have hh : X.A.in1.handled = none := I.ok.hd hc
    have W := GoesN.zip2 (prog := X.prog) (w := X.w) (A := X.A) (elts := elts) (x1 := kk) (pos := tpos) D.sep (draws_sq (b := b1) hh i1 a1 D.n1 its.toArray) (draws_sq (b := b2) hh i2 a2 D.n2 its2.toArray)
    have hlt : i < min its.toArray.size its2.toArray.size := by
      have := (List.getElem?_eq_some_iff.mp hu).1
      have := (List.getElem?_eq_some_iff.mp hu2).1
      simp only [List.size_toArray]
      omega
    have lt : ∀ c ∈ [z, TI, TO, i1, i2], c < s.heap.objs.size := fun c hcm => by
      have e' : c = z ∨ c = TI ∨ c = TO ∨ c = i1 ∨ c = i2 := by simpa using hcm
      obtain ⟨x0, y0, hTO⟩ := hTO
      rcases e' with q | q | q | q | q
      · rw [q]; exact Heap.lt_size hz
      · rw [q]; exact Heap.lt_size hTI
      · rw [q]; exact Heap.lt_size hTO
      · rw [q]; obtain ⟨_, e1, _⟩ := itAt_live h1; exact Heap.lt_size e1
      · rw [q]; obtain ⟨_, e2, _⟩ := itAt_live h2; exact Heap.lt_size e2
    refine wpAny_mono (W.goes i s (fun v s2 => ∃ x H', Inv X pins σ H' s2 ∧ RelV x v ∧ (Itzu X.K b1 b2 a1 a2).yld i H x H' ∧ (IsZip s2.heap z TI TO .none ∧ IsTupOf2 s2.heap TI (.ref i1) (.ref i2) ∧ (∃ x y, IsTupOf2 s2.heap TO x y) ∧ ItAt s2.heap b1 i1 a1 (i + 1) ∧ ItAt s2.heap b2 i2 a2 (i + 1)) ∧ ∀ b ∈ [z, TI, TO, i1, i2], H' b = none) E hlt ⟨hz, hTI, hTO, ⟨h1, p⟩, h2, p2⟩ fun v h' tk ⟨T, u', u2', ev, hT, hu', hu2', hTup⟩ st' hk htk => ?_) (fun r s1 q => q) fun _ _ q => q
    subst ev
    have eu : u' = u := by
      have e1 : its.toArray[i]? = some u := by simpa using hu
      have : its.toArray[i]? = some u' := hu'
      rw [e1] at this; exact (Option.some.inj this).symm
    have eu2 : u2' = u2 := by
      have e1 : its2.toArray[i]? = some u2 := by simpa using hu2
      have : its2.toArray[i]? = some u2' := hu2'
      rw [e1] at this; exact (Option.some.inj this).symm
    subst eu eu2
    have new : ObjOk X.prog X.w (upd H T (.tup [x, y])) h' T (.tup [x, y]) := ⟨by show 2 ≤ sizeLine; decide, [u', u2'], .cons ru (.cons ru2 .nil), hTup⟩
    have I1 : Inv X pins σ (upd H T (.tup [x, y])) { s with heap := h', toks := tk } :=
      I.turnedNew (t' := tk) (ch := [z, TI, TO, i1, i2]) (fun c o hb q => hk c o (fun q' => hb (by
        have e' : c = z ∨ c = TO ∨ c = i1 ∨ c = i2 := by simpa using q'
        rcases e' with q | q | q | q <;> simp [q])) q) hf hT new
    refine ⟨.ref T, _, I1, rfl, ⟨T, x, y, rfl, I.hok.fresh hT, rfl, fun l hl => by rw [I.sq_inj hl hqx]; exact hx, fun l hl => by rw [I.sq_inj hl hqy]; exact hy⟩, ⟨st'.1, st'.2.1, st'.2.2.1, st'.2.2.2.1.1, st'.2.2.2.2.1⟩, fun c hcm => ?_⟩
    rw [upd_ne (Nat.ne_of_lt (Nat.lt_of_lt_of_le (lt c hcm) hT))]
    exact (hf c hcm).1
  done := by
    intro X hP hw hK hc i pins s σ H E I hf st hg
    subst hP hw hK
    obtain ⟨hz, hTI, hTO, h1, h2⟩ := st
    obtain ⟨xs, ys, hqx, hqy, hend⟩ := hg
    obtain ⟨its, rv, p⟩ := I.sq hqx
    obtain ⟨its2, rv2, p2⟩ := I.sq hqy
    have l1 := rv.length
    have l2 := rv2.length
    have hh : X.A.in1.handled = none := I.ok.hd hc
    have W := GoesN.zip2 (prog := X.prog) (w := X.w) (A := X.A) (elts := elts) (x1 := kk) (pos := tpos) D.sep (draws_sq (b := b1) hh i1 a1 D.n1 its.toArray) (draws_sq (b := b2) hh i2 a2 D.n2 its2.toArray)
    have ei : min its.toArray.size its2.toArray.size = i := by simp only [List.size_toArray]; omega
    have st : IsZip s.heap z TI TO .none ∧ IsTupOf2 s.heap TI (.ref i1) (.ref i2) ∧ (∃ a1 a2, IsTupOf2 s.heap TO a1 a2) ∧ (ItAt s.heap b1 i1 a1 (min its.toArray.size its2.toArray.size) ∧ SrcAt s.heap b1 a1 its.toArray) ∧ (ItAt s.heap b2 i2 a2 (min its.toArray.size its2.toArray.size) ∧ SrcAt s.heap b2 a2 its2.toArray) := by
      rw [ei]; exact ⟨hz, hTI, hTO, ⟨h1, p⟩, h2, p2⟩
    refine W.stops s (fun s1 => Inv X pins σ H s1) E st fun h' tk hk htk => I.turnedL (t' := tk) (ch := [z, TI, TO, i1, i2]) (fun c o hb q => hk c o (fun q' => hb (by
        have e' : c = z ∨ c = TO ∨ c = i1 ∨ c = i2 := by simpa using q'
        rcases e' with q | q | q | q <;> simp [q])) q) hf
  self := fun A i s Q E st h => wpAny_pyIter_zip st.1 h
def iZipU (K : PySem.W.Frag) (ta : TA) : TI := fun σ H R => ta σ H fun vs H1 => ∃ b1 b2 a b xs ys, vs = [.ref a, .ref b] ∧ Sq K H1 b1 a xs ∧ Sq K H1 b2 b ys ∧ R (Itzu K b1 b2 a b) H1
theorem pi_zipU {X : Cx} {e e2 : Expr} {ta : TA} {p pos tpos : Pos} {elts : List Expr} {kk : Nat} (hg : Gl X "zip") (hm : X.mg "zip" = none) (ha : PA X [e, e2] ta)
    (hs : starEach [e, e2] X.env = (false, eval e X.env) :: starEach [e2] X.env := by rfl) (hpl : (backTo pos (starEach [e2] X.env)).any (·.1) = false := by rfl) :
    PI X (.Tuple elts kk tpos) (.Call (.Name "zip" p) [e, e2] [] pos) (iZipU X.K ta) := by
  refine ⟨fun pins s σ H R I h => ?_⟩
  refine Call_ (ld_blt I hg hm PyProof.Rows.boot_zip (PyProof.Rows.callWith_type1 (thn (ha.run pos pins s σ H _ I h) fun us s1 ⟨vs, H1, I1, r1, q1⟩ => ?_) hs hpl))
  obtain ⟨b1, b2, a, b, xs, ys, ex, hqx, hqy, q⟩ := q1
  subst ex
  cases r1 with
  | cons r rr =>
    cases rr with
    | cons r' rr =>
      cases rr
      cases r
      cases r'
      obtain ⟨its, rv, p1⟩ := I1.sq hqx
      obtain ⟨its2, rv2, p2⟩ := I1.sq hqy
      have la := src_lt p1
      have lb := src_lt p2
      refine zip_begins2 (begins_sq (b := b1) a its.toArray) (begins_sq (b := b2) b its2.toArray) p1 p2 fun h' hz hTI hTO h1 h2 hsz hk => wpAny_pyIter_zip hz ?_
      have I2 : Inv X pins σ H1 { s1 with heap := h' } := I1.kept (t' := s1.toks) hk
      have D : ZApart (s1.heap.objs.size + 4) (s1.heap.objs.size + 2) (s1.heap.objs.size + 3) s1.heap.objs.size (s1.heap.objs.size + 1) a b :=
        ⟨zip_sep2 (fun c hc => by rw [List.mem_singleton.mp hc]; exact la) (fun c hc => by rw [List.mem_singleton.mp hc]; exact lb), Nat.ne_of_lt la, Nat.ne_of_lt (Nat.lt_succ_of_lt lb)⟩
      refine ⟨s1.heap.objs.size + 4, [s1.heap.objs.size + 4, s1.heap.objs.size + 2, s1.heap.objs.size + 3, s1.heap.objs.size, s1.heap.objs.size + 1], _, _, H1, rfl, I2, turn_zipU D, ⟨hz, hTI, ⟨_, _, hTO⟩, itAt_obj h1, itAt_obj h2⟩, fun c hcm => ?_, q⟩
      have e' : c = s1.heap.objs.size + 4 ∨ c = s1.heap.objs.size + 2 ∨ c = s1.heap.objs.size + 3 ∨ c = s1.heap.objs.size ∨ c = s1.heap.objs.size + 1 := by simpa using hcm
      have hle : s1.heap.objs.size ≤ c := by
        rcases e' with z | z | z | z | z
        · rw [z]; exact Nat.le_add_right _ _
        · rw [z]; exact Nat.le_add_right _ _
        · rw [z]; exact Nat.le_add_right _ _
        · rw [z]; exact Nat.le_refl _
        · rw [z]; exact Nat.le_add_right _ _
      exact I1.fpOk hle (I1.hok.fresh hle)

/-! ### enumerate -/
set_option maxHeartbeats 4000000 in
theorem meets_enum1 {v : Value} {o : Obj} {H : Heap → Prop} (B : Begins v o H) :
    Meets (Builtin.«enumerate.__new__» ⟨[.type "enumerate", v], []⟩) (fun _ R s => H s.heap ∧
      R (.ok (.ret (.ref (s.heap.push o).objs.size))) { s with heap := (s.heap.push o).push { cls := .type "enumerate", data := .fields #[.none, .bool false, .ref s.heap.objs.size, rawInt 0, .none, .none] } }) :=
  .of_wp fun prog w A R s h => by
    obtain ⟨hp, g, d, tk, os⟩ := s; obtain ⟨h1, h⟩ := h
    have hsub := sub_enumerate
    have q1 : ∀ {A' : Around} {E : Value → Shared → Prop} {Q : Value → Shared → Prop}, Q (.ref hp.objs.size) ⟨hp.push o, g, d, tk, os⟩ → wpAny (model prog w) A' (pyIter v) Q E ⟨hp, g, d, tk, os⟩ :=
      fun q => B.iter prog w _ _ ⟨hp, g, d, tk, os⟩ _ h1 q
    wp_walk using q1
    refine wpAny_stack_any fun st => wpAny_pure ?_
    split
    · rename_i c _ _ _ _ _
      cases (c == Value.type "enumerate")
      · wp_walk using q1
        exact ⟨_, rfl, h⟩
      · wp_walk using q1
        exact ⟨_, rfl, h⟩
    · wp_walk using q1
      exact ⟨_, rfl, h⟩
theorem enum_begins1 {prog : Program} {w : World} {A : Around} {E : Value → Shared → Prop} {s : Shared} {v : Value} {o : Obj} {H : Heap → Prop} {Q : Value → Shared → Prop} (B : Begins v o H) (h1 : H s.heap)
    (h : ∀ h', IsEnum h' (s.heap.objs.size + 1) s.heap.objs.size 0 .none → h'.get? s.heap.objs.size = some o → h'.objs.size = s.heap.objs.size + 2 →
      (∀ b o, s.heap.get? b = some o → h'.get? b = some o) → Q (.ref (s.heap.objs.size + 1)) { s with heap := h' }) :
    wpAny (model prog w) A (call (.type "enumerate") [v]) Q E s := by
  refine callType_new F.called_enumerate (by decide) (F.typeCall_enumerate_1 _) (F.newCall_enumerate_1 _) (fun obj => F.args_object_init_2 obj _) F.entry_enumerate_new
    (meets_enum1 B) ⟨h1, ?_⟩
  have hz : (s.heap.push o).objs.size = s.heap.objs.size + 1 := Heap.size_push ..
  show _ ∧ _
  rw [hz]
  have he : IsEnum ((s.heap.push o).push { cls := .type "enumerate", data := .fields #[.none, .bool false, .ref s.heap.objs.size, rawInt 0, .none, .none] }) (s.heap.objs.size + 1) s.heap.objs.size 0 .none := by
    have := Heap.get?_push_size (s.heap.push o) (o := { cls := .type "enumerate", data := .fields #[.none, .bool false, .ref s.heap.objs.size, rawInt 0, .none, .none] }) rfl
    rw [hz] at this; exact this
  exact ⟨⟨_, he, rfl⟩, h _ he (Heap.get?_push_of_some _ (Heap.get?_push_size _ B.free)) (by rw [Heap.size_push, hz]) fun b o x => Heap.get?_push_of_some _ (Heap.get?_push_of_some _ x)⟩
def Iteu (K : PySem.W.Frag) (b : Bool) (a : Addr) : It :=
  ⟨fun i H => ∃ (xs : List V) (x : V), Sq K H b a xs ∧ xs[i]? = some x, fun i H v H' => ∃ T x, v = .ref T ∧ H T = none ∧ H' = upd H T (.tup [.int (i : Nat), x]) ∧ ∀ xs, Sq K H b a xs → xs[i]? = some x, fun i H => ∃ xs : List V, Sq K H b a xs ∧ xs.length = i⟩
theorem turn_enumU {P : Program} {w : World} {K : PySem.W.Frag} {elts : List Expr} {kk : Nat} {tpos : Pos} {b : Bool} {a e it : Addr} (n1 : e ≠ it) (n2 : a ≠ e) (n3 : a ≠ it) :
    Turn P w K (.Tuple elts kk tpos) (Iteu K b a) [e, it] e (fun i h => (∃ old, IsEnum h e it ((0 : Int) + (i : Int)) old) ∧ ItAt h b it a i) where
  mem := by simp
  obj := fun i h st c hc => by
    obtain ⟨⟨old, he⟩, h1⟩ := st
    have e' : c = e ∨ c = it := by simpa using hc
    rcases e' with q | q
    · rw [q]; exact ⟨_, he, fun v q => nomatch q⟩
    · rw [q]; exact itAt_live h1
  keep := fun i h h' st k => by
    obtain ⟨⟨old, he⟩, h1⟩ := st
    exact ⟨⟨old, k e (by simp) _ he⟩, itAt_keep h1 fun o q => k it (by simp) o q⟩
  item := by
    intro X hP hw hK hc i pins s σ H E I hf st hg
    subst hP hw hK
    obtain ⟨he, h1⟩ := st
    obtain ⟨xs, x, hqx, hx⟩ := hg
    obtain ⟨its, rv, p⟩ := I.sq hqx
    obtain ⟨u, hu, ru⟩ := rv.get hx
    have hh : X.A.in1.handled = none := I.ok.hd hc
    have W := GoesN.enumFrom (prog := X.prog) (w := X.w) (A := X.A) (elts := elts) (x1 := kk) (pos := tpos) 0 (draws_sq (b := b) hh it a n3 its.toArray) e n1 (by simp [n1, Ne.symm n2]) (by simp)
    have hlt : i < its.toArray.size := by
      have := (List.getElem?_eq_some_iff.mp hu).1
      simpa using this
    have lt : ∀ c ∈ [e, it], c < s.heap.objs.size := fun c hcm => by
      have e' : c = e ∨ c = it := by simpa using hcm
      obtain ⟨old, he⟩ := he
      rcases e' with q | q
      · rw [q]; exact Heap.lt_size he
      · rw [q]; obtain ⟨_, e1, _⟩ := itAt_live h1; exact Heap.lt_size e1
    refine wpAny_mono (W.goes i s (fun v s2 => ∃ x H', Inv X pins σ H' s2 ∧ RelV x v ∧ (Iteu X.K b a).yld i H x H' ∧ ((∃ old, IsEnum s2.heap e it ((0 : Int) + ((i + 1 : Nat) : Int)) old) ∧ ItAt s2.heap b it a (i + 1)) ∧ ∀ b ∈ [e, it], H' b = none) E hlt ⟨he, h1, p⟩ fun v h' tk ⟨T, t, u', ev, hT, hu', hTup⟩ st' hk htk => ?_) (fun r s1 q => q) fun _ _ q => q
    subst ev
    have eu : u' = u := by
      have e1 : its.toArray[i]? = some u := by simpa using hu
      have : its.toArray[i]? = some u' := hu'
      rw [e1] at this; exact (Option.some.inj this).symm
    subst eu
    have ez : (0 : Int) + (i : Int) = ((i : Nat) : Int) := Int.zero_add _
    have new : ObjOk X.prog X.w (upd H T (.tup [.int (i : Nat), x])) h' T (.tup [.int (i : Nat), x]) := ⟨by show 2 ≤ sizeLine; decide, [.int (0 + (i : Int)) t, u'], .cons ⟨t, by rw [ez]⟩ (.cons ru .nil), hTup⟩
    have I1 : Inv X pins σ (upd H T (.tup [.int (i : Nat), x])) { s with heap := h', toks := tk } :=
      I.turnedNew (t' := tk) (ch := [e, it]) (fun c o hb q => hk c o hb q) hf hT new
    refine ⟨.ref T, _, I1, rfl, ⟨T, x, rfl, I.hok.fresh hT, rfl, fun l hl => by rw [I.sq_inj hl hqx]; exact hx⟩, ⟨st'.1, st'.2.1⟩, fun c hcm => ?_⟩
    rw [upd_ne (Nat.ne_of_lt (Nat.lt_of_lt_of_le (lt c hcm) hT))]
    exact (hf c hcm).1
  done := by
    intro X hP hw hK hc i pins s σ H E I hf st hg
    subst hP hw hK
    obtain ⟨he, h1⟩ := st
    obtain ⟨xs, hqx, hend⟩ := hg
    obtain ⟨its, rv, p⟩ := I.sq hqx
    have l1 := rv.length
    have hh : X.A.in1.handled = none := I.ok.hd hc
    have W := GoesN.enumFrom (prog := X.prog) (w := X.w) (A := X.A) (elts := elts) (x1 := kk) (pos := tpos) 0 (draws_sq (b := b) hh it a n3 its.toArray) e n1 (by simp [n1, Ne.symm n2]) (by simp)
    have ei : its.toArray.size = i := by simp only [List.size_toArray]; omega
    have st : (∃ old, IsEnum s.heap e it ((0 : Int) + (its.toArray.size : Int)) old) ∧ ItAt s.heap b it a its.toArray.size ∧ SrcAt s.heap b a its.toArray := by
      rw [ei]; exact ⟨he, h1, p⟩
    exact W.stops s (fun s1 => Inv X pins σ H s1) E st fun h' tk hk htk => I.turnedL (t' := tk) (ch := [e, it]) (fun c o hb q => hk c o hb q) hf
  self := fun A i s Q E st h => let ⟨⟨_, he⟩, _⟩ := st; wpAny_pyIter_enum he h
def iEnumU (K : PySem.W.Frag) (ta : TA) : TI := fun σ H R => ta σ H fun vs H1 => ∃ b a xs, vs = [.ref a] ∧ Sq K H1 b a xs ∧ R (Iteu K b a) H1
theorem pi_enumU {X : Cx} {e : Expr} {ta : TA} {p pos tpos : Pos} {elts : List Expr} {kk : Nat} (hg : Gl X "enumerate") (hm : X.mg "enumerate" = none) (ha : PA X [e] ta) (hs : starEach [e] X.env = [(false, eval e X.env)] := by rfl) :
    PI X (.Tuple elts kk tpos) (.Call (.Name "enumerate" p) [e] [] pos) (iEnumU X.K ta) := by
  refine ⟨fun pins s σ H R I h => ?_⟩
  refine Call_ (ld_blt I hg hm boot_enumerate (PyProof.Rows.callWith_type1 (thn (ha.run pos pins s σ H _ I h) fun us s1 ⟨vs, H1, I1, r1, q1⟩ => ?_) hs rfl))
  obtain ⟨b, a, xs, ex, hq, q⟩ := q1
  subst ex
  cases r1 with
  | cons r rr =>
    cases rr
    cases r
    obtain ⟨its, rv, p1⟩ := I1.sq hq
    have la := src_lt p1
    refine enum_begins1 (begins_sq (b := b) a its.toArray) p1 fun h' he h1 hsz hk => wpAny_pyIter_enum he ?_
    have I2 : Inv X pins σ H1 { s1 with heap := h' } := I1.kept (t' := s1.toks) hk
    refine ⟨s1.heap.objs.size + 1, [s1.heap.objs.size + 1, s1.heap.objs.size], _, _, H1, rfl, I2, turn_enumU (Nat.succ_ne_self _) (Nat.ne_of_lt (Nat.lt_succ_of_lt la)) (Nat.ne_of_lt la), ⟨⟨.none, he⟩, itAt_obj h1⟩, fun c hcm => ?_, q⟩
    have e' : c = s1.heap.objs.size + 1 ∨ c = s1.heap.objs.size := by simpa using hcm
    have hle : s1.heap.objs.size ≤ c := by
      rcases e' with z | z
      · rw [z]; exact Nat.le_add_right _ _
      · rw [z]; exact Nat.le_refl _
    exact I1.fpOk hle (I1.hok.fresh hle)
end PD
end
section
/-! PX2: hand-layer rules for what the kit's own ones leave out: sum, max, min of a tuple of ints; repr of plain data; a list of any standing times an int. -/
namespace PD
open PySem PySem.Spec PyProof.Rows L2 Evl
section
variable {prog : Program} {w : World} {A : Around} {E : Value → Shared → Prop} {s : Shared} {t : Addr} {xs : Array (Int × Tok)}
theorem iterTI {its : Array Value} {Q : Value → Shared → Prop} (ht : s.heap.IsTuple t its)
    (h : ∀ s2 : Shared, s2 = { s with heap := s.heap.push { cls := .type "tuple_iterator", data := .fields #[.ref t, .int 0 0] } } →
      (s2.heap.IsTupleIter s.heap.objs.size t 0 ∧ s2.heap.IsTuple t its) → (∀ b ∈ [s.heap.objs.size, t], b < s2.heap.objs.size) → t ≠ s.heap.objs.size → Q (.ref s.heap.objs.size) s2) : wpAny (model prog w) A (pyIter (.ref t)) Q E s := by
  have hlt : t < s.heap.objs.size := by obtain ⟨_, e, _⟩ := ht; exact Heap.lt_size e
  refine wpAny_pyIter_tuple ht (h _ rfl ⟨⟨_, Heap.get?_push_size _ rfl, rfl, rfl⟩, ht.at fun o e => Heap.get?_push_of_some _ e⟩ (fun b hb => ?_) (Nat.ne_of_lt hlt))
  show b < (s.heap.push _).objs.size
  rw [Heap.size_push]
  simp only [List.mem_cons, List.not_mem_nil, or_false] at hb
  rcases hb with rfl | rfl
  · exact Nat.lt_succ_self _
  · exact Nat.lt_succ_of_lt hlt
theorem keptTI {h' : Heap} {ob : Obj} (hk : ∀ b o, b ∉ [s.heap.objs.size] → (s.heap.push ob).get? b = some o → h'.get? b = some o) : ∀ b o, s.heap.get? b = some o → h'.get? b = some o := fun b o e =>
  hk b o (fun hm => by
    simp only [List.mem_cons, List.not_mem_nil, or_false] at hm
    exact absurd (hm ▸ Heap.lt_size e) (Nat.lt_irrefl _)) (Heap.get?_push_of_some _ e)
end
def rSumT (K : PySem.W.Frag) : List V → Hp → VK → Prop := fun vs H Q => ∃ (a : Addr) (ns : List Int), vs = [V.ref a] ∧ SqT K H a (ns.map V.int) ∧ Q (.int ns.sum) H
def rMaxT (K : PySem.W.Frag) : List V → Hp → VK → Prop := fun vs H Q => ∃ (a : Addr) (ns : List Int), vs = [V.ref a] ∧ SqT K H a (ns.map V.int) ∧ 0 < ns.length ∧ ∀ m, m ∈ ns → (∀ y, y ∈ ns → y ≤ m) → Q (.int m) H
def rMinT (K : PySem.W.Frag) : List V → Hp → VK → Prop := fun vs H Q => ∃ (a : Addr) (ns : List Int), vs = [V.ref a] ∧ SqT K H a (ns.map V.int) ∧ 0 < ns.length ∧ ∀ m, m ∈ ns → (∀ y, y ∈ ns → m ≤ y) → Q (.int m) H
section
variable {X : Cx}
theorem cr_sumT (hc : X.calm = true) : CallR X (.builtin "sum") (rSumT X.K) := by
  intro pins s σ H vs us Q I r h
  obtain ⟨a, ns, rfl, hs, q⟩ := h
  obtain ⟨its, rv, ht, _⟩ := I.tuple hs
  rw [Vals.ref1 r]
  have hi := rv.ints
  obtain ⟨xs, e⟩ := hi.allInts.items
  have hn : numsOf (intItems xs).toList = ns := by rw [← e]; exact hi.numsOf
  rw [nums_intItems] at hn
  rw [e] at ht
  refine call_sum_walkG (iterTI ht fun s2 e2 st hfp hne => ?_)
  subst e2
  refine ⟨_, _, _, _, _, _, numAt xs, rfl, Walks.tuple (A := X.A.in1) (I.ok.hd hc) _ a hne (intItems xs), st, hfp, (fun _ _ => intItems_at), fun h' tk t' hk => ?_⟩
  refine ⟨.int _, H, I.kept (keptTI hk), ⟨t', ?_⟩, q⟩
  have : (intItems xs).size = xs.size := by simp [intItems]
  rw [this, preSum_eq, List.take_of_length_le (by simp), hn]
theorem cr_maxT (hc : X.calm = true) : CallR X (.builtin "max") (rMaxT X.K) := by
  intro pins s σ H vs us Q I r h
  obtain ⟨a, ns, rfl, hs, hne0, q⟩ := h
  obtain ⟨its, rv, ht, _⟩ := I.tuple hs
  rw [Vals.ref1 r]
  have hi := rv.ints
  obtain ⟨xs, e⟩ := hi.allInts.items
  have hn : numsOf (intItems xs).toList = ns := by rw [← e]; exact hi.numsOf
  rw [nums_intItems] at hn
  subst hn
  rw [e] at ht
  have hsz : 0 < xs.size := by simpa using hne0
  refine call_max_walk (iterTI ht fun s2 e2 st hfp hne => ?_)
  subst e2
  refine ⟨_, _, _, _, _, _, _, rfl, Walks.tuple (A := X.A.in1) (I.ok.hd hc) _ a hne (intItems xs), st, hfp, by simpa [intItems] using hsz, CmpOf.ints_gt (numAt xs) (fun _ _ => intItems_at), fun v h' tk hP hk => ?_⟩
  have es : (intItems xs).size = xs.size := by simp [intItems]
  rw [es] at hP
  obtain ⟨t, rfl⟩ := intItems_at hP
  obtain ⟨h1, h2⟩ := argBest_gt (numAt xs) (xs.size - 1)
  refine ⟨.int _, H, I.kept (keptTI hk), ⟨t, rfl⟩, q _ ?_ fun a ha => ?_⟩
  · rw [numAt_eq]; exact PySem.getD_mem (by rw [List.length_map, Array.length_toList]; omega)
  · obtain ⟨j, hj, rfl⟩ := mem_getD ha
    rw [List.length_map, Array.length_toList] at hj
    rw [← numAt_eq]; exact h2 j (by omega)
theorem cr_minT (hc : X.calm = true) : CallR X (.builtin "min") (rMinT X.K) := by
  intro pins s σ H vs us Q I r h
  obtain ⟨a, ns, rfl, hs, hne0, q⟩ := h
  obtain ⟨its, rv, ht, _⟩ := I.tuple hs
  rw [Vals.ref1 r]
  have hi := rv.ints
  obtain ⟨xs, e⟩ := hi.allInts.items
  have hn : numsOf (intItems xs).toList = ns := by rw [← e]; exact hi.numsOf
  rw [nums_intItems] at hn
  subst hn
  rw [e] at ht
  have hsz : 0 < xs.size := by simpa using hne0
  refine call_min_walk (iterTI ht fun s2 e2 st hfp hne => ?_)
  subst e2
  refine ⟨_, _, _, _, _, _, _, rfl, Walks.tuple (A := X.A.in1) (I.ok.hd hc) _ a hne (intItems xs), st, hfp, by simpa [intItems] using hsz, CmpOf.ints_lt (numAt xs) (fun _ _ => intItems_at), fun v h' tk hP hk => ?_⟩
  have es : (intItems xs).size = xs.size := by simp [intItems]
  rw [es] at hP
  obtain ⟨t, rfl⟩ := intItems_at hP
  obtain ⟨h1, h2⟩ := argBest_lt (numAt xs) (xs.size - 1)
  refine ⟨.int _, H, I.kept (keptTI hk), ⟨t, rfl⟩, q _ ?_ fun a ha => ?_⟩
  · rw [numAt_eq]; exact PySem.getD_mem (by rw [List.length_map, Array.length_toList]; omega)
  · obtain ⟨j, hj, rfl⟩ := mem_getD ha
    rw [List.length_map, Array.length_toList] at hj
    rw [← numAt_eq]; exact h2 j (by omega)
/-- repr(x) of a list, a tuple of plain data -/
def rRepr (K : PySem.W.Frag) : List V → Hp → VK → Prop := fun vs H Q => ∃ (a : Addr) (d : PyData), vs = [V.ref a] ∧ Dp K H (.ref a) d ∧ d.showable = true ∧ d.hasDict = false ∧ d.depth ≤ 64 ∧ d.shown.length ≤ sizeLine ∧ Q (.str d.shown) H
theorem cr_repr (hg : X.A.guards = some []) (hu : X.A.units + 65 < cLine) : CallR X (.builtin "repr") (rRepr X.K) := by
  intro pins s σ H vs us Q I r h
  obtain ⟨a, d, rfl, hd, h1, h2, h3, h4, q⟩ := h
  rw [Vals.ref1 r]
  obtain ⟨as, rs⟩ := Dp.reads I d _ _ hd (show RelV (V.ref a) (Value.ref a) from rfl)
  exact repr_of_reads' rs h1 (PyData.noDict_hsm h2) hg (by omega) (fun _ _ e => e) (fun h' u tk hk => ⟨.str _, H, I.kept hk, ⟨u, rfl⟩, q⟩) h4
/-- xs * k, any list -/
def rRepR : R2 := fun x y H Q => ∃ l k xs, x = .ref l ∧ y = .int k ∧ Rd H l (.lst xs) ∧ -(2 ^ 63) ≤ k ∧ k < 2 ^ 63 ∧ xs.length * k.toNat ≤ sizeLine ∧
  ∀ p, H p = none → Q (.ref p) (upd H p (.lst (List.replicate k.toNat xs).flatten))
theorem op_repR : OpR X (binaryOp .Mult) rRepR := by
  intro pins s σ H x y v u Q I rx ry h
  obtain ⟨l, k, xs, rfl, rfl, hH, b1, b2, hz, q⟩ := h
  cases rx
  obtain ⟨t, rfl⟩ := ry
  obtain ⟨z, its, n, r, e⟩ := hH.ok I.hok
  have hl := r.length
  have hlen : its.toArray.size * k.toNat ≤ sizeLine := by rw [List.size_toArray, ← hl]; exact hz
  have hcap : ¬ its.toArray.size * k.toNat > (2 ^ 63 - 1) / 8 := by
    have : (sizeLine : Nat) ≤ (2 ^ 63 - 1) / 8 := by decide
    omega
  have hfit : ¬ (!Builtin.List.listFitsIndex k) = true := by
    rw [fitsIndex_both b1 b2]
    exact Bool.false_ne_true
  have hlong : ¬ Builtin.List.listTooLong (its.toArray.size * k.toNat) = true := by
    rw [notLongL hlen]
    exact Bool.false_ne_true
  have hnew : List.foldl (fun y1 y2 => y1 ++ y2) #[] (List.replicate (if its.toArray.isEmpty = true then 0 else k.toNat) its.toArray) = (List.replicate k.toNat its).flatten.toArray := by
    cases its with
    | nil => simp
    | cons a r' =>
      rw [if_neg (by simp)]
      have := foldl_rep (a :: r') k.toNat []
      rw [List.nil_append] at this
      exact this
  refine wpAny_binaryOp_repeat_ref (T := "list") (U := "int") (by decide) ⟨_, e, rfl⟩ (fun s' => typeIs_int s' k t) noFill_list_mul F.fills_int_mul F.slot_int_rmul repeat_list F.slot_int_index.lookup
    (call_meets F.slot_int_rmul (typeIs_int s k t) F.entry_int_rmul (F.args_int_rmul_2 _ _) (int___rmul___int_list k t l its.toArray n)
      ⟨e, rfl, ⟨_, e, rfl⟩, call_meets F.slot_list_mul ⟨_, e, rfl⟩ F.entry_list_mul (F.args_list_mul_2 _ _) (AutoListH.list___mul___list_int_3 l its.toArray n k t hfit hcap hlong) ⟨e, ?_⟩⟩)
  rw [hnew]
  exact ⟨.ref _, _, I.lnew (t' := s.toks) (r.rep k.toNat) (by rw [PyProof.Rows.lm_len_rep_flat, Nat.mul_comm]; exact hz), rfl, q _ I.fresh⟩
end
/-- l.count(x), any plain data -/
def rCountD (K : PySem.W.Frag) : V → List V → Hp → VK → Prop := fun x xs H Q => ∃ (a : Addr) (y : V) (d : PyData) (ds : List PyData), x = V.ref a ∧ xs = [y] ∧ Dp K H (V.ref a) (.list ds) ∧ Dp K H y d ∧
  SeqAt.shaped (.list ds) = true ∧ SeqAt.shaped d = true ∧ Q (.int (ds.countP fun z => PyData.eqv z d : Nat)) H
section
variable {X : Cx}
theorem mt_countD (hu : X.A.units + 65 < cLine) : MtR X "list.count" (rCountD X.K) := by
  intro pins s σ H x xs v us Q I rx rxs h
  obtain ⟨a, y, d, ds, rfl, rfl, hl, hy, sl, sd, q⟩ := h
  cases rx
  obtain ⟨uy, rfl, ry⟩ := rxs.one
  obtain ⟨bs, r1⟩ := Dp.reads I d y uy hy ry
  have hxs : PyData.canLayAll0 ds = true := SeqAt.canLay_of_shaped sl
  have hroom : X.A.units + 1 + min (PyData.depthAll ds) d.depth < cLine := room_in_shaped sd hu
  cases hl with
  | lst hs ha =>
    obtain ⟨its, rv, ⟨⟨cls, dd, data, sls⟩, n, ho, hc, hdn, hdt⟩, hlen⟩ := I.list hs
    simp only at hc hdt
    subst hc hdt
    obtain ⟨as, h4⟩ := Dp.readsAll I ds _ its ha rv
    have hmap : its.map (SeqAt.readOf s.heap) = ds := SeqAt.readsAll_map ds its as hxs h4
    refine call_meets PySem.F.slot_list_count ⟨_, ho, rfl⟩ PySem.F.entry_list_count (PySem.F.args_list_count_2 _ _)
      (SeqAt.list_countAt a its.toArray n dd sls uy (fun u => PyData.eqv (SeqAt.readOf s.heap u) d)) ⟨ho, SeqAt.items_eqAt (vs := its.toArray) (show ReadsAll s.heap its.toArray.toList ds as from h4) r1 hxs (SeqAt.canLay_of_shaped sd) hroom, ?_⟩
    refine ⟨.int (ds.countP fun z => PyData.eqv z d : Nat), H, I.tok _, ⟨s.toks, ?_⟩, q⟩
    rw [← hmap, List.countP_map]
    rfl
end
/-! ### kinds -/
def tyD : PyData → Option String
  | .none => some "NoneType"
  | .bool _ => some "bool"
  | .int _ => some "int"
  | .str _ => some "str"
  | .list _ => some "list"
  | .tuple _ => some "tuple"
  | .dict [(.none, .int _)] => none
  | .dict _ => some "dict"
theorem tyx_of {K : PySem.W.Frag} {H : Hp} {v : V} {d : PyData} {T : String} (r : Rp K H v d) (e : tyD d = some T) : TyX K H v (.type T) := by
  cases r with
  | non => cases e; exact .base .non
  | bl b => cases e; exact .base (.bl b)
  | int i => cases e; exact .base (.int i)
  | str x => cases e; exact .base (.str x)
  | lst h _ =>
    cases e
    rcases h with h | ⟨o, h⟩
    · exact .base (.lst h)
    · exact .base (.frz h)
  | tup h _ =>
    cases e
    rcases h with (h | ⟨o, h⟩) | ⟨o, its, n, h, hc, _⟩
    · exact .base (.tup h)
    · exact .fTuple h
    · exact .kTuple h hc
  | dct h _ =>
    have e : T = "dict" := by
      unfold tyD at e
      split at e <;> first | (cases e; rfl) | skip
      all_goals simp_all
    subst e
    rcases h with h | ⟨o, h⟩
    · exact .base (.dK h)
    · exact .fDict h
  | obj a => cases e
end PD
end
section
namespace PD
open PySem PySem.Spec PyProof.Rows L2 Evl

/-! ### lists of intsD, of truth values -/
def intsD : List PyData → Option (List Int)
  | [] => some []
  | .int i :: r => (intsD r).map (i :: ·)
  | _ => none
def boolsD : List PyData → Option (List Bool)
  | [] => some []
  | .bool i :: r => (boolsD r).map (i :: ·)
  | _ => none
theorem intsD_eq : ∀ {ds : List PyData} {ns : List Int}, intsD ds = some ns → ds = ns.map PyData.int
  | [], ns, h => by cases h; rfl
  | d :: ds, ns, h => by
    cases d <;> first | (cases h; done) | skip
    rename_i i
    unfold intsD at h
    obtain ⟨ms, h1, rfl⟩ := Option.map_eq_some_iff.mp h
    rw [intsD_eq h1]
    rfl
theorem boolsD_eq : ∀ {ds : List PyData} {ns : List Bool}, boolsD ds = some ns → ds = ns.map PyData.bool
  | [], ns, h => by cases h; rfl
  | d :: ds, ns, h => by
    cases d <;> first | (cases h; done) | skip
    rename_i i
    unfold boolsD at h
    obtain ⟨ms, h1, rfl⟩ := Option.map_eq_some_iff.mp h
    rw [boolsD_eq h1]
    rfl
@[simp] theorem intsD_map (ns : List Int) : intsD (ns.map PyData.int) = some ns := by
  induction ns with
  | nil => rfl
  | cons n ns ih => simp [intsD, ih]
@[simp] theorem boolsD_map (ns : List Bool) : boolsD (ns.map PyData.bool) = some ns := by
  induction ns with
  | nil => rfl
  | cons n ns ih => simp [boolsD, ih]
/-- sorting of intsD -/
def insI (x : Int) : List Int → List Int
  | [] => [x]
  | y :: r => if x ≤ y then x :: y :: r else y :: insI x r
def srtI : List Int → List Int
  | [] => []
  | x :: r => insI x (srtI r)
theorem insI_perm (x : Int) : ∀ l : List Int, (insI x l).Perm (x :: l)
  | [] => .refl _
  | y :: r => by
    unfold insI
    split
    · exact .refl _
    · exact ((insI_perm x r).cons y).trans (.swap x y r)
theorem srtI_perm : ∀ l : List Int, (srtI l).Perm l
  | [] => .refl _
  | x :: r => (insI_perm x (srtI r)).trans ((srtI_perm r).cons x)
theorem insI_sorted (x : Int) : ∀ {l : List Int}, l.Pairwise (· ≤ ·) → (insI x l).Pairwise (· ≤ ·)
  | [], _ => by simp [insI]
  | y :: r, h => by
    unfold insI
    have h' := List.pairwise_cons.mp h
    split
    · rename_i z
      exact List.pairwise_cons.mpr ⟨fun a ha => by
        rcases List.mem_cons.mp ha with rfl | ha
        · exact z
        · exact Int.le_trans z (h'.1 a ha), h⟩
    · rename_i z
      refine List.pairwise_cons.mpr ⟨fun a ha => ?_, insI_sorted x h'.2⟩
      rcases List.mem_cons.mp ((insI_perm x r).mem_iff.mp ha) with rfl | ha
      · omega
      · exact h'.1 a ha
theorem srtI_sorted : ∀ l : List Int, (srtI l).Pairwise (· ≤ ·)
  | [] => .nil
  | x :: r => insI_sorted x (srtI_sorted r)
theorem sorted_uniq : ∀ {a b : List Int}, a.Perm b → a.Pairwise (· ≤ ·) → b.Pairwise (· ≤ ·) → a = b
  | [], b, p, _, _ => by rw [p.symm.eq_nil]
  | x :: a, [], p, _, _ => absurd p.eq_nil (by simp)
  | x :: a, y :: b, p, ha, hb => by
    have ha' := List.pairwise_cons.mp ha
    have hb' := List.pairwise_cons.mp hb
    have e : x = y := by
      have h1 : y ≤ x := by
        rcases List.mem_cons.mp (p.mem_iff.mp (List.mem_cons_self)) with h | h
        · omega
        · exact hb'.1 x h
      have h2 : x ≤ y := by
        rcases List.mem_cons.mp (p.symm.mem_iff.mp (List.mem_cons_self)) with h | h
        · omega
        · exact ha'.1 y h
      omega
    subst e
    rw [sorted_uniq (List.Perm.cons_inv p) ha'.2 hb'.2]
theorem srtI_uniq {a b : List Int} (p : a.Perm b) (s : a.Pairwise (· ≤ ·)) : a = srtI b := sorted_uniq (p.trans (srtI_perm b).symm) s (srtI_sorted b)
def maxI (x : Int) (l : List Int) : Int := l.foldl max x
def minI (x : Int) (l : List Int) : Int := l.foldl min x
theorem maxI_le : ∀ (l : List Int) (x : Int), x ≤ maxI x l ∧ ∀ y ∈ l, y ≤ maxI x l
  | [], x => ⟨Int.le_refl _, fun y h => by cases h⟩
  | z :: l, x => by
    obtain ⟨h1, h2⟩ := maxI_le l (max x z)
    have e : maxI x (z :: l) = maxI (max x z) l := rfl
    rw [e]
    refine ⟨by omega, fun y hy => ?_⟩
    rcases List.mem_cons.mp hy with rfl | hy
    · omega
    · exact h2 y hy
theorem maxI_mem : ∀ (l : List Int) (x : Int), maxI x l = x ∨ maxI x l ∈ l
  | [], x => .inl rfl
  | z :: l, x => by
    have e : maxI x (z :: l) = maxI (max x z) l := rfl
    rw [e]
    rcases maxI_mem l (max x z) with h | h
    · rw [h]
      by_cases hz : x ≤ z
      · exact .inr (by rw [show max x z = z by omega]; exact List.mem_cons_self)
      · exact .inl (by omega)
    · exact .inr (List.mem_cons_of_mem _ h)
theorem minI_le : ∀ (l : List Int) (x : Int), minI x l ≤ x ∧ ∀ y ∈ l, minI x l ≤ y
  | [], x => ⟨Int.le_refl _, fun y h => by cases h⟩
  | z :: l, x => by
    obtain ⟨h1, h2⟩ := minI_le l (min x z)
    have e : minI x (z :: l) = minI (min x z) l := rfl
    rw [e]
    refine ⟨by omega, fun y hy => ?_⟩
    rcases List.mem_cons.mp hy with rfl | hy
    · omega
    · exact h2 y hy
theorem minI_mem : ∀ (l : List Int) (x : Int), minI x l = x ∨ minI x l ∈ l
  | [], x => .inl rfl
  | z :: l, x => by
    have e : minI x (z :: l) = minI (min x z) l := rfl
    rw [e]
    rcases minI_mem l (min x z) with h | h
    · rw [h]
      by_cases hz : x ≤ z
      · exact .inl (by omega)
      · exact .inr (by rw [show min x z = z by omega]; exact List.mem_cons_self)
    · exact .inr (List.mem_cons_of_mem _ h)
def maxL : List Int → Option Int
  | [] => none
  | x :: l => some (maxI x l)
def minL : List Int → Option Int
  | [] => none
  | x :: l => some (minI x l)
theorem maxL_is {l : List Int} {m n : Int} (h : maxL l = some n) (hm : m ∈ l) (hg : ∀ y ∈ l, y ≤ m) : m = n := by
  cases l with
  | nil => cases h
  | cons x l =>
    cases h
    obtain ⟨h1, h2⟩ := maxI_le l x
    have h3 : maxI x l ≤ m := by
      rcases maxI_mem l x with e | e
      · rw [e]; exact hg x List.mem_cons_self
      · exact hg _ (List.mem_cons_of_mem _ e)
    rcases List.mem_cons.mp hm with rfl | hm
    · omega
    · have := h2 m hm
      omega
theorem minL_is {l : List Int} {m n : Int} (h : minL l = some n) (hm : m ∈ l) (hg : ∀ y ∈ l, m ≤ y) : m = n := by
  cases l with
  | nil => cases h
  | cons x l =>
    cases h
    obtain ⟨h1, h2⟩ := minI_le l x
    have h3 : m ≤ minI x l := by
      rcases minI_mem l x with e | e
      · rw [e]; exact hg x List.mem_cons_self
      · exact hg _ (List.mem_cons_of_mem _ e)
    rcases List.mem_cons.mp hm with rfl | hm
    · omega
    · have := h2 m hm
      omega

/-! ### what the built-ins come to -/
def pLen (ds : List PyData) : R PyData := match ds with
  | [.list xs] => .ok (.int xs.length)
  | [.tuple xs] => .ok (.int xs.length)
  | [.str x] => if x.length ≤ 100000 then .ok (.int x.length) else .bad
  | _ => .bad
def pAbs (ds : List PyData) : R PyData := match ds with
  | [.int i] => .ok (.int (if i < 0 then -i else i))
  | _ => .bad
def pInt (ds : List PyData) : R PyData := match ds with
  | [.int i] => .ok (.int i)
  | [.bool b] => .ok (.int (if b then 1 else 0))
  | _ => .bad
def pAll (ds : List PyData) : R PyData := match ds with
  | [.list xs] => R.get (boolsD xs) >>= fun bs => .ok (.bool (bs.all id))
  | _ => .bad
def pAny (ds : List PyData) : R PyData := match ds with
  | [.list xs] => R.get (boolsD xs) >>= fun bs => .ok (.bool (bs.any id))
  | _ => .bad
def pSum (ds : List PyData) : R PyData := match ds with
  | [.list xs] => R.get (intsD xs) >>= fun ns => .ok (.int ns.sum)
  | [.tuple xs] => R.get (intsD xs) >>= fun ns => .ok (.int ns.sum)
  | _ => .bad
def pMax (ds : List PyData) : R PyData := match ds with
  | [.list xs] => R.get (intsD xs) >>= fun ns => R.get (maxL ns) >>= fun m => .ok (.int m)
  | [.tuple xs] => R.get (intsD xs) >>= fun ns => R.get (maxL ns) >>= fun m => .ok (.int m)
  | [.int i, .int j] => .ok (.int (if j > i then j else i))
  | _ => .bad
def pMin (ds : List PyData) : R PyData := match ds with
  | [.list xs] => R.get (intsD xs) >>= fun ns => R.get (minL ns) >>= fun m => .ok (.int m)
  | [.tuple xs] => R.get (intsD xs) >>= fun ns => R.get (minL ns) >>= fun m => .ok (.int m)
  | [.int i, .int j] => .ok (.int (if j < i then j else i))
  | _ => .bad
def pTuple (ds : List PyData) : R PyData := match ds with
  | [.list xs] => .ok (.tuple xs)
  | [.tuple xs] => .ok (.tuple xs)
  | _ => .bad
def pList (ds : List PyData) : R (List PyData) := match ds with
  | [.list xs] => .ok xs
  | [.tuple xs] => .ok xs
  | _ => .bad
def pSorted (ds : List PyData) : R (List PyData) := match ds with
  | [.list xs] => R.get (intsD xs) >>= fun ns => .ok ((srtI ns).map PyData.int)
  | _ => .bad
def pRepr (ds : List PyData) : R PyData := match ds with
  | [.list xs] => if nd (.list xs) = true ∧ (PyData.list xs).showable = true ∧ (PyData.list xs).hasDict = false ∧ (PyData.list xs).depth ≤ 64 ∧ (PyData.list xs).shown.length ≤ 100000 then .ok (.str (PyData.list xs).shown) else .bad
  | [.tuple xs] => if nd (.tuple xs) = true ∧ (PyData.tuple xs).showable = true ∧ (PyData.tuple xs).hasDict = false ∧ (PyData.tuple xs).depth ≤ 64 ∧ (PyData.tuple xs).shown.length ≤ 100000 then .ok (.str (PyData.tuple xs).shown) else .bad
  | _ => .bad
section
variable {C : Ct} {X : Cx} {H0 H : Hp} {σ : L2.St} {en : En} {a b c : Expr} {pos : Pos}
theorem rgs1 {α β : Type} {o : Option α} {f : α → R β} {z : β} (h : (R.get o >>= f) = .ok z) : ∃ a, o = some a ∧ f a = .ok z := by
  cases o with
  | none => cases h
  | some a => exact ⟨a, rfl, h⟩
theorem cr_lenA : CallR X (.builtin "len") (fun xs H Q => (∃ p ys, xs = [.ref p] ∧ (SqL X.K H p ys ∨ SqT X.K H p ys) ∧ Q (.int ys.length) H) ∨ ∃ z, xs = [.str z] ∧ z.length ≤ sizeLine ∧ Q (.int z.length) H) := call_len_seq.or call_len_str
theorem r_len : RuleC C (fun xs H Q => (∃ p ys, xs = [.ref p] ∧ (SqL C.K H p ys ∨ SqT C.K H p ys) ∧ Q (.int ys.length) H) ∨ ∃ z, xs = [.str z] ∧ z.length ≤ sizeLine ∧ Q (.int z.length) H) pLen := fun H0 H vs ds d Q g r e o => by
  unfold pLen at e
  split at e
  · cases e
    obtain ⟨v, rfl, rr⟩ := rpxs1 r
    obtain ⟨a, ws, rfl, h1, h2⟩ := rr.list g.ex
    exact .inl ⟨a, ws, rfl, .inl (.inl h1), o.now g (by rw [h2.length]; exact .int _)⟩
  · cases e
    obtain ⟨v, rfl, rr⟩ := rpxs1 r
    obtain ⟨a, ws, rfl, h1, h2⟩ := rr.tup g.ex
    exact .inl ⟨a, ws, rfl, .inr h1, o.now g (by rw [h2.length]; exact .int _)⟩
  · split at e
    · rename_i hl
      cases e
      obtain ⟨v, rfl, rr⟩ := rpxs1 r
      rw [rr.str]
      exact .inr ⟨_, rfl, sz_of hl, o.now g (.int _)⟩
    · cases e
  · cases e
theorem r_abs : RuleC C (fun xs H Q => ∃ i, xs = [.int i] ∧ Q (.int (if i < 0 then -i else i)) H) pAbs := fun H0 H vs ds d Q g r e o => by
  unfold pAbs at e
  split at e
  · cases e
    obtain ⟨v, rfl, rr⟩ := rpxs1 r
    rw [rr.int]
    exact ⟨_, rfl, o.now g (.int _)⟩
  · cases e
theorem r_int : RuleC C (fun xs H Q => (∃ i, xs = [.int i] ∧ Q (.int i) H) ∨ ∃ k, xs = [.bl k] ∧ Q (.int (if k then 1 else 0)) H) pInt := fun H0 H vs ds d Q g r e o => by
  unfold pInt at e
  split at e
  · cases e
    obtain ⟨v, rfl, rr⟩ := rpxs1 r
    rw [rr.int]
    exact .inl ⟨_, rfl, o.now g (.int _)⟩
  · cases e
    obtain ⟨v, rfl, rr⟩ := rpxs1 r
    rw [rr.bl]
    exact .inr ⟨_, rfl, o.now g (.int _)⟩
  · cases e
theorem r_all : RuleC C (rAll C.K) pAll := fun H0 H vs ds d Q g r e o => by
  unfold pAll at e
  split at e
  · obtain ⟨bs, h1, h2⟩ := rgs1 e
    cases h2
    obtain ⟨v, rfl, rr⟩ := rpxs1 r
    obtain ⟨a, ws, rfl, h3, h4⟩ := rr.list g.ex
    rw [boolsD_eq h1] at h4
    rw [h4.bools] at h3
    exact ⟨a, bs, rfl, .inl h3, o.now g (.bl _)⟩
  · cases e
theorem r_any : RuleC C (rAny C.K) pAny := fun H0 H vs ds d Q g r e o => by
  unfold pAny at e
  split at e
  · obtain ⟨bs, h1, h2⟩ := rgs1 e
    cases h2
    obtain ⟨v, rfl, rr⟩ := rpxs1 r
    obtain ⟨a, ws, rfl, h3, h4⟩ := rr.list g.ex
    rw [boolsD_eq h1] at h4
    rw [h4.bools] at h3
    exact ⟨a, bs, rfl, .inl h3, o.now g (.bl _)⟩
  · cases e
theorem cr_sumA (hc : X.calm = true) : CallR X (.builtin "sum") (fun xs H Q => rSum X.K xs H Q ∨ rSumT X.K xs H Q) := (cr_sum hc).or (cr_sumT hc)
theorem r_sum : RuleC C (fun xs H Q => rSum C.K xs H Q ∨ rSumT C.K xs H Q) pSum := fun H0 H vs ds d Q g r e o => by
  unfold pSum at e
  split at e
  · obtain ⟨ns, h1, h2⟩ := rgs1 e
    cases h2
    obtain ⟨v, rfl, rr⟩ := rpxs1 r
    obtain ⟨a, ws, rfl, h3, h4⟩ := rr.list g.ex
    rw [intsD_eq h1] at h4
    rw [h4.ints] at h3
    exact .inl ⟨a, ns, rfl, .inl h3, o.now g (.int _)⟩
  · obtain ⟨ns, h1, h2⟩ := rgs1 e
    cases h2
    obtain ⟨v, rfl, rr⟩ := rpxs1 r
    obtain ⟨a, ws, rfl, h3, h4⟩ := rr.tup g.ex
    rw [intsD_eq h1] at h4
    rw [h4.ints] at h3
    exact .inr ⟨a, ns, rfl, h3, o.now g (.int _)⟩
  · cases e
theorem cr_maxA (hc : X.calm = true) : CallR X (.builtin "max") (fun xs H Q => (rMax X.K xs H Q ∨ rMaxT X.K xs H Q) ∨ ∃ i j, xs = [.int i, .int j] ∧ Q (.int (if j > i then j else i)) H) := ((cr_max hc).or (cr_maxT hc)).or (call_max2 hc)
theorem maxL_pos {ns : List Int} {m : Int} (h : maxL ns = some m) : 0 < ns.length := by cases ns with
  | nil => cases h
  | cons x l => simp
theorem minL_pos {ns : List Int} {m : Int} (h : minL ns = some m) : 0 < ns.length := by cases ns with
  | nil => cases h
  | cons x l => simp
theorem r_max : RuleC C (fun xs H Q => (rMax C.K xs H Q ∨ rMaxT C.K xs H Q) ∨ ∃ i j, xs = [.int i, .int j] ∧ Q (.int (if j > i then j else i)) H) pMax := fun H0 H vs ds d Q g r e o => by
  unfold pMax at e
  split at e
  · obtain ⟨ns, h1, h2⟩ := rgs1 e
    obtain ⟨m, h5, h2⟩ := rgs1 h2
    cases h2
    obtain ⟨v, rfl, rr⟩ := rpxs1 r
    obtain ⟨a, ws, rfl, h3, h4⟩ := rr.list g.ex
    rw [intsD_eq h1] at h4
    rw [h4.ints] at h3
    exact .inl (.inl ⟨a, ns, rfl, .inl h3, maxL_pos h5, fun k h6 h7 => o.now g (by rw [maxL_is h5 h6 h7]; exact .int _)⟩)
  · obtain ⟨ns, h1, h2⟩ := rgs1 e
    obtain ⟨m, h5, h2⟩ := rgs1 h2
    cases h2
    obtain ⟨v, rfl, rr⟩ := rpxs1 r
    obtain ⟨a, ws, rfl, h3, h4⟩ := rr.tup g.ex
    rw [intsD_eq h1] at h4
    rw [h4.ints] at h3
    exact .inl (.inr ⟨a, ns, rfl, h3, maxL_pos h5, fun k h6 h7 => o.now g (by rw [maxL_is h5 h6 h7]; exact .int _)⟩)
  · cases e
    obtain ⟨v, w, rfl, r1, r2⟩ := rpxs2 r
    rw [r1.int, r2.int]
    exact .inr ⟨_, _, rfl, o.now g (.int _)⟩
  · cases e
theorem cr_minA (hc : X.calm = true) : CallR X (.builtin "min") (fun xs H Q => (rMin X.K xs H Q ∨ rMinT X.K xs H Q) ∨ ∃ i j, xs = [.int i, .int j] ∧ Q (.int (if j < i then j else i)) H) := ((cr_min hc).or (cr_minT hc)).or (call_min2 hc)
theorem r_min : RuleC C (fun xs H Q => (rMin C.K xs H Q ∨ rMinT C.K xs H Q) ∨ ∃ i j, xs = [.int i, .int j] ∧ Q (.int (if j < i then j else i)) H) pMin := fun H0 H vs ds d Q g r e o => by
  unfold pMin at e
  split at e
  · obtain ⟨ns, h1, h2⟩ := rgs1 e
    obtain ⟨m, h5, h2⟩ := rgs1 h2
    cases h2
    obtain ⟨v, rfl, rr⟩ := rpxs1 r
    obtain ⟨a, ws, rfl, h3, h4⟩ := rr.list g.ex
    rw [intsD_eq h1] at h4
    rw [h4.ints] at h3
    exact .inl (.inl ⟨a, ns, rfl, .inl h3, minL_pos h5, fun k h6 h7 => o.now g (by rw [minL_is h5 h6 h7]; exact .int _)⟩)
  · obtain ⟨ns, h1, h2⟩ := rgs1 e
    obtain ⟨m, h5, h2⟩ := rgs1 h2
    cases h2
    obtain ⟨v, rfl, rr⟩ := rpxs1 r
    obtain ⟨a, ws, rfl, h3, h4⟩ := rr.tup g.ex
    rw [intsD_eq h1] at h4
    rw [h4.ints] at h3
    exact .inl (.inr ⟨a, ns, rfl, h3, minL_pos h5, fun k h6 h7 => o.now g (by rw [minL_is h5 h6 h7]; exact .int _)⟩)
  · cases e
    obtain ⟨v, w, rfl, r1, r2⟩ := rpxs2 r
    rw [r1.int, r2.int]
    exact .inr ⟨_, _, rfl, o.now g (.int _)⟩
  · cases e
theorem tup_of {v : V} {ds : List PyData} (r : RpX C.K H0 H v (.tuple ds)) : Rp C.K H0 v (.tuple ds) := by
  rcases r with h | ⟨p, ws, es, rfl, e, _⟩
  · exact h
  · cases e
theorem r_tuple : RuleC C (fun xs H Q => ∃ p ys, xs = [.ref p] ∧ ((SqL C.K H p ys ∧ ∀ l, H l = none → Q (.ref l) (upd H l (.tup ys))) ∨ (SqT C.K H p ys ∧ Q (.ref p) H))) pTuple := fun H0 H vs ds d Q g r e o => by
  unfold pTuple at e
  split at e
  · cases e
    obtain ⟨v, rfl, rr⟩ := rpxs1 r
    obtain ⟨a, ws, rfl, h3, h4⟩ := rr.list g.ex
    exact ⟨a, ws, rfl, .inl ⟨.inl h3, fun l hl => o _ _ _ (Fm.new g.ex hl) (g.new hl fun _ z => by cases z) (.tup (SqT.of upd_same) (h4.mono (Ex.new (fresh_back g.ex hl))))⟩⟩
  · cases e
    obtain ⟨v, rfl, rr⟩ := rpxs1 r
    obtain ⟨a, ws, rfl, h3, h4⟩ := rr.tup g.ex
    exact ⟨a, ws, rfl, .inr ⟨h3, o.now g (tup_of rr)⟩⟩
  · cases e
theorem r_list : RuleCN C (fun xs H Q => ∃ p ys, xs = [.ref p] ∧ (SqL C.K H p ys ∨ SqT C.K H p ys) ∧ ∀ l, H l = none → Q (.ref l) (upd H l (.lst ys))) pList := fun H0 H vs ds es Q g r e o => by
  unfold pList at e
  split at e
  · cases e
    obtain ⟨v, rfl, rr⟩ := rpxs1 r
    obtain ⟨a, ws, rfl, h3, h4⟩ := rr.list g.ex
    exact ⟨a, ws, rfl, .inl (.inl h3), fun l hl => o l _ _ (Fm.newO hl) (g.newO hl) hl upd_same h4⟩
  · cases e
    obtain ⟨v, rfl, rr⟩ := rpxs1 r
    obtain ⟨a, ws, rfl, h3, h4⟩ := rr.tup g.ex
    exact ⟨a, ws, rfl, .inr h3, fun l hl => o l _ _ (Fm.newO hl) (g.newO hl) hl upd_same h4⟩
  · cases e
theorem r_sorted : RuleCN C (rSortedI C.K) pSorted := fun H0 H vs ds es Q g r e o => by
  unfold pSorted at e
  split at e
  · obtain ⟨ns, h1, h2⟩ := rgs1 e
    cases h2
    obtain ⟨v, rfl, rr⟩ := rpxs1 r
    obtain ⟨a, ws, rfl, h3, h4⟩ := rr.list g.ex
    rw [intsD_eq h1] at h4
    rw [h4.ints] at h3
    refine ⟨a, ns, rfl, .inl h3, fun ns' p h5 h6 hp => o p _ _ (Fm.newO hp) (g.newO hp) hp upd_same ?_⟩
    rw [srtI_uniq h5 h6]
    exact RpAll.of_ints _
  · cases e
theorem r_repr : RuleC C (rRepr C.K) pRepr := fun H0 H vs ds d Q g r e o => by
  unfold pRepr at e
  split at e
  · split at e
    · rename_i hm
      cases e
      obtain ⟨v, rfl, rr⟩ := rpxs1 r
      obtain ⟨a, ws, rfl, h3, h4⟩ := rr.list g.ex
      exact ⟨a, _, rfl, (rr.mono g.ex).dp hm.1, hm.2.1, hm.2.2.1, hm.2.2.2.1, sz_of hm.2.2.2.2, o.now g (.str _)⟩
    · cases e
  · split at e
    · rename_i hm
      cases e
      obtain ⟨v, rfl, rr⟩ := rpxs1 r
      obtain ⟨a, ws, rfl, h3, h4⟩ := rr.tup g.ex
      exact ⟨a, _, rfl, (rr.mono g.ex).dp hm.1, hm.2.1, hm.2.2.1, hm.2.2.2.1, sz_of hm.2.2.2.2, o.now g (.str _)⟩
    · cases e
  · cases e
/-- xs * n -/
theorem r_rep : Rule2N C rRepR pRep := fun H0 H x y dx dy ds Q g rx ry e o => by
  unfold pRep at e
  split at e
  · split at e
    · rename_i xs n hm
      cases e
      obtain ⟨a, vs, e1, e2, e3⟩ := rx.list g.ex
      have key : RpAll C.K H0 (List.replicate n.toNat vs).flatten (List.replicate n.toNat xs).flatten := by
        generalize n.toNat = m
        induction m with
        | zero => exact .nil
        | succ m ih => rw [List.replicate_succ, List.replicate_succ, List.flatten_cons, List.flatten_cons]; exact e3.append ih
      refine ⟨a, n, vs, e1, ry.int, e2, by omega, by omega, sz_of ?_, fun p hp => o p _ _ (Fm.newO hp) (g.newO hp) hp upd_same key⟩
      rw [e3.length]
      have := Nat.mul_le_mul hm.2.2 (show n.toNat ≤ 1000 by omega)
      omega
    · cases e
  · cases e
/-- the kind of a value -/
def isD (T : String) (d : PyData) : R PyData := R.get (tyD d) >>= fun U => R.get (kitB U T) >>= fun b => .ok (.bool b)
theorem de_isi {F : Sem' Op} {T : String} {x t : Str} {p1 p2 : Pos} (hK : C.K = X.K) (ha : PE X a (tO C F)) (hx : x = "isinstance") (hg : Gl X x) (hm : X.mg x = none) (hg2 : Gl X t) (hm2 : X.mg t = none) (hv2 : bootBuiltins t = some (.type T))
    (hn2 : t ≠ "__name__" := by decide) (hd2 : (t == ("__debug__" : Str)) = false := by decide)
    (hs : starEach [.Name t p2] X.env = [(false, eval (.Name t p2) X.env)] := by rfl)
    (he : starEach (a :: [.Name t p2]) X.env = (false, eval a X.env) :: starEach [.Name t p2] X.env := by rfl) (hpl : (backTo pos (starEach [.Name t p2] X.env)).any (·.1) = false := by rfl) :
    PE X (.Call (.Name x p1) [a, .Name t p2] [] pos) (tE C (d1 (isD T) F)) := by
  subst hx
  refine (pe_callB (call_isi (X := X)) hg hm (by rfl) (pa_cons ha (pa_cons (pe_bltn (v := .ty T) hg2 hm2 hv2 rfl hn2 hd2) pa_nil hs) he) (by decide) (by decide) he hpl).imp fun σ H Q ⟨H0, en, s, p⟩ => ?_
  refine d1_go (K' := fun x H2 => rIsi X.K [x, .ty T] H2 Q) idO s p fun H01 H1 en1 x dx z s1 _ rx e p1 => ?_
  unfold isD at e
  obtain ⟨U, h0, h2⟩ := rgs1 e
  obtain ⟨b, h1, h2⟩ := rgs1 h2
  cases h2
  refine ⟨x, .ty T, .type U, .type T, b, rfl, .ty T, hK ▸ tyx_of (rx.mono s1.ex) h0, kit_ty h1, p1 H01 H1 _ Stp.refl s1 (.bl b)⟩

/-! ### chains of two comparisons -/
theorem post_at {α : Type} {rel : En → Hp → Hp → V → α → Prop} {Q : VK} {x : R (α × En)} {H0' H' : Hp} {en' : En} (h : Post C rel H0 H σ en Q x) (st : Stp σ en H0 H σ en' H0' H') : Post C rel H0' H' σ en' Q x := by
  cases x with
  | ok q => exact fun H02 H2 v st2 sr r => h H02 H2 v (st.trans st2) sr r
  | exc n => exact Ct.err_at h st.fm st.ow
  | bad => exact h
theorem chain_go {F G I : Sem' Op} {op op' : PyData → PyData → R PyData} {r r' : R2} (hr : Rule2 C r op) (hr' : Rule2 C r' op') {Q : VK} (s : SR C.K C.T H0 H σ en) (p : Post C (fun _ H0' _ v a => Rp C.K H0' v a) H0 H σ en Q (dChain op op' F G I en)) : tChain r r' (tO C F) (tO C G) (tO C I) σ H Q := by
  refine ⟨H0, en, s, post_bind (rel2 := fun _ H0' _ v a => Rp C.K H0' v a) (f := fun x e1 => G e1 >>= fun q => lift (x.res q.2) >>= fun x => lift (q.1.res q.2) >>= fun y => lift (op x y) >>= fun z => match z with
    | .bool b => if b then I q.2 >>= fun r => lift (q.1.res r.2) >>= fun y' => lift (r.1.res r.2) >>= fun w => lift (op' y' w) >>= fun z' => .ok (z', r.2) else .ok (.bool false, q.2)
    | _ => .bad) (Q2 := Q) p ?_⟩
  intro x en1 H01 H1 v1 _ st1 s1 r1 p1
  refine ⟨H01, en1, s1, post_bind (rel2 := fun _ H0' _ v a => Rp C.K H0' v a) (f := fun y e2 => lift (x.res e2) >>= fun x => lift (y.res e2) >>= fun y' => lift (op x y') >>= fun z => match z with
    | .bool b => if b then I e2 >>= fun r => lift (y.res r.2) >>= fun y' => lift (r.1.res r.2) >>= fun w => lift (op' y' w) >>= fun z' => .ok (z', r.2) else .ok (.bool false, e2)
    | _ => .bad) (Q2 := Q) p1 ?_⟩
  intro y en2 H02 H2 v2 _ st2 s2 r2 p2
  cases e1 : x.res en2 with
  | exc n => rw [e1] at p2; exact p2.elim
  | bad => rw [e1] at p2; exact p2.elim
  | ok dx =>
    rw [e1] at p2
    cases e2 : y.res en2 with
    | exc n => rw [e2] at p2; exact p2.elim
    | bad => rw [e2] at p2; exact p2.elim
    | ok dy =>
      rw [e2] at p2
      have p2 : Post C (fun _ H0' _ v a => Rp C.K H0' v a) H02 H2 σ en2 Q (lift (op dx dy) >>= fun z => match z with
        | .bool b => if b then I en2 >>= fun r => lift (y.res r.2) >>= fun y' => lift (r.1.res r.2) >>= fun w => lift (op' y' w) >>= fun z' => .ok (z', r.2) else .ok (.bool false, en2)
        | _ => .bad) := p2
      cases e3 : op dx dy with
      | exc n => rw [e3] at p2; exact p2.elim
      | bad => rw [e3] at p2; exact p2.elim
      | ok z =>
        rw [e3] at p2
        refine hr H02 H2 v1 v2 dx dy z _ s2.good (OpdR.res s2 (r1.mono st2.fm.ex) e1) (OpdR.res s2 r2 e2) e3 fun H03 H3 w fm g3 rz => ?_
        have s3 := s2.grown fm g3
        cases z with
        | bool b =>
          cases rz
          refine ⟨b, rfl, ?_⟩
          cases b with
          | false =>
            rw [if_neg Bool.false_ne_true]
            exact p2 H03 H3 _ fm.stp s3 (.bl false)
          | true =>
            rw [if_pos rfl]
            have p3 := post_at (en' := en2) p2 fm.stp
            refine ⟨H03, en2, s3, post_bind (rel2 := fun _ H0' _ v a => Rp C.K H0' v a) (f := fun r e => lift (y.res e) >>= fun y' => lift (r.res e) >>= fun w => lift (op' y' w) >>= fun z' => .ok (z', e)) (Q2 := Q) p3 ?_⟩
            intro u en4 H04 H4 v4 _ st4 s4 r4 p4
            cases e4 : y.res en4 with
            | exc n => rw [e4] at p4; exact p4.elim
            | bad => rw [e4] at p4; exact p4.elim
            | ok dy' =>
              rw [e4] at p4
              cases e5 : u.res en4 with
              | exc n => rw [e5] at p4; exact p4.elim
              | bad => rw [e5] at p4; exact p4.elim
              | ok du =>
                rw [e5] at p4
                have p4 : Post C (fun _ H0' _ v a => Rp C.K H0' v a) H04 H4 σ en4 Q (lift (op' dy' du) >>= fun z' => .ok (z', en4)) := p4
                cases e6 : op' dy' du with
                | exc n => rw [e6] at p4; exact p4.elim
                | bad => rw [e6] at p4; exact p4.elim
                | ok z' =>
                  rw [e6] at p4
                  exact hr' H04 H4 v2 v4 dy' du z' Q s4.good (OpdR.res s4 ((r2.mono fm.ex).mono st4.fm.ex) e4) (OpdR.res s4 r4 e5) e6 (out_post s4 p4)
        | _ => exact p2.elim
theorem de_chain {F G I : Sem' Op} {op op' : CmpOp} {r r' : R2} {f f' : PyData → PyData → R PyData} (ho : OpR X (compareOp op) r) (ho' : OpR X (compareOp op') r') (hr : Rule2 C r f) (hr' : Rule2 C r' f') (ha : PE X a (tO C F)) (hb : PE X b (tO C G)) (hc : PE X c (tO C I))
    (hm : lastMarks [op, op'] [b, c] = false := by with_unfolding_all rfl) : PE X (.Compare a [op, op'] [b, c] pos) (tE C (dChain f f' F G I)) :=
  (pe_chain ho ho' ha hb hc hm).imp fun σ H Q ⟨H0, en, s, p⟩ => chain_go hr hr' s p
theorem dt_chain {F G I : Sem' Op} {op op' : CmpOp} {r r' : R2} {f f' : PyData → PyData → R PyData} (ho : OpR X (compareOp op) r) (ho' : OpR X (compareOp op') r') (hr : Rule2 C r f) (hr' : Rule2 C r' f') (ha : PE X a (tO C F)) (hb : PE X b (tO C G)) (hc : PE X c (tO C I))
    (hm : lastMarks [op, op'] [b, c] = false := by with_unfolding_all rfl) : PT X (.Compare a [op, op'] [b, c] pos) (tT C (dB (dChain f f' F G I))) :=
  dt_of (pt_chain ho ho' ha hb hc hm) fun σ H Q ⟨H0, en, s, p⟩ => chain_go hr hr' s p
/-! ### a module's constants -/
theorem de_glob {x : Str} {v : V} {u : Value} {d : PyData} (hg : Gl X x) (hm : X.mg x = some u) (r : RelV v u) (hd : (x == ("__debug__" : Str)) = false := by decide) (rd : ∀ K H, Rp K H v d) : PE X (.Name x pos) (tE C (dC d)) := de_c (pe_glob hg hm r hd) rd
theorem de_globI {x : Str} {i : Int} {t : Tok} (hg : Gl X x) (hm : X.mg x = some (.int i t)) (hd : (x == ("__debug__" : Str)) = false := by decide) : PE X (.Name x pos) (tE C (dC (.int i))) := de_glob (v := .int i) hg hm ⟨t, rfl⟩ hd fun _ _ => .int i

/-! ### methods of lists that change nothing -/
def asList (x : PyData) : R Unit := match x with
  | .list _ => .ok ()
  | _ => .bad
def dM (op : PyData → PyData → R PyData) (F G : Sem' Op) : Sem' PyData := fun en => F en >>= fun p => lift (p.1.res p.2) >>= fun x0 => lift (asList x0) >>= fun _ => G p.2 >>= fun q => lift (p.1.res q.2) >>= fun x => lift (q.1.res q.2) >>= fun y => lift (op x y) >>= fun z => .ok (z, q.2)
theorem de_mt {T : String} {id : String} {name : Str} {m : V → List V → Hp → VK → Prop} {F G : Sem' Op} {f : PyData → PyData → R PyData} {apos cpos : Pos} (hT : T = "list") (hK : C.K = X.K) (pa : PlainAttrs T) (slot : Slot T name id) (hty : typeOf (.builtin id) = pure (.type "method_descriptor")) (hm : MtR X id m) (hr : Rule2 C (fun x y H Q => m x [y] H Q) f)
    (ho : PE X a (tO C F)) (he : PE X b (tO C G)) (hbase : attributeBase a name X.env (eval a X.env) = eval a X.env := by rfl)
    (hfew : ((backTo cpos (starEach (b :: []) X.env)).all (fun x => !x.1) && (backToKw cpos (keywordEach [] X.env)).all (fun x => x.1.isSome)
      && decide ((b :: ([] : List Expr)).length + ([] : List Keyword).length + (if ([] : List Keyword).isEmpty then 0 else 1) < 30)) = true := by rfl)
    (hline : (apos.endLine == cpos.line) = true := by rfl) (hs : starEach (b :: []) X.env = (false, eval b X.env) :: starEach [] X.env := by rfl) (hplain : (backTo cpos (starEach [] X.env)).any (·.1) = false := by rfl) :
    PE X (.Call (.Attribute a name apos) [b] [] cpos) (tE C (dM f F G)) :=
  (pe_bm pa slot hty hm ho (pa_cons he pa_nil hs) hbase hfew hline hs hplain).imp fun σ H Q ⟨H0, en, sr, p⟩ => by
    refine ⟨H0, en, sr, post_bind (rel2 := fun _ H0' _ v a => Rp C.K H0' v a) (f := fun x e1 => lift (x.res e1) >>= fun x0 => lift (asList x0) >>= fun _ => G e1 >>= fun q => lift (x.res q.2) >>= fun x => lift (q.1.res q.2) >>= fun y => lift (f x y) >>= fun z => .ok (z, q.2)) (Q2 := Q) p ?_⟩
    intro x en1 H01 H1 v1 _ st1 s1 r1 p1
    cases e0 : x.res en1 with
    | exc n => rw [e0] at p1; exact p1.elim
    | bad => rw [e0] at p1; exact p1.elim
    | ok d0 =>
      rw [e0] at p1
      cases d0 with
      | list xs0 =>
        obtain ⟨q0, ws0, ev, h3, h4⟩ := (OpdR.res s1 r1 e0).list s1.ex
        subst ev hT
        refine ⟨.inl ⟨rfl, ws0, .inl h3⟩, H01, en1, s1, post_bind (rel2 := fun _ H0' _ v a => Rp C.K H0' v a) (f := fun y e2 => lift (x.res e2) >>= fun x => lift (y.res e2) >>= fun y => lift (f x y) >>= fun z => .ok (z, e2)) (Q2 := Q) p1 ?_⟩
        intro y en2 H02 H2 v2 _ st2 s2 r2 p2
        cases e1 : x.res en2 with
        | exc n => rw [e1] at p2; exact p2.elim
        | bad => rw [e1] at p2; exact p2.elim
        | ok dx =>
          rw [e1] at p2
          cases e2 : y.res en2 with
          | exc n => rw [e2] at p2; exact p2.elim
          | bad => rw [e2] at p2; exact p2.elim
          | ok dy =>
            rw [e2] at p2
            have p2 : Post C (fun _ H0' _ v a => Rp C.K H0' v a) H02 H2 σ en2 Q (lift (f dx dy) >>= fun z => .ok (z, en2)) := p2
            cases e3 : f dx dy with
            | exc n => rw [e3] at p2; exact p2.elim
            | bad => rw [e3] at p2; exact p2.elim
            | ok z =>
              rw [e3] at p2
              exact hr H02 H2 _ v2 dx dy z Q s2.good (OpdR.res s2 (r1.mono st2.fm.ex) e1) (OpdR.res s2 r2 e2) e3 (out_post s2 p2)
      | _ => exact p1.elim
end
end PD
end
section
namespace PD
open PySem PySem.Spec PyProof.Rows L2 Evl

/-! ### zip, enumerate -/
def isT : PyData → Bool
  | .tuple _ => true
  | _ => false
def zipD (xs ys : List PyData) : List PyData := (xs.zip ys).map fun p => .tuple [p.1, p.2]
def enumD (xs : List PyData) : List PyData := xs.zipIdx.map fun p => .tuple [.int (p.2 : Int), p.1]
def zip2 (os : List PyData) : R (List PyData) := match os with
  | [d, e] => seqOf d >>= fun xs => seqOf e >>= fun ys => .ok (zipD xs ys)
  | _ => .bad
def enum1 (os : List PyData) : R (List PyData) := match os with
  | [d] => seqOf d >>= fun xs => .ok (enumD xs)
  | _ => .bad
section
variable {C : Ct} {X : Cx} {H0 H H0' H' : Hp} {σ : L2.St} {en en' : En} {a b c tg : Expr} {pos tpos : Pos} {elts : List Expr} {kk : Nat}
theorem rok {α β : Type} {x : R α} {f : α → R β} {z : β} (h : (x >>= f) = .ok z) : ∃ a, x = .ok a ∧ f a = .ok z := by
  cases x with
  | ok a => exact ⟨a, rfl, h⟩
  | exc n => cases h
  | bad => cases h
theorem sq_of {v : V} {d : PyData} {ds : List PyData} (h : RpX C.K H0 H v d) (e : seqOf d = .ok ds) (hx : Ex H0 H) : ∃ a ws, v = .ref a ∧ Sq C.K H (isT d) a ws ∧ RpAll C.K H0 ws ds := by
  cases d <;> first | (cases e; done) | skip
  · cases e
    obtain ⟨a, ws, rfl, h1, h2⟩ := h.list hx
    exact ⟨a, ws, rfl, .inl h1, h2⟩
  · cases e
    obtain ⟨a, ws, rfl, h1, h2⟩ := h.tup hx
    exact ⟨a, ws, rfl, h1, h2⟩
theorem new_tup {vs : List V} {ds : List PyData} {T : Addr} (g : Good C H0 H) (hT : H T = none) (r : RpAll C.K H0 vs ds) : Fm (fun _ => False) H0 H (upd H0 T (.tup vs)) (upd H T (.tup vs)) ∧ Good C (upd H0 T (.tup vs)) (upd H T (.tup vs)) ∧ Rp C.K (upd H0 T (.tup vs)) (.ref T) (.tuple ds) :=
  ⟨Fm.new g.ex hT, g.new hT (fun _ z => by cases z), .tup (SqT.of upd_same) (r.mono (Ex.new (fresh_back g.ex hT)))⟩
theorem itzu_d {d e : PyData} {xs ys : List PyData} {a1 a2 : Addr} (h1 : seqOf d = .ok xs) (h2 : seqOf e = .ok ys) : ItD C (Itzu C.K (isT d) (isT e) a1 a2) (zipD xs ys) (fun H0' H' => RpXs C.K H0' H' [.ref a1, .ref a2] [d, e]) where
  go := fun H0' H' i x hp g hx => by
    obtain ⟨p1, ws1, e1, s1, r1⟩ := sq_of hp.1 h1 g.ex
    obtain ⟨p2, ws2, e2, s2, r2⟩ := sq_of hp.2.1 h2 g.ex
    cases e1
    cases e2
    unfold zipD at hx
    rw [List.getElem?_map] at hx
    obtain ⟨⟨x1, y1⟩, hz, rfl⟩ := Option.map_eq_some_iff.mp hx
    rw [List.getElem?_zip_eq_some] at hz
    obtain ⟨u, hu, ru⟩ := r1.get hz.1
    obtain ⟨w, hw, rw'⟩ := r2.get hz.2
    refine ⟨⟨ws1, ws2, u, w, s1, s2, hu, hw⟩, fun v H3 ⟨T, x, y, ev, hT, e3, k1, k2⟩ => ?_⟩
    have ex : u = x := by have := k1 ws1 s1; rw [hu] at this; exact Option.some.inj this
    have ey : w = y := by have := k2 ws2 s2; rw [hw] at this; exact Option.some.inj this
    subst ex ey ev e3
    exact ⟨_, new_tup g hT (.cons ru (.cons rw' .nil))⟩
  stop := fun H0' H' hp g => by
    obtain ⟨p1, ws1, e1, s1, r1⟩ := sq_of hp.1 h1 g.ex
    obtain ⟨p2, ws2, e2, s2, r2⟩ := sq_of hp.2.1 h2 g.ex
    cases e1
    cases e2
    exact ⟨ws1, ws2, s1, s2, by rw [r1.length, r2.length]; simp [zipD]⟩
theorem di_zip {F : Sem' (List Op)} {p : Pos} (hK : C.K = X.K) (hg : Gl X "zip") (hm : X.mg "zip" = none) (ha : PA X [a, b] (tA C F))
    (hs : starEach [a, b] X.env = (false, eval a X.env) :: starEach [b] X.env := by rfl) (hpl : (backTo pos (starEach [b] X.env)).any (·.1) = false := by rfl) :
    PI X (.Tuple elts kk tpos) (.Call (.Name "zip" p) [a, b] [] pos) (tI C (itA zip2 F)) :=
  (pi_zipU hg hm ha hs hpl).imp fun σ H Rk ⟨H0, en, s, p⟩ => dI_go s p fun H01 H1 en1 vs ds z s1 r e k => by
    unfold zip2 at e
    split at e
    · rename_i d d'
      obtain ⟨xs, h1, e⟩ := rok e
      obtain ⟨ys, h2, e⟩ := rok e
      cases e
      obtain ⟨v, w, rfl, rv, rw'⟩ := rpxs2 r
      obtain ⟨p1, ws1, e1, s1', r1⟩ := sq_of rv h1 s1.ex
      obtain ⟨p2, ws2, e2, s2', r2⟩ := sq_of rw' h2 s1.ex
      subst e1 e2
      rw [← hK]
      exact ⟨_, _, p1, p2, ws1, ws2, rfl, s1', s2', k _ (itzu_d h1 h2)⟩
    · cases e
theorem iteu_d {d : PyData} {xs : List PyData} {a1 : Addr} (h1 : seqOf d = .ok xs) : ItD C (Iteu C.K (isT d) a1) (enumD xs) (fun H0' H' => RpXs C.K H0' H' [.ref a1] [d]) where
  go := fun H0' H' i x hp g hx => by
    obtain ⟨p1, ws1, e1, s1, r1⟩ := sq_of hp.1 h1 g.ex
    cases e1
    unfold enumD at hx
    rw [List.getElem?_map] at hx
    obtain ⟨⟨x1, j⟩, hz, rfl⟩ := Option.map_eq_some_iff.mp hx
    rw [List.getElem?_zipIdx] at hz
    obtain ⟨x2, hz', e⟩ := Option.map_eq_some_iff.mp hz
    cases e
    obtain ⟨u, hu, ru⟩ := r1.get hz'
    refine ⟨⟨ws1, u, s1, hu⟩, fun v H3 ⟨T, x, ev, hT, e3, k1⟩ => ?_⟩
    have ex : u = x := by have := k1 ws1 s1; rw [hu] at this; exact Option.some.inj this
    subst ex ev e3
    have q := new_tup g hT (.cons (.int ((i : Nat) : Int)) (.cons ru .nil))
    rw [show (0 + i : Nat) = i by omega]
    exact ⟨_, q⟩
  stop := fun H0' H' hp g => by
    obtain ⟨p1, ws1, e1, s1, r1⟩ := sq_of hp.1 h1 g.ex
    cases e1
    exact ⟨ws1, s1, by rw [r1.length]; simp [enumD]⟩
theorem di_enum {F : Sem' (List Op)} {p : Pos} (hK : C.K = X.K) (hg : Gl X "enumerate") (hm : X.mg "enumerate" = none) (ha : PA X [a] (tA C F))
    (hs : starEach [a] X.env = [(false, eval a X.env)] := by rfl) : PI X (.Tuple elts kk tpos) (.Call (.Name "enumerate" p) [a] [] pos) (tI C (itA enum1 F)) :=
  (pi_enumU hg hm ha hs).imp fun σ H Rk ⟨H0, en, s, p⟩ => dI_go s p fun H01 H1 en1 vs ds z s1 r e k => by
    unfold enum1 at e
    split at e
    · rename_i d
      obtain ⟨xs, h1, e⟩ := rok e
      cases e
      obtain ⟨v, rfl, rv⟩ := rpxs1 r
      obtain ⟨p1, ws1, e1, s1', r1⟩ := sq_of rv h1 s1.ex
      subst e1
      rw [← hK]
      exact ⟨_, p1, ws1, rfl, s1', k _ (iteu_d h1)⟩
    · cases e

/-! ### values that are stored -/
def rvD (F : Sem' PyData) : Sem' Rv := fun en => F en >>= fun p => .ok (.dat p.1, p.2)
def rvW (F : Sem' (List PyData)) : Sem' Rv := fun en => F en >>= fun p => .ok (.new p.1, p.2)
theorem dv_ofE {F : Sem' PyData} (h : PE X a (tE C F)) : PE X a (tV C (rvD F)) := h.imp fun σ H Q ⟨H0, en, s, p⟩ => ⟨H0, en, s, by
  unfold rvD at p
  cases e : F en with
  | exc n => rw [e] at p; exact p
  | bad => rw [e] at p; exact p
  | ok q => rw [e] at p; exact fun H0' H' v st sr r => p H0' H' v st sr r⟩
theorem dv_ofN {F : Sem' (List PyData)} (h : PE X a (tN C F)) : PE X a (tV C (rvW F)) := h.imp fun σ H Q ⟨H0, en, s, p⟩ => ⟨H0, en, s, by
  unfold rvW at p
  cases e : F en with
  | exc n => rw [e] at p; exact p
  | bad => rw [e] at p; exact p
  | ok q => rw [e] at p; exact fun H0' H' v st sr r => p H0' H' v st sr r⟩
def slOf : Rv → Sl
  | .dat d => .dat d
  | .new ds => .own false ds
def putE (i : Nat) (r : Rv) (en : En) : R En := if ioAt en i then .bad else .ok (en.set i (slOf r))
theorem putE_ok {i : Nat} {r : Rv} {e : En} (h : putE i r en = .ok e) : ioAt en i = false ∧ e = en.set i (slOf r) := by
  unfold putE at h
  split at h
  · cases h
  · rename_i z
    cases h
    exact ⟨by simpa using z, rfl⟩
variable {H01 H1 H02 H2 Hs Hs0 : Hp} {en1 en2 : En} {σ' : L2.St}
theorem rvr_later {v : V} {r : Rv} (h : RvR C.K σ Hs en1 H01 H1 v r) (st : Stp σ en1 H01 H1 σ en2 H02 H2) : RvR C.K σ Hs en2 H02 H2 v r := by
  cases r with
  | dat d => exact Rp.mono st.fm.ex h
  | new ds =>
    obtain ⟨p, ws, e1, e2, e3, e4, e5, e6⟩ := h
    exact ⟨p, ws, e1, e2, st.fm.fr p _ e3 e6 (fun _ z => by cases z), st.fm.nw p (nw_lst e3) e6 e4, e5.mono st.fm.ex, fun z => (st.ow p z).elim e6 fun z => nw_lst e3 z⟩
theorem rvr_back {v : V} {r : Rv} (h : RvR C.K σ Hs en1 H01 H1 v r) (k : ∀ p, Nw Hs p → Nw Hs0 p) : RvR C.K σ Hs0 en1 H01 H1 v r := by
  cases r with
  | dat d => exact h
  | new ds =>
    obtain ⟨p, ws, e1, e2, e3, e4, e5, e6⟩ := h
    exact ⟨p, ws, e1, k p e2, e3, e4, e5, e6⟩
/-- a pending value is stored -/
theorem rvr_put {v : V} {r : Rv} {i : Nat} {σ0 : L2.St} {en0 : En} (h : RvR C.K σ Hs en1 H01 H1 v r) (s : SR C.K C.T H01 H1 σ en1) (st : Stp σ0 en0 Hs0 Hs σ en1 H01 H1) (hi : ioAt en1 i = false) :
    SR C.K C.T H01 H1 (σ.set i (some v)) (en1.set i (slOf r)) ∧ Stp σ0 en0 Hs0 Hs (σ.set i (some v)) (en1.set i (slOf r)) H01 H1 := by
  cases r with
  | dat d => exact ⟨set_sr s h, st.trans (set_stp hi)⟩
  | new ds =>
    obtain ⟨p, ws, e1, e2, e3, e4, e5, e6⟩ := h
    subst e1
    refine ⟨own_sr s e3 e4 e5 e6, ⟨st.fm, fun q ⟨j, io, es, h1, h2⟩ => ?_, fun j es h => ?_⟩⟩
    · by_cases z : i = j
      · subst z
        have hl : i < σ.length := by
          have := (List.getElem?_eq_some_iff.mp h2).1
          rwa [List.length_set] at this
        rw [List.getElem?_set_self hl] at h2
        cases h2
        exact .inr e2
      · rw [List.getElem?_set_ne z] at h1 h2
        exact st.ow q ⟨j, io, es, h1, h2⟩
    · obtain ⟨q1, ds', h'⟩ := st.io j es h
      have z : i ≠ j := fun z => by subst z; exact ioAt_no hi h'
      rw [List.getElem?_set_ne z, List.getElem?_set_ne z]
      exact ⟨q1, ds', h'⟩
/-- while another, older one is stored -/
theorem rvr_beside {v w : V} {r r' : Rv} {i : Nat} (h : RvR C.K σ Hs en1 H01 H1 v r) (k : RvR C.K σ Hs0 en1 H01 H1 w r') (old : ∀ p, v = .ref p → r ≠ .dat .none → Nw Hs0 p → ∀ ds, r' = .new ds → r = .dat .none ∨ w ≠ .ref p ∨ ∃ d, r = .dat d) : RvR C.K (σ.set i (some v)) Hs0 (en1.set i (slOf r)) H01 H1 w r' := by
  cases r' with
  | dat d => exact k
  | new ds =>
    obtain ⟨p, ws, e1, e2, e3, e4, e5, e6⟩ := k
    subst e1
    refine ⟨p, ws, rfl, e2, e3, e4, e5, fun ⟨j, io, es, h1, h2⟩ => ?_⟩
    by_cases z : i = j
    · subst z
      have hl : i < σ.length := by
        have := (List.getElem?_eq_some_iff.mp h2).1
        rwa [List.length_set] at this
      rw [List.getElem?_set_self hl] at h2
      have ev : v = .ref p := Option.some.inj (Option.some.inj h2)
      have hl' : i < en1.length := by
        have := (List.getElem?_eq_some_iff.mp h1).1
        rwa [List.length_set] at this
      rw [List.getElem?_set_self hl'] at h1
      cases r with
      | dat d => cases h1
      | new ds' =>
        rcases old p ev (fun z => by cases z) e2 ds rfl with q | q | ⟨d, q⟩
        · cases q
        · exact q rfl
        · cases q
    · rw [List.getElem?_set_ne z] at h1 h2
      exact e6 ⟨j, io, es, h1, h2⟩
/-- x, y = a, b -/
def sPar (i j : Nat) (F G : Sem' Rv) : SemS := fun en => ofR (F en) fun p => ofR (G p.2) fun q => ofR (lift (putE i p.1 q.2)) fun e => ofR (lift (putE j q.1 e)) fun e2 => .next e2
variable {D : Ends}
theorem postS_bindV {rel : En → Hp → Hp → V → Rv → Prop} {Q : VK} {x : R (Rv × En)} {f : Rv → En → RS}
    (h : PostS C H0 H σ en D (ofR x fun p => f p.1 p.2))
    (k : ∀ a en1 H01 H1 v, x = .ok (a, en1) → Stp σ en H0 H σ en1 H01 H1 → SR C.K C.T H01 H1 σ en1 → rel en1 H01 H1 v a → PostS C H0 H σ en D (f a en1) → Q v H1) : Post C rel H0 H σ en Q x := by
  cases x with
  | ok p =>
    obtain ⟨a, en1⟩ := p
    exact fun H01 H1 v st sr r => k a en1 H01 H1 v rfl st sr r h
  | exc n => exact h
  | bad => exact h.elim
theorem none_back {p : Addr} (st : Stp σ en H0 H σ' en1 H01 H1) (h : Nw H1 p) : Nw H p := st.fm.kp p h
theorem some_at {v : V} {ds : List PyData} {p : Addr} (h : RvR C.K σ Hs en1 H01 H1 v (.new ds)) (e : v = .ref p) : ¬ Nw H1 p := by
  obtain ⟨q, ws, e1, e2, e3, _⟩ := h
  rw [e] at e1
  cases e1
  exact nw_lst e3
theorem ds_par {i j : Nat} {x y : Str} {F G : Sem' Rv} {px py pt : Pos} {kt k2 pt2} (hc : X.calm = true) (hN : X.N.Nodup) (hi : X.N[i]? = some x) (hj : X.N[j]? = some y) (hij : i ≠ j)
    (hx : X.env.scope.names.lookup x = some .local) (hy : X.env.scope.names.lookup y = some .local) (ha : PE X a (tV C F)) (hb : PE X b (tV C G))
    (hw : swappedStores [.Tuple [.Name x px, .Name y py] kt pt] (.Tuple [a, b] k2 pt2) X.env = pure (some [x, y]))
    (hs : swapsWithSole [.Tuple [.Name x px, .Name y py] kt pt] (.Tuple [a, b] k2 pt2) pos.line X.env = pure false := by rfl)
    (h1 : starEach [a, b] X.env = (false, eval a X.env) :: starEach [b] X.env := by rfl) (h2 : starEach [b] X.env = [(false, eval b X.env)] := by rfl) :
    PS X (.Assign [.Tuple [.Name x px, .Name y py] kt pt] (.Tuple [a, b] k2 pt2) pos) (tS C (sPar i j F G)) :=
  (ps_par hc hN hi hj hij hx hy (pa_cons ha (pa_cons hb pa_nil h2) h1) hw hs).imp fun D σ H ⟨H0, en, s, p⟩ => by
    refine ⟨H0, en, s, postS_bindV (D := D) (f := fun r e => ofR (G e) fun q => ofR (lift (putE i r q.2)) fun e => ofR (lift (putE j q.1 e)) fun e2 => .next e2) p fun r1 en1 H01 H1 v _ st1 s1 k1 p1 => ?_⟩
    refine ⟨H01, en1, s1, postS_bindV (D := D) (f := fun r e => ofR (lift (putE i r1 e)) fun e => ofR (lift (putE j r e)) fun e2 => .next e2) (postS_at p1 st1 rfl rfl rfl rfl) fun r2 en2 H02 H2 w eg st2 s2 k2 _ => ?_⟩
    refine ⟨v, w, rfl, ?_⟩
    have p2 : PostS C H0 H σ en D (ofR (lift (putE i r1 en2)) fun e => ofR (lift (putE j r2 e)) fun e2 => .next e2) := by
      rw [eg] at p1
      exact p1
    cases e1 : putE i r1 en2 with
    | exc n => rw [e1] at p2; exact p2.elim
    | bad => rw [e1] at p2; exact p2.elim
    | ok e =>
      rw [e1] at p2
      have p2 : PostS C H0 H σ en D (ofR (lift (putE j r2 e)) fun e2 => .next e2) := p2
      cases e2 : putE j r2 e with
      | exc n => rw [e2] at p2; exact p2.elim
      | bad => rw [e2] at p2; exact p2.elim
      | ok e' =>
        rw [e2] at p2
        obtain ⟨i1, q1⟩ := putE_ok e1
        subst q1
        obtain ⟨i2, q2⟩ := putE_ok e2
        subst q2
        have k1' := rvr_later k1 st2
        have st := st1.trans st2
        obtain ⟨sA, stA⟩ := rvr_put (i := i) k1' s2 st i1
        have k2' : RvR C.K (σ.set i (some v)) H1 (en2.set i (slOf r1)) H02 H2 w r2 := rvr_beside k1' k2 fun p ev nd hp ds er => by
          cases r1 with
          | dat d => exact .inr (.inr ⟨d, rfl⟩)
          | new ds1 => exact absurd hp (some_at k1 ev)
        obtain ⟨sB, stB⟩ := rvr_put (i := j) (rvr_back k2' fun q hq => none_back st1 hq) sA stA i2
        exact p2 H02 H2 _ stB sB
end
end PD
end
section
namespace PD
open PySem PySem.Spec PyProof.Rows L2 Evl

/-! ### slices -/
def PostP (C : Ct) (H0 H : Hp) (σ : L2.St) (en : En) (Q : Option Int → Hp → Prop) : R (Option Int × En) → Prop
  | .ok (o, en') => ∀ H0' H', Stp σ en H0 H σ en' H0' H' → SR C.K C.T H0' H' σ en' → Q o H'
  | .exc n => C.err (OwnA σ en) H0 H n
  | .bad => False
def tP (C : Ct) (L : Sem' (Option Int)) : TO := fun σ H Q => ∃ H0 en, SR C.K C.T H0 H σ en ∧ PostP C H0 H σ en Q (L en)
def pNo : Sem' (Option Int) := fun en => .ok (none, en)
def asPart (d : PyData) : R (Option Int) := match d with
  | .int i => .ok (some i)
  | _ => .bad
def pSome (F : Sem' PyData) : Sem' (Option Int) := fun en => F en >>= fun p => lift (asPart p.1) >>= fun o => .ok (o, p.2)
def cutD (xs : List PyData) (lo hi : Option Int) : List PyData := (xs.drop (HT.sIx xs.length 0 lo)).take (HT.sIx xs.length xs.length hi - HT.sIx xs.length 0 lo)
def cutP (x : PyData) (lo hi : Option Int) : R PyData := match x with
  | .list ds => .ok (.list (cutD ds lo hi))
  | .tuple ds => .ok (.tuple (cutD ds lo hi))
  | _ => .bad
def dSl (F : Sem' Op) (L U : Sem' (Option Int)) : Sem' PyData := fun en => F en >>= fun p => L p.2 >>= fun l => U l.2 >>= fun u => lift (p.1.res u.2) >>= fun x => lift (cutP x l.1 u.1) >>= fun z => .ok (z, u.2)
def revP (x : PyData) : R (List PyData) := match x with
  | .list ds => .ok ds.reverse
  | _ => .bad
section
variable {C : Ct} {X : Cx} {H0 H H0' H' : Hp} {σ : L2.St} {en en' : En} {a b c tg : Expr} {pos : Pos}
theorem post_bindP {α : Type} {rel : En → Hp → Hp → V → α → Prop} {Q : Option Int → Hp → Prop} {Q2 : VK} {x : R (Option Int × En)} {f : Option Int → En → R (α × En)}
    (h : Post C rel H0 H σ en Q2 (x >>= fun p => f p.1 p.2))
    (k : ∀ a en1 H01 H1, x = .ok (a, en1) → Stp σ en H0 H σ en1 H01 H1 → SR C.K C.T H01 H1 σ en1 → Post C rel H01 H1 σ en1 Q2 (f a en1) → Q a H1) : PostP C H0 H σ en Q x := by
  cases x with
  | ok p =>
    obtain ⟨a, en1⟩ := p
    intro H01 H1 st sr
    exact k a en1 H01 H1 rfl st sr (post_at (h : Post C rel H0 H σ en Q2 (f a en1)) st)
  | exc n => exact h
  | bad => exact h.elim
theorem postP_bind {α : Type} {rel : En → Hp → Hp → V → α → Prop} {Q : VK} {Q2 : Option Int → Hp → Prop} {x : R (α × En)} {f : α → En → R (Option Int × En)}
    (h : PostP C H0 H σ en Q2 (x >>= fun p => f p.1 p.2))
    (k : ∀ a en1 H01 H1 v, x = .ok (a, en1) → Stp σ en H0 H σ en1 H01 H1 → SR C.K C.T H01 H1 σ en1 → rel en1 H01 H1 v a → PostP C H01 H1 σ en1 Q2 (f a en1) → Q v H1) : Post C rel H0 H σ en Q x := by
  cases x with
  | ok p =>
    obtain ⟨a, en1⟩ := p
    intro H01 H1 v st sr r
    refine k a en1 H01 H1 v rfl st sr r ?_
    have h : PostP C H0 H σ en Q2 (f a en1) := h
    revert h
    cases f a en1 with
    | ok q => exact fun h H0' H' st' sr' => h H0' H' (st.trans st') sr'
    | exc n => exact fun h => Ct.err_at h st.fm st.ow
    | bad => exact fun h => h
  | exc n => exact h
  | bad => exact h.elim
theorem dp_none : PO X none (tP C pNo) := ⟨fun pins s σ H Q I ⟨H0, en, sr, p⟩ => po_none.run pins s σ H Q I (p H0 H Stp.refl sr)⟩
theorem dp_some {F : Sem' PyData} (h : PE X a (tE C F)) : PO X (some a) (tP C (pSome F)) := ⟨fun pins s σ H Q I ⟨H0, en, sr, p⟩ => (po_some h).run pins s σ H Q I ⟨H0, en, sr,
  postP_bind (rel := fun _ H0' _ v a => Rp C.K H0' v a) (f := fun d e => lift (asPart d) >>= fun o => .ok (o, e)) (Q2 := Q) p fun d en1 H01 H1 v _ st s1 r p1 => by
    cases d with
    | int i =>
      cases r
      exact ⟨i, rfl, p1 H01 H1 Stp.refl s1⟩
    | _ => exact p1.elim⟩⟩
theorem cut_rp {vs : List V} {ds : List PyData} (r : RpAll C.K H0 vs ds) (lo hi : Option Int) : RpAll C.K H0 (cutV vs lo hi) (cutD ds lo hi) := by
  unfold cutV cutD
  rw [r.length]
  exact (r.drop _).take _
theorem cut_whole {ds : List PyData} {lo hi : Option Int} (h : HT.sIx ds.length 0 lo = 0 ∧ HT.sIx ds.length ds.length hi = ds.length) : cutD ds lo hi = ds := by
  unfold cutD
  rw [h.1, h.2]
  simp
theorem de_slice {F : Sem' Op} {lo hi : Option Expr} {L U : Sem' (Option Int)} {p2 : Pos} (hK : C.K = X.K) (ha : PE X a (tO C F)) (hl : PO X lo (tP C L)) (hu : PO X hi (tP C U)) : PE X (.Subscript a (.Slice lo hi none p2) pos) (tE C (dSl F L U)) :=
  (pe_slice (sl_list.or sl_tupA) ha hl hu).imp fun σ H Q ⟨H0, en, s, p⟩ => by
    refine ⟨H0, en, s, post_bind (rel2 := fun _ H0' _ v a => Rp C.K H0' v a) (f := fun x e1 => L e1 >>= fun l => U l.2 >>= fun u => lift (x.res u.2) >>= fun x => lift (cutP x l.1 u.1) >>= fun z => .ok (z, u.2)) (Q2 := Q) p ?_⟩
    intro x en1 H01 H1 v1 _ st1 s1 r1 p1
    refine ⟨H01, en1, s1, post_bindP (rel := fun _ H0' _ v a => Rp C.K H0' v a) (f := fun l e2 => U e2 >>= fun u => lift (x.res u.2) >>= fun x => lift (cutP x l u.1) >>= fun z => .ok (z, u.2)) (Q2 := Q) p1 ?_⟩
    intro l en2 H02 H2 _ st2 s2 p2
    refine ⟨H02, en2, s2, post_bindP (rel := fun _ H0' _ v a => Rp C.K H0' v a) (f := fun u e3 => lift (x.res e3) >>= fun x => lift (cutP x l u) >>= fun z => .ok (z, e3)) (Q2 := Q) p2 ?_⟩
    intro u en3 H03 H3 _ st3 s3 p3
    cases e1 : x.res en3 with
    | exc n => rw [e1] at p3; exact p3.elim
    | bad => rw [e1] at p3; exact p3.elim
    | ok dx =>
      rw [e1] at p3
      have p3 : Post C (fun _ H0' _ v a => Rp C.K H0' v a) H03 H3 σ en3 Q (lift (cutP dx l u) >>= fun z => .ok (z, en3)) := p3
      have rx := OpdR.res s3 ((r1.mono st2.fm.ex).mono st3.fm.ex) e1
      have o : ∀ d, cutP dx l u = .ok d → Out C H03 H3 d Q := fun d e => by
        rw [e] at p3
        exact out_post s3 p3
      cases dx with
      | list ds =>
        obtain ⟨q, ws, ev, h3, h4⟩ := rx.list s3.ex
        refine .inl ⟨q, ws, ev, .inl h3, fun p hp => ?_⟩
        have h0 : H03 p = none := fresh_back s3.ex hp
        exact o _ rfl _ _ _ (Fm.new s3.ex hp) (s3.good.new hp fun _ z => by cases z) (.lst (Rd.of upd_same) ((cut_rp h4 l u).mono (Ex.new h0)))
      | tuple ds =>
        obtain ⟨q, ws, ev, h3, h4⟩ := rx.tup s3.ex
        refine .inr ⟨q, ws, ev, hK ▸ h3, fun hw => ?_, fun hw p hp => ?_⟩
        · rw [h4.length] at hw
          subst ev
          exact (o _ rfl).now s3.good (by rw [cut_whole hw]; exact tup_of rx)
        · have h0 : H03 p = none := fresh_back s3.ex hp
          exact o _ rfl _ _ _ (Fm.new s3.ex hp) (s3.good.new hp fun _ z => by cases z) (.tup (SqT.of upd_same) ((cut_rp h4 l u).mono (Ex.new h0)))
      | _ => exact p3.elim
theorem dn_rev {F : Sem' Op} {k : Nat} {p1 p2 p3 : Pos} (ha : PE X a (tO C F)) : PE X (.Subscript a (.Slice none none (some (.UnaryOp .USub (.Constant (.int 1) k p1) p2)) p3) pos) (tN C (d1 revP F)) :=
  (pe_revL ha).imp fun σ H Q ⟨H0, en, s, p⟩ => by
    refine d1_go (K' := fun x H1 => ∃ a xs, x = .ref a ∧ SqL X.K H1 a xs ∧ ∀ p, H1 p = none → Q (.ref p) (upd H1 p (.lst xs.reverse))) idO s p fun H01 H1 en1 x dx z s1 hn rx e p1 => ?_
    unfold revP at e
    split at e
    · cases e
      obtain ⟨q, ws, ev, h3, h4⟩ := rx.list s1.ex
      exact ⟨q, ws, ev, .inl h3, fun p hp => outN_post s1 hn p1 p _ _ (Fm.newO hp) (s1.good.newO hp) hp upd_same h4.reverse⟩
    · cases e
/-! ### {} -/
theorem de_dict0 : PE X (.Dict [] [] pos) (tE C (dC (.dict []))) := pe_dnewK.imp fun σ H Q ⟨H0, en, s, p⟩ => fun q hq =>
  out_post s p _ _ (.ref q) (Fm.new s.ex hq) (s.good.new hq fun _ z => by cases z) (.dct (Rd.of upd_same) .nil)
/-! ### count, index -/
def pCount (x y : PyData) : R PyData := match x with
  | .list ds => if plainD (.list ds) = true ∧ plainD y = true then .ok (.int (ds.countP fun z => PyData.eqv z y : Nat)) else .bad
  | _ => .bad
theorem r_count : Rule2 C (fun x y H Q => rCountD C.K x [y] H Q) pCount := fun H0 H x y dx dy d Q g rx ry e o => by
  unfold pCount at e
  split at e
  · split at e
    · rename_i hm
      cases e
      have hd := (rx.mono g.ex).dp (plainD_and hm.1).1
      obtain ⟨q, ws, ev, h3, h4⟩ := rx.list g.ex
      subst ev
      exact ⟨q, y, dy, _, rfl, rfl, hd, (ry.mono g.ex).dp (plainD_and hm.2).1, (plainD_and hm.1).2, (plainD_and hm.2).2, o.now g (.int _)⟩
    · cases e
  · cases e
def findD (y : PyData) : List PyData → Option Nat
  | [] => none
  | d :: ds => if PyData.eqv d y then some 0 else (findD y ds).map (· + 1)
theorem findD_at {y : PyData} : ∀ {ds : List PyData} {j : Nat}, findD y ds = some j → ∃ z, ds[j]? = some z ∧ PyData.eqv z y = true ∧ ∀ (m : Nat) (z' : PyData), m < j → ds[m]? = some z' → PyData.eqv z' y = false
  | [], j, h => by cases h
  | d :: ds, j, h => by
    unfold findD at h
    split at h
    · rename_i hd
      cases h
      exact ⟨d, rfl, hd, fun m z' hm => by omega⟩
    · rename_i hd
      obtain ⟨k, h1, rfl⟩ := Option.map_eq_some_iff.mp h
      obtain ⟨z, h2, h3, h4⟩ := findD_at h1
      refine ⟨z, by simpa using h2, h3, fun m z' hm hz => ?_⟩
      cases m with
      | zero =>
        have : d = z' := Option.some.inj hz
        subst this
        simpa using hd
      | succ m => exact h4 m z' (by omega) (by simpa using hz)
def pIndex (x y : PyData) : R PyData := match x with
  | .list ds => if plainD (.list ds) = true ∧ plainD y = true then R.get (findD y ds) >>= fun j => .ok (.int (j : Nat)) else .bad
  | _ => .bad
theorem r_index : Rule2 C (fun x y H Q => rIndexD C.K x [y] H Q) pIndex := fun H0 H x y dx dy d Q g rx ry e o => by
  unfold pIndex at e
  split at e
  · split at e
    · rename_i hm
      obtain ⟨j, hj, e⟩ := rgs1 e
      cases e
      obtain ⟨z, h5, h6, h7⟩ := findD_at hj
      have hd := (rx.mono g.ex).dp (plainD_and hm.1).1
      obtain ⟨q, ws, ev, h3, h4⟩ := rx.list g.ex
      subst ev
      exact ⟨q, y, dy, _, j, z, rfl, rfl, hd, (ry.mono g.ex).dp (plainD_and hm.2).1, (plainD_and hm.1).2, (plainD_and hm.2).2, h5, h6, h7, o.now g (.int _)⟩
    · cases e
  · cases e
theorem de_count {F G : Sem' Op} {apos cpos : Pos} (hK : C.K = X.K) (hu : X.A.units + 65 < cLine) (ho : PE X a (tO C F)) (he : PE X b (tO C G)) (hbase : attributeBase a "count" X.env (eval a X.env) = eval a X.env := by rfl)
    (hfew : ((backTo cpos (starEach (b :: []) X.env)).all (fun x => !x.1) && (backToKw cpos (keywordEach [] X.env)).all (fun x => x.1.isSome)
      && decide ((b :: ([] : List Expr)).length + ([] : List Keyword).length + (if ([] : List Keyword).isEmpty then 0 else 1) < 30)) = true := by rfl)
    (hline : (apos.endLine == cpos.line) = true := by rfl) (hs : starEach (b :: []) X.env = (false, eval b X.env) :: starEach [] X.env := by rfl) (hplain : (backTo cpos (starEach [] X.env)).any (·.1) = false := by rfl) :
    PE X (.Call (.Attribute a "count" apos) [b] [] cpos) (tE C (dM pCount F G)) := de_mt rfl hK PySem.F.plainAttrs_list PySem.F.slot_list_count PySem.F.type_list_count (mt_countD hu) (hK ▸ r_count) ho he hbase hfew hline hs hplain
theorem de_index {F G : Sem' Op} {apos cpos : Pos} (hK : C.K = X.K) (hu : X.A.units + 65 < cLine) (ho : PE X a (tO C F)) (he : PE X b (tO C G)) (hbase : attributeBase a "index" X.env (eval a X.env) = eval a X.env := by rfl)
    (hfew : ((backTo cpos (starEach (b :: []) X.env)).all (fun x => !x.1) && (backToKw cpos (keywordEach [] X.env)).all (fun x => x.1.isSome)
      && decide ((b :: ([] : List Expr)).length + ([] : List Keyword).length + (if ([] : List Keyword).isEmpty then 0 else 1) < 30)) = true := by rfl)
    (hline : (apos.endLine == cpos.line) = true := by rfl) (hs : starEach (b :: []) X.env = (false, eval b X.env) :: starEach [] X.env := by rfl) (hplain : (backTo cpos (starEach [] X.env)).any (·.1) = false := by rfl) :
    PE X (.Call (.Attribute a "index" apos) [b] [] cpos) (tE C (dM pIndex F G)) := de_mt rfl hK PySem.F.plainAttrs_list PySem.F.slot_list_index PySem.F.type_list_index (mt_indexD hu) (hK ▸ r_index) ho he hbase hfew hline hs hplain
end
end PD
end
section
namespace PD
open PySem PySem.Spec PyProof.Rows L2 Evl LamX

/-! ### a lambda handed to a def that calls it in a try -/
/-- without the lists that are held -/
def dropO (en : En) : En := en.map fun s => match s with
  | .own _ _ => .no
  | s => s
section
variable {C : Ct} {X : Cx} {H0 H H0' H' H1 : Hp} {σ : L2.St} {en en' : En}
theorem dropO_get (en : En) (i : Nat) : (dropO en)[i]? = (en[i]?).map fun s => match s with
  | .own _ _ => .no
  | s => s := List.getElem?_map ..
theorem dropO_own {i : Nat} {io : Bool} {ds : List PyData} : (dropO en)[i]? ≠ some (.own io ds) := fun h => by
  rw [dropO_get] at h
  obtain ⟨s, _, h⟩ := Option.map_eq_some_iff.mp h
  cases s <;> cases h
theorem own_drop {p : Addr} : ¬ OwnA σ (dropO en) p := fun ⟨_, _, _, h, _⟩ => dropO_own h
theorem dropO_dat {i : Nat} {d : PyData} (h : (dropO en)[i]? = some (.dat d)) : en[i]? = some (.dat d) := by
  rw [dropO_get] at h
  obtain ⟨s, e, h⟩ := Option.map_eq_some_iff.mp h
  cases s <;> cases h
  exact e
theorem sr_drop (s : SR C.K C.T H0 H σ en) : SR C.K C.T H0 H σ (dropO en) :=
  ⟨by rw [s.len]; exact (List.length_map ..).symm, s.ex, s.tb, s.nt, fun i d h => s.dat i d (dropO_dat h), fun i io ds h => absurd h dropO_own, fun i j io ds jo es p n h => absurd h dropO_own⟩
theorem fm_lam (s : SR C.K C.T H0 H σ en) (e : ExtN H H1) : Fm (fun _ => False) H0 H H0 H1 :=
  ⟨Ex.refl _, fun p o h _ t => e p o h t, fun p h u q => Classical.byContradiction fun z => nw_no h (e p u q fun ps y => z ⟨ps, y⟩) fun ps y => z ⟨ps, y⟩, fun _ _ _ h => h⟩
theorem good_lam (s : SR C.K C.T H0 H σ en) (e : ExtN H H1) (t : Tabs C.T H1) : Good C H0 H1 := ⟨fun a u h => e a u (s.ex a u h) fun ps z => s.nt a ps (by rw [h, z]), t, s.nt⟩
def dSaid (okF : PyData → R PyData) (exF : Nat → R PyData) (F : Sem' PyData) : Sem' PyData := fun en => match F (dropO en) with
  | .ok p => lift (okF p.1) >>= fun d => .ok (d, en)
  | .exc n => lift (exF n) >>= fun d => .ok (d, en)
  | .bad => .bad
/-- what such a def makes of its lambda -/
def TSaid (C : Ct) (okF : PyData → R PyData) (exF : Nat → R PyData) : (XK → Hp → VK → Prop) → Hp → VK → Prop := fun tl H Q => ∃ H0, Good C H0 H ∧
  tl (fun cls d H' => d = none ∧ ∃ H0' n z, Good C H0' H' ∧ cls = .ref (C.ca n) ∧ exF n = .ok z ∧ Out C H0' H' z Q) H (fun v H' => ∃ H0' r z, Good C H0' H' ∧ Rp C.K H0' v r ∧ okF r = .ok z ∧ Out C H0' H' z Q)
theorem said_imp {okF : PyData → R PyData} {exF : Nat → R PyData} {F : Sem' PyData} {Q : VK} (h : tE C (dSaid okF exF F) σ H Q) : tLam C.T (TSaid C okF exF) (fun E => tE ⟨C.K, C.T, C.ca, E⟩ F) σ H Q := by
  obtain ⟨H0, en, s, p⟩ := h
  refine ⟨s.tb, fun H1 eN T1 => ?_⟩
  have f1 := fm_lam s eN
  have g1 := good_lam s eN T1
  have s1 := s.grown f1 g1
  refine ⟨H0, g1, H0, dropO en, sr_drop s1, ?_⟩
  unfold dSaid at p
  cases e : F (dropO en) with
  | bad => rw [e] at p; exact p.elim
  | ok q =>
    obtain ⟨r, en1⟩ := q
    rw [e] at p
    intro H0' H' v st sr rr
    have p : Post C (fun _ H0' _ v a => Rp C.K H0' v a) H0 H σ en Q (lift (okF r) >>= fun d => .ok (d, en)) := p
    cases ez : okF r with
    | exc n => rw [ez] at p; exact p.elim
    | bad => rw [ez] at p; exact p.elim
    | ok z =>
      rw [ez] at p
      have f2 : Fm (fun _ => False) H0 H1 H0' H' := st.fm.weak fun p h => own_drop h
      have g2 : Good C H0' H' := ⟨sr.ex, sr.tb, sr.nt⟩
      refine ⟨H0', r, z, g2, rr, ez, fun H02 H2 w f3 g3 rz => ?_⟩
      have f := (f1.trans f2 fun _ h => .inl h).trans f3 fun _ h => .inl h
      exact p H02 H2 w f.stp (s.grown f g3) rz
  | exc n =>
    rw [e] at p
    have p : Post C (fun _ H0' _ v a => Rp C.K H0' v a) H0 H σ en Q (lift (exF n) >>= fun d => .ok (d, en)) := p
    cases ez : exF n with
    | exc m => rw [ez] at p; exact p.elim
    | bad => rw [ez] at p; exact p.elim
    | ok z =>
      rw [ez] at p
      intro H0' H' f2' x t nt
      have f2 : Fm (fun _ => False) H0 H1 H0' H' := f2'.weak fun p h => own_drop h
      have g2 : Good C H0' H' := ⟨x, t, nt⟩
      refine ⟨rfl, H0', n, z, g2, rfl, ez, fun H02 H2 w f3 g3 rz => ?_⟩
      have f := (f1.trans f2 fun _ h => .inl h).trans f3 fun _ h => .inl h
      exact p H02 H2 w f.stp (s.grown f g3) rz
/-- x(lambda: body) -/
theorem de_said {okF : PyData → R PyData} {exF : Nat → R PyData} {F : Sem' PyData} {x a : Str} {g c P : Addr} {k : Nat} {pg : Arguments} {bg : List Stmt} {sg : Scope} {dV kV doc pm cdv ct oc : Value} {an od : Option Addr} {osl : Array (Option Value)} {Ng : List Str}
    {params : Arguments} {body : Expr} {scope : Scope} {p lpos pos : Pos} (hg : Gl X x) (hm : X.mg x = some (.ref g)) (hk : PySem.W.keepIn X.K (.ref g) = true)
    (lk : X.K.lookup g = some ⟨oc, od, .func (PySem.W.fnOf x x pg bg sg dV kV doc pm an cdv ct), osl⟩) (hcg : PySem.W.codeIn X.K cdv x = true) (hb : L2.Binds X.K (PySem.W.fnOf x x pg bg sg dV kV doc pm an cdv ct) [a] []) (Sg : FnScope Ng [a] sg) (hNg : Ng[0]? = some a) (hva : Vis sg a)
    (hG : GivesTo X Ng x sg g cdv bg a (X.env.qual ++ "<lambda>") (TSaid C okF exF))
    (TB : TabB X.base X.mg c P) (hcode : X.env.code = .ref c) (hmT : (P, X.env.qual ++ "<lambda>") ∈ C.T) (hu : ∀ p ∈ C.T, p.1 = P → p.2 = X.env.qual ++ "<lambda>") (hr : Room (k + 2) X.A) (L : LamS X.env.scope scope) (hdef : defaultsOf params X.env = ([], []))
    (hbind : ∀ (q : Str) (cl : List (Str × Addr)) (pm cv ctv : Value), bindArgs (PySem.W.kla_fn "<lambda>" q params body scope cl pm cv ctv) ⟨[], []⟩ = pure [])
    (hbody : ∀ (A : Around) (outer : List Env) (s : Shared) (H : Hp) (E : XK) (f c' : Addr), Room k (A.deeper (lamEnv X scope s.heap.objs.size f c')) → PE (lamCx X A outer s H E scope f c') body (tE ⟨C.K, C.T, C.ca, E⟩ F))
    (hdb : (x == ("__debug__" : Str)) = false := by decide) (hd : (a == ("__debug__" : Str)) = false := by decide) (hcd : (a == ("__classdict__" : Str)) = false := by decide) :
    PE X (.Call (.Name x p) [.Lambda params body scope lpos] [] pos) (tE C (dSaid okF exF F)) :=
  (pe_lamcall hg hm hk lk hcg hb Sg hNg hva hG TB hcode hmT hu hr L hdef hbind hbody hdb hd hcd).imp fun σ H Q h => said_imp h

/-! ### the def that calls it -/
/-- isinstance(e, c), e the exception that the clause holds -/
def isE (a : Addr) (b : Bool) (d : PyData) : R PyData := match d with
  | .dict [(.none, .int k)] => if k = (a : Nat) then .ok (.bool b) else .bad
  | _ => .bad
theorem isE_self (a : Addr) (b : Bool) : isE a b (.dict [(.none, .int (a : Nat))]) = .ok (.bool b) := if_pos rfl
theorem rp_obj {K : PySem.W.Frag} {v : V} {a : Addr} (h : RpX K H0 H v (.dict [(.none, .int (a : Nat))])) : v = .ref a := by
  rcases h with h | ⟨p, ws, es, rfl, e, _⟩
  · cases h with
    | dct _ hk => cases hk
    | obj _ => rfl
  · cases e
theorem de_isE {F : Sem' Op} {a D : Addr} {oe : Obj} {pn : List (Addr × Obj)} {e : Expr} {x t : Str} {cv : V} {cu : Value} {b : Bool} {p1 p2 pos : Pos} (E : ExcC X.K D) (hz : Zc (.ref D) none oe) (hf : ∃ vs, oe.data = .fields vs) (ha : PE (X.suite a ((a, oe) :: pn)) e (tO C F)) (hx : x = "isinstance") (hg : Gl (X.suite a ((a, oe) :: pn)) x) (hm : X.mg x = none)
    (hc : PE (X.suite a ((a, oe) :: pn)) (.Name t p2) (tC cv)) (hcv : ∀ u, RelV cv u → u = cu) (hb : PySem.W.kitOne X.K (.ref D) cu = some b)
    (hs : starEach [.Name t p2] (X.suite a ((a, oe) :: pn)).env = [(false, eval (.Name t p2) (X.suite a ((a, oe) :: pn)).env)] := by rfl)
    (he : starEach (e :: [.Name t p2]) (X.suite a ((a, oe) :: pn)).env = (false, eval e (X.suite a ((a, oe) :: pn)).env) :: starEach [.Name t p2] (X.suite a ((a, oe) :: pn)).env := by rfl) (hpl : (backTo pos (starEach [.Name t p2] (X.suite a ((a, oe) :: pn)).env)).any (·.1) = false := by rfl) :
    PE (X.suite a ((a, oe) :: pn)) (.Call (.Name x p1) [e, .Name t p2] [] pos) (tE C (d1 (isE a b) F)) := by
  subst hx
  refine (pe_callB (call_isE (X := X) (pn := pn) E hz hf) hg hm (by rfl) (pa_cons ha (pa_cons hc pa_nil hs) he) (by decide) (by decide) he hpl).imp fun σ H Q ⟨H0, en, s, p⟩ => ?_
  refine d1_go (K' := fun x H2 => rIsE X.K D a [x, cv] H2 Q) idO s p fun H01 H1 en1 x dx z s1 _ rx e p1 => ?_
  unfold isE at e
  split at e
  · split at e
    · rename_i k hk
      subst hk
      cases e
      have := rp_obj rx
      subst this
      exact ⟨cv, cu, b, rfl, hcv, hb, p1 H01 H1 _ Stp.refl s1 (.bl b)⟩
    · cases e
  · cases e
theorem takes_len {X : Cx} {W W' : WX} (t : L2.Takes X W) (h : ∀ c d σ H, σ.length = X.N.length → W' c d σ H → W c d σ H) : L2.Takes X W' := fun u s' ⟨a, B, sI, pins, σ, H, cls, d, e, I, nb, up, sky, na, os, ag, w⟩ =>
  t u s' ⟨a, B, sI, pins, σ, H, cls, d, e, I, nb, up, sky, na, os, ag, h _ _ _ _ I.len w⟩
theorem pe_wk {e : Expr} {t : TE} (h : PE X e t) : PE X e (fun σ H Q => ∃ Q1, t σ H Q1 ∧ ∀ v H', Q1 v H' → Q v H') := ⟨fun pins s σ H Q I ⟨Q1, h1, h2⟩ =>
  wpAny_mono (h.run pins s σ H Q1 I h1) (fun v s' ⟨x, H', J, r, q⟩ => ⟨x, H', J, r, h2 x H' q⟩) fun _ _ q => q⟩
def retOf (r : RS) : R PyData := match r with
  | .ret (.dat d) _ => .ok d
  | .next _ => .ok .none
  | _ => .bad
def Ct.z (C : Ct) : Ct := { C with E := C8.E0 }
theorem post_ret {r : RS} {z : PyData} {Q : VK} (h : retOf r = .ok z) (o : Out C H0 H z Q) (s : SR C.K C.T H0 H σ en) (no : ∀ p, ¬ OwnA σ en p) : PostS C.z H0 H σ en { nx := fun _ H' => Q .non H', rt := Q } r := by
  have key : ∀ {H0' H' : Hp} {σ' : L2.St} {e : En} {v : V}, Stp σ en H0 H σ' e H0' H' → SR C.K C.T H0' H' σ' e → Rp C.K H0' v z → Q v H' := fun {H0' H' σ' e v} st sr rv => o H0' H' v (st.fm.weak fun p q => no p q) ⟨sr.ex, sr.tb, sr.nt⟩ rv
  cases r with
  | ret r e =>
    cases r with
    | dat d =>
      cases h
      exact fun H0' H' σ' v st sr rr => key st sr rr
    | new ds => cases h
  | next e =>
    cases h
    exact fun H0' H' σ' st sr => key st sr .non
  | brk e => cases h
  | cont e => cases h
  | exc n => cases h
  | bad => cases h
def nos (m : Nat) : En := List.replicate m .no
theorem nos_get {m i : Nat} {y : Sl} (h : (nos m)[i]? = some y) : y = .no := List.eq_of_mem_replicate (List.mem_of_getElem? h)
theorem sr_nos {m : Nat} (g : Good C H0 H) (hl : σ.length = m) : SR C.K C.T H0 H σ (nos m) :=
  ⟨by rw [hl]; exact (List.length_replicate ..).symm, g.ex, g.tb, g.nt, fun i d h => (by cases nos_get h), fun i io ds h => (by cases nos_get h), fun i j io ds jo es p n h => (by cases nos_get h)⟩
theorem sr_obj {m j : Nat} {a : Addr} (g : Good C H0 H) (hl : σ.length = m) : SR C.K C.T H0 H (σ.set j (some (.ref a))) ((nos m).set j (.dat (.dict [(.none, .int (a : Nat))]))) := set_sr (sr_nos g hl) (.obj a)
theorem obj_no {m j : Nat} {d : PyData} {p : Addr} : ¬ OwnA σ ((nos m).set j (.dat d)) p := fun ⟨i, io, ds, h, _⟩ => by
  by_cases z : j = i
  · subst z
    have hl : j < (nos m).length := by
      have := (List.getElem?_eq_some_iff.mp h).1
      rwa [List.length_set] at this
    rw [List.getElem?_set_self hl] at h
    cases h
  · rw [List.getElem?_set_ne z] at h
    cases nos_get h
theorem sr_unset {j : Nat} (s : SR C.K C.T H0 H σ en) : SR C.K C.T H0 H (σ.set j none) (en.set j .no) := by
  have at_ : ∀ {i : Nat} {y : Sl}, (en.set j .no)[i]? = some y → y ≠ .no → j ≠ i ∧ en[i]? = some y := fun {i y} h hy => by
    by_cases z : j = i
    · subst z
      have hl : j < en.length := by
        have := (List.getElem?_eq_some_iff.mp h).1
        rwa [List.length_set] at this
      rw [List.getElem?_set_self hl] at h
      exact absurd (Option.some.inj h).symm hy
    · rw [List.getElem?_set_ne z] at h
      exact ⟨z, h⟩
  refine ⟨by rw [List.length_set, List.length_set]; exact s.len, s.ex, s.tb, s.nt, fun i d h => ?_, fun i io ds h => ?_, fun i k io ds jo es p n h1 h2 e1 => ?_⟩
  · obtain ⟨ne, h⟩ := at_ h (fun z => by cases z)
    rw [List.getElem?_set_ne ne]
    exact s.dat i d h
  · obtain ⟨ne, h⟩ := at_ h (fun z => by cases z)
    rw [List.getElem?_set_ne ne]
    exact s.own i io ds h
  · obtain ⟨n1, h1⟩ := at_ h1 (fun z => by cases z)
    obtain ⟨n2, h2⟩ := at_ h2 (fun z => by cases z)
    rw [List.getElem?_set_ne n1] at e1
    rw [List.getElem?_set_ne n2]
    exact s.sep i k io ds jo es p n h1 h2 e1
theorem stp_unset {j : Nat} {H0' H' : Hp} {σ' : L2.St} (st : Stp σ en H0 H σ' en' H0' H') (io : ∀ (i : Nat) (ds : List PyData), en[i]? ≠ some (.own true ds)) : Stp σ en H0 H (σ'.set j none) (en'.set j .no) H0' H' :=
  ⟨st.fm, fun p ⟨i, o, ds, h1, h2⟩ => by
    by_cases z : j = i
    · subst z
      have hl : j < en'.length := by
        have := (List.getElem?_eq_some_iff.mp h1).1
        rwa [List.length_set] at this
      rw [List.getElem?_set_self hl] at h1
      cases h1
    · rw [List.getElem?_set_ne z] at h1 h2
      exact st.ow p ⟨i, o, ds, h1, h2⟩, fun i ds h => absurd h (io i ds)⟩
/-- what the clause comes to, with what follows the try -/
def afterH (j : Nat) (S T : SemS) : SemS := fun en => sThen (S en) fun e => T (e.set j .no)
theorem post_after {j : Nat} {S T : SemS} {D : Ends} (io : ∀ (i : Nat) (ds : List PyData), en[i]? ≠ some (.own true ds)) (p : PostS C H0 H σ en D (afterH j S T en)) :
    PostS C H0 H σ en { nx := fun σ' H' => tS C T D (σ'.set j none) H', rt := D.rt, bk := fun σ' H' => D.bk σ' H', ct := fun σ' H' => D.ct σ' H' } (S en) := by
  unfold afterH at p
  revert p
  cases S en with
  | next e => exact fun p H0' H' σ' st sr => ⟨H0', e.set j .no, sr_unset sr, postS_at (p : PostS C H0 H σ en D (T (e.set j .no))) (stp_unset st io) rfl rfl rfl rfl⟩
  | _ => exact fun p => p
/-- try: a() / except e as n: suite; rest -/
theorem said_gives {Ng : List Str} {x a e n q : Str} {sg : Scope} {g CS : Addr} {cdg : Value} {j : Nat} {b₀ : Stmt} {suite rest : List Stmt} {p1 p2 p3 p4 p7 p8 : Pos} {okF : PyData → R PyData} {exF : Nat → R PyData} {Sx : Addr → Nat → SemS} {T : SemS}
    (hK : C.K = X.K) (hge : sg.names.lookup e = some .globalImplicit) (hme : X.mg e = some (.ref CS)) (hde : (e == ("__debug__" : Str)) = false) (hN : Ng.Nodup) (hj : Ng[j]? = some n) (hl : sg.names.lookup n = some .local) (h0 : 0 < Ng.length)
    (hex : ∀ m z, exF m = .ok z → PySem.W.exmOne X.K (.ref (C.ca m)) (.ref CS) = some true)
    (hsu : ∀ m z, exF m = .ok z → ∀ (s : Shared) (H : Hp) (ea : Addr) (oe : Obj) (pn : List (Addr × Obj)), Zc (.ref (C.ca m)) none oe → (∃ vs, oe.data = .fields vs) → PSs ((cxOf C8.CX0 X.prog X.w X.K X.mg X.base Ng x sg g cdg X.A X.stack s H C8.E0).nox.suite ea ((ea, oe) :: pn)) (b₀ :: suite) (tS C.z (Sx ea m)))
    (hre : ∀ (s : Shared) (H : Hp), PSs ((cxOf C8.CX0 X.prog X.w X.K X.mg X.base Ng x sg g cdg X.A X.stack s H C8.E0).nox) rest (tS C.z T))
    (hok : ∀ r z, okF r = .ok z → retOf (T (nos Ng.length)) = .ok z)
    (hxx : ∀ m z ea, exF m = .ok z → retOf (afterH j (Sx ea m) T ((nos Ng.length).set j (.dat (.dict [(.none, .int (ea : Nat))])))) = .ok z) :
    GivesTo X Ng x sg g cdg (.Try [.Expr (.Call (.Name a p1) [] [] p2) p3] [.ExceptHandler (some (.Name e p4)) (some n) (b₀ :: suite) p7] [] [] p8 :: rest) a q (TSaid C okF exF) := by
  intro f c' s H Q tl act hc h
  obtain ⟨H0, g0, h⟩ := h
  have hgl : Gl (cxOf C8.CX0 X.prog X.w X.K X.mg X.base Ng x sg g cdg X.A X.stack s H C8.E0).nox e := hge
  have hst : ∀ f : Addr, (L2.start Ng [V.ref f])[0]? = some (some (V.ref f)) := fun f => by unfold L2.start; rfl
  have hsl : ∀ f : Addr, (L2.start Ng [V.ref f]).length = Ng.length := fun f => by
    unfold L2.start
    rw [List.length_append, List.length_map, List.length_replicate]
    simp only [List.length_cons, List.length_nil]
    omega
  refine ⟨_, pss_cons (ps_try_as (X := (cxOf C8.CX0 X.prog X.w X.K X.mg X.base Ng x sg g cdg X.A X.stack s H C8.E0).nox) (c := .ref CS) (i := j)
      (tb := fun W D σ H => ∃ (Ech : XK) (Q1 : VK), (∀ cls d σ' H', σ'.length = Ng.length → Ech cls d H' → W cls d σ' H') ∧ σ[0]? = some (some (.ref f)) ∧ H c' = some (CodeO c' q) ∧ tl Ech H Q1 ∧ ∀ v H', Q1 v H' → D.nx σ H')
      (ts := fun ea cls d D σ H => ∃ m z, cls = .ref (C.ca m) ∧ d = none ∧ exF m = .ok z ∧ tS C.z (Sx ea m) D σ H)
      rfl rfl hN hj hl ⟨hgl, hde, .inl hme⟩ LamX.takes0 (fun W pn xe tk _ => ?_) (fun ea oe cls d pn hz hv => ⟨fun pins s' σ H' D I ⟨m, z, ec, ed, em, h'⟩ => ?_⟩)) (hre s H), ?_⟩
  · refine ⟨fun pins s' σ H' D I h' => ?_⟩
    obtain ⟨Ech, Q1, hW, h1, h2, h3, h4⟩ := h'
    have hp := pe_wk (act (fun cls d σ' H' => σ'.length = Ng.length → W cls d σ' H') pn xe Ech p1 p2 (takes_len tk fun c d σ H hl hh => hh hl) fun cls d σ' H' he hl => hW cls d σ' H' hl he)
    exact (pss_one (ps_expr (pos := p3) hp)).run pins s' σ H' D I ⟨Q1, ⟨h1, h2, h3⟩, h4⟩
  · subst ec ed
    exact (hsu m z em s H ea oe pn hz hv).run pins s' σ H' D I h'
  · refine ⟨_, _, fun cls d σ' H' hlen he => ?_, hst f, hc, h, fun v H' hv => ?_⟩
    · obtain ⟨ed, H0', m, z, g2, ec, em, o⟩ := he
      subst ed ec
      refine ⟨true, hex m z em, fun _ ea hea => ⟨m, z, rfl, rfl, em, H0', _, sr_obj (C := C) (j := j) g2 hlen, ?_⟩, fun z => by cases z⟩
      have no : ∀ p, ¬ OwnA (σ'.set j (some (.ref ea))) ((nos Ng.length).set j (.dat (.dict [(.none, .int (ea : Nat))]))) p := fun p => obj_no
      have nio : ∀ (i : Nat) (ds : List PyData), ((nos Ng.length).set j (.dat (.dict [(.none, .int (ea : Nat))])))[i]? ≠ some (.own true ds) := fun i ds h => by
        by_cases z : j = i
        · subst z
          have hl : j < (nos Ng.length).length := by
            have := (List.getElem?_eq_some_iff.mp h).1
            rwa [List.length_set] at this
          rw [List.getElem?_set_self hl] at h
          cases h
        · rw [List.getElem?_set_ne z] at h
          cases nos_get h
      have pr := post_ret (C := C) (hxx m z ea em) o (sr_obj (σ := σ') (C := C) (j := j) g2 hlen) no
      exact post_after (C := C.z) (S := Sx ea m) (T := T) nio pr
    · obtain ⟨H0', r, z, g2, _, ez, o⟩ := hv
      exact ⟨H0', nos Ng.length, sr_nos (C := C) g2 (hsl f), post_ret (C := C) (hok r z ez) o (sr_nos (C := C) g2 (hsl f)) fun p ⟨i, io, ds, h, _⟩ => by cases nos_get h⟩
end
end PD
end
section
namespace PD
open PySem PySem.Spec PyProof.Rows L2 Evl

/-! ### words for the printed derivations -/
def dYes : Sem' Bool := fun en => .ok (true, en)
/-- any addition -/
def pAddA (x y : PyData) : R PyData := match x, y with
  | .int a, .int b => .ok (.int (a + b))
  | .tuple a, .tuple b => few2 (a.length + b.length) (.ok (.tuple (a ++ b)))
  | .list a, .list b => few2 (a.length + b.length) (.ok (.list (a ++ b)))
  | _, _ => .bad
/-- any product -/
def pMulA (x y : PyData) : R PyData := match x, y with
  | .int a, .int b => if MulOk a b then .ok (.int (a * b)) else .bad
  | .list a, .int n => if 0 ≤ n ∧ n ≤ 1000 ∧ a.length ≤ 100 then .ok (.list (List.replicate n.toNat a).flatten) else .bad
  | .tuple a, .int n => if a ≠ [] ∧ 2 ≤ n ∧ n ≤ 1000 ∧ a.length ≤ 100 then .ok (.tuple (List.replicate n.toNat a).flatten) else .bad
  | _, _ => .bad
section
variable {C : Ct} {X : Cx} {H0 H : Hp} {σ : L2.St} {en : En} {a b c : Expr} {pos : Pos}
theorem hu65 {k : Nat} {A : Around} (h : Room k A) : A.units + 65 < cLine := by have := h.un; omega
theorem dts_nil : PTs X [] (tT C dYes) := ⟨fun pins s σ H Q I ⟨H0, en, sr, p⟩ => pts_nil.run pins s σ H Q I (p H0 H Stp.refl sr)⟩
theorem dts_one {F : Sem' Bool} (h : PT X c (tT C F)) : PTs X [c] (tT C F) := pts_one h
theorem op_addA : OpR X (binaryOp .Add) (fun x y H Q => (rI0 (fun i j => .int (i + j)) x y H Q ∨ rCatA X.K x y H Q) ∨ rCatR x y H Q) := (op_add.or op_catA).or op_catR
theorem out_lst {ds : List PyData} {Q : VK} {p : Addr} {vs : List V} (g : Good C H0 H) (o : Out C H0 H (.list ds) Q) (hp : H p = none) (r : RpAll C.K H0 vs ds) : Q (.ref p) (upd H p (.lst vs)) :=
  (OutN.out g o) p vs _ (Fm.newO hp) (g.newO hp) hp upd_same r
theorem r_addA : Rule2 C (fun x y H Q => (rI0 (fun i j => .int (i + j)) x y H Q ∨ rCatA C.K x y H Q) ∨ rCatR x y H Q) pAddA := fun H0 H x y dx dy d Q g rx ry e o => by
  unfold pAddA at e
  split at e
  · exact .inl (.inl (r_add (C := C) H0 H x y _ _ d Q g rx ry e o))
  · exact .inl (.inr (r_catT (C := C) H0 H x y _ _ d Q g rx ry e o))
  · rename_i xs ys
    obtain ⟨hl, e⟩ := few2_ok e
    cases e
    exact .inr (r_cat (C := C) H0 H x y _ _ (xs ++ ys) Q g rx ry (by show few2 _ _ = _; unfold few2; rw [if_pos hl]) (OutN.out g o))
  · cases e
theorem op_mulB : OpR X (binaryOp .Mult) (fun x y H Q => ((rI CMul (fun i j => .int (i * j)) x y H Q ∨ rI CMulW (fun i j => .int (i * j)) x y H Q) ∨ rRepR x y H Q) ∨ rRepT X.K x y H Q) := (op_mulA.or op_repR).or op_repT
theorem r_mulB : Rule2 C (fun x y H Q => ((rI CMul (fun i j => .int (i * j)) x y H Q ∨ rI CMulW (fun i j => .int (i * j)) x y H Q) ∨ rRepR x y H Q) ∨ rRepT C.K x y H Q) pMulA := fun H0 H x y dx dy d Q g rx ry e o => by
  unfold pMulA at e
  split at e
  · exact .inl (.inl (r_mul (C := C) H0 H x y _ _ d Q g rx ry e o))
  · rename_i xs n
    split at e
    · rename_i hm
      cases e
      exact .inl (.inr (r_rep (C := C) H0 H x y _ _ _ Q g rx ry (by show (if _ then _ else _) = _; rw [if_pos hm]) (OutN.out g o)))
    · cases e
  · rename_i xs n
    split at e
    · rename_i hm
      cases e
      obtain ⟨a, vs, e1, e2, e3⟩ := rx.tup g.ex
      have key : RpAll C.K H0 (List.replicate n.toNat vs).flatten (List.replicate n.toNat xs).flatten := by
        generalize n.toNat = m
        induction m with
        | zero => exact .nil
        | succ m ih => rw [List.replicate_succ, List.replicate_succ, List.flatten_cons, List.flatten_cons]; exact e3.append ih
      refine .inr ⟨a, n, vs, e1, ry.int, e2, fun z => hm.1 ?_, hm.2.1, hm.2.2.1, by rw [e3.length]; omega, fun p hp => ?_⟩
      · subst z
        cases e3
        rfl
      · exact o _ _ _ (Fm.new g.ex hp) (g.new hp fun _ z => by cases z) (.tup (SqT.of upd_same) (key.mono (Ex.new (fresh_back g.ex hp))))
    · cases e
  · cases e
end
end PD
namespace PD
open PySem PySem.Spec PyProof.Rows L2 Evl
/-- return of what a call gave -/
def sRetV (F : Sem' Rv) : SemS := fun en => ofR (F en) fun p => .ret p.1 p.2
theorem ds_retV {C : Ct} {X : Cx} {a : Expr} {pos : Pos} {F : Sem' Rv} (he : PE X a (tV C F)) : PS X (.Return (some a) pos) (tS C (sRetV F)) :=
  (ps_ret he).imp fun D σ H ⟨H0, en, s, p⟩ => ⟨H0, en, s, by
    unfold sRetV at p
    cases e : F en with
    | exc n => rw [e] at p; exact p
    | bad => rw [e] at p; exact p.elim
    | ok q =>
      rw [e] at p
      exact fun H01 H1 v st sr r => p H01 H1 σ v st sr r⟩
end PD
end
section
/-! PX4: defs whose promise is kept where no repr runs around them (the guards are told: repr of lists wants it); their calls; the head of a law over them. -/
namespace PD
open PySem PySem.Spec PyProof.Rows L2 Evl LamX
/-- a def keeps its promise where nothing is being shown -/
structure FnG (P : Program) (w : World) (K : PySem.W.Frag) (mg : Str → Option Value) (base : Heap) (CX : CXT) (k : Nat) (f : Addr) (fd : FuncData) (ps : List Str) (sp : Sp) : Prop where
  len : ∀ vs H Q E, sp vs H Q E → vs.length = ps.length
  run : ∀ (A : Around) (outer : List Env) (s : Shared) (H : Hp) (args : Args) (us : List Value) (vs : List V) (Q : VK) (E : XK), Room k A → A.guards = some [] → Env0 P w K mg base A outer s H →
    BindsTo s fd args (ps.zip us) → Vals vs us → sp vs H Q E → codeAny (model P w) A (.call (.ref f) args) (CR CX outer P w H s Q E) s
theorem FnG.imp {P : Program} {w : World} {K : PySem.W.Frag} {mg : Str → Option Value} {base : Heap} {CX : CXT} {k : Nat} {f : Addr} {fd : FuncData} {ps : List Str} {sp sp' : Sp} (F : FnG P w K mg base CX k f fd ps sp)
    (i : ∀ vs H Q E, sp' vs H Q E → sp vs H Q E) : FnG P w K mg base CX k f fd ps sp' :=
  ⟨fun vs H Q E q => F.len vs H Q E (i _ _ _ _ q), fun A outer s H args us vs Q E rm g e b v z => F.run A outer s H args us vs Q E rm g e b v (i _ _ _ _ z)⟩
section
variable {X : Cx} {CX : CXT} {k : Nat} {f : Addr} {fd : FuncData} {ps : List Str} {sp : Sp} {E : XK} {x : Str} {p pos : Pos} {e : Expr} {es : List Expr} {t : TA}
theorem run_G {pins : List (Addr × Obj)} {σ : L2.St} {H : Hp} {s : Shared} {Q : VK} {us : List Value} {vs : List V} (F : FnG X.prog X.w X.K X.mg X.base CX k f fd ps sp) (rm : Room k X.A) (gd : X.A.guards = some []) (bd : Binds X.K fd ps []) (px : Passes CX X E)
    (I : Inv X pins σ H s) (rv : Vals vs us) (z : sp vs H Q E) : wpAny (model X.prog X.w) X.A (call (.ref f) us) (EP X pins σ Q) X.xe s := by
  have ln : us.length = ps.length := by rw [← rv.length]; exact F.len _ _ _ _ z
  have b2 : BindsTo s fd ⟨us, []⟩ (ps.zip us) := by
    have q := bd s us I.kIn (by rw [List.append_nil]; exact ln)
    rwa [List.append_nil] at q
  refine wpAny_call (codeAny_mono (F.run X.A X.stack s H ⟨us, []⟩ us vs Q E rm gd I.env0 b2 rv z) fun r s2 c => ?_)
  match r, c with
  | .error er, c => exact px pins σ H s er s2 I c
  | .ok (.ret u), c => exact I.after c
theorem pe_callG (F : FnG X.prog X.w X.K X.mg X.base CX k f fd ps sp) (rm : Room k X.A) (gd : X.A.guards = some []) (gx : Gl X x) (mx : X.mg x = some (.ref f)) (kf : PySem.W.keepIn X.K (.ref f) = true) (bd : Binds X.K fd ps []) (px : Passes CX X E)
    (pa : PA X (e :: es) t) (d1 : (x == ("__debug__" : Str)) = false := by decide) (s1 : starEach (e :: es) X.env = (false, eval e X.env) :: starEach es X.env := by rfl) (p1 : (backTo pos (starEach es X.env)).any (·.1) = false := by rfl) :
    PE X (.Call (.Name x p) (e :: es) [] pos) (tCall sp [] E t) := ⟨fun pins s σ H Q I z => by
  refine wpAny_Call_Name_kw (ld_glob I gx mx ?_ d1)
  refine PySem.W.callWith_K (h₀ := X.base) I.ok.mod.kin kf (thn (pa.run pos pins s σ H _ I z) fun us s2 ⟨vs, H1, I1, rv, c⟩ => ⟨I1.kIn, ?_⟩) s1 p1
  have c : sp (vs ++ []) H1 Q E := c
  rw [List.append_nil] at c
  exact run_G F rm gd bd px I1 rv c⟩
theorem pe_callG0 (F : FnG X.prog X.w X.K X.mg X.base CX k f fd ps sp) (rm : Room k X.A) (gd : X.A.guards = some []) (gx : Gl X x) (mx : X.mg x = some (.ref f)) (kf : PySem.W.keepIn X.K (.ref f) = true) (bd : Binds X.K fd ps []) (px : Passes CX X E)
    (d1 : (x == ("__debug__" : Str)) = false := by decide) : PE X (.Call (.Name x p) [] [] pos) (tCall sp [] E tNil) := ⟨fun pins s σ H Q I z =>
  wpAny_Call_Name_kw (ld_glob I gx mx (PySem.W.callWith_K0 I.kIn kf (run_G (us := []) F rm gd bd px I .nil z)) d1)⟩
end
/-- a def from its body's reading over plain data -/
theorem fn_DG {K : PySem.W.Frag} {T : List (Addr × Str)} {ca : Nat → Addr} {P : Program} {w : World} {mg : Str → Option Value} {base : Heap} {x : Str} {st : Stmt} {f : Addr} {fd : FuncData} {N ps : List Str} {k : Nat} {B : SemS} (F : Fun K x x st f fd) (S : FnScope N ps (defScope st)) (hl : ps.length ≤ N.length)
    (hb : ∀ (cdv : Value) (A : Around) (outer : List Env) (s : Shared) (H : Hp) (E : XK), Room k (A.deeper (envOfC x (defScope st) s.heap.objs.size f cdv)) → A.guards = some [] →
      PSs (cxOf (L2.CX P w) P w K mg base N x (defScope st) f cdv A outer s H E) (defBody st) (tS ⟨K, T, ca, E⟩ B)) : FnG P w K mg base (L2.CX P w) (k + 1) f fd ps (spD K T ca ps.length (runF N.length B)) := by
  obtain ⟨oc, od, kV, doc, pm, an, cdv, ct, osl, rfl, lk, hcd⟩ := F.ex
  refine ⟨fun vs H Q E z => z.1, fun A outer s H args us vs Q E rm gd e0 bt rv z => ?_⟩
  exact run_ofS lk hcd S rm e0 bt rv z.1 fun r2 => ⟨_, hb cdv A outer s H E r2 gd, run_start z hl⟩
theorem fn_likeG {K : PySem.W.Frag} {T : List (Addr × Str)} {ca : Nat → Addr} {P : Program} {w : World} {mg : Str → Option Value} {base : Heap} {CX : CXT} {k n : Nat} {f : Addr} {fd : FuncData} {ps : List Str} {g h : Fn} (F : FnG P w K mg base CX k f fd ps (spD K T ca n g)) (e : ∀ args, h args ≠ .bad → g args = h args) : FnG P w K mg base CX k f fd ps (spD K T ca n h) :=
  F.imp fun vs H Q E ⟨hn, H0, args, sr, ho, p⟩ => ⟨hn, H0, args, sr, ho, by
    rw [e args (fun z => by rw [z] at p; exact p)]
    exact p⟩
section
variable {C : Ct} {X : Cx} {k n : Nat} {fd : FuncData} {ps : List Str} {g : Fn} {x : Str} {p pos : Pos} {a : Expr} {es : List Expr} {G : Sem' (List Op)}
theorem dv_callG {fa : Addr} (F : FnG X.prog X.w X.K X.mg X.base (L2.CX X.prog X.w) k fa fd ps (spD C.K C.T C.ca n g)) (rm : Room k X.A) (gd : X.A.guards = some []) (hg : Gl X x) (hm : X.mg x = some (.ref fa)) (hk : PySem.W.keepIn X.K (.ref fa) = true) (hb : Binds X.K fd ps []) (hx : Passes (L2.CX X.prog X.w) X C.E)
    (ha : PA X (a :: es) (tA C G)) (hdb : (x == ("__debug__" : Str)) = false := by decide) (he : starEach (a :: es) X.env = (false, eval a X.env) :: starEach es X.env := by rfl) (hpl : (backTo pos (starEach es X.env)).any (·.1) = false := by rfl) :
    PE X (.Call (.Name x p) (a :: es) [] pos) (tV C (dCall n g G)) := (pe_callG F rm gd hg hm hk hb hx ha hdb he hpl).imp fun σ H Q h => call_imp h
theorem dv_callG0 {fa : Addr} (F : FnG X.prog X.w X.K X.mg X.base (L2.CX X.prog X.w) k fa fd ps (spD C.K C.T C.ca 0 g)) (rm : Room k X.A) (gd : X.A.guards = some []) (hg : Gl X x) (hm : X.mg x = some (.ref fa)) (hk : PySem.W.keepIn X.K (.ref fa) = true) (hb : Binds X.K fd ps []) (hx : Passes (L2.CX X.prog X.w) X C.E)
    (hdb : (x == ("__debug__" : Str)) = false := by decide) : PE X (.Call (.Name x p) [] [] pos) (tV C (dCall 0 g aNil)) := (pe_callG0 F rm gd hg hm hk hb hx hdb).imp fun σ H Q h => by
  obtain ⟨H0, en, s, p⟩ := call_imp h
  exact p H0 H [] Stp.refl s trivial
end
/-- the law called at the head, with tables of code objects and the guards of the call -/
theorem law_callG {P : Program} {w : World} {K : PySem.W.Frag} {mg mB01 : Str → Option Value} {CX : CXT} {k : Nat} {fa a : Addr} {cs : List (Addr × Addr)} {fd : FuncData} {x : Str} {sp : Sp} {s₁ : Shared} {vs : List Value} {ns : List Int}
    (kl1 : ∀ (b : Addr) (o : Obj), K.lookup b = some o → o.cls ≠ .type "list")
    (kI1 : K.In s₁.heap) (nG1 : s₁.heap.Ns mainGlobals mg) (vB1 : s₁.heap.Ns builtinsNs mB01) (bB1 : ∀ x : Str, x ≠ "__name__" → mB01 x = bootBuiltins x) (lM1 : s₁.heap.NoLimit) (hg : s₁.gens = #[])
    (tO1 : ∀ p ∈ cs, s₁.heap.get? p.2 = some { cls := .none, data := .fields #[] }) (tN1 : ∀ p ∈ cs, K.lookup p.2 = none) (C : ∀ p ∈ cs, PySem.W.CodeHd s₁.heap p.1 p.2)
    (bM1 : ∃ (bA1 : Addr) (oB1 : Obj), mg "__builtins__" = some (.ref bA1) ∧ bA1 ≠ builtinsNs ∧ s₁.heap.get? bA1 = some oB1 ∧ oB1.cls = .type "module" ∧ oB1.dict = some builtinsNs ∧ oB1.data = .plain)
    (aO1 : s₁.heap.get? a = some { cls := .type "list", data := .seq vs.toArray }) (iV1 : IntsAre vs ns) (lZ1 : ns.length ≤ sizeLine) (rM1 : Room k callerA)
    (F : ∀ base : Heap, K.In base → base.Ns mainGlobals mg → (∀ p ∈ cs, TabB base mg p.1 p.2) → FnG P w K mg base CX k fa fd [x] sp) (bD1 : ∀ (s : Shared) (u : Value), BindsTo s fd ⟨[u], []⟩ [(x, u)])
    (sP1 : ∀ H : Hp, (∀ p ∈ cs, H p.2 = some (.tbl #[])) → Rd H a (.lst (ns.map V.int)) → sp [.ref a] H (fun v _ => v = .bl true) fun _ _ _ => False)
    (cN1 : ∀ H e s', CX [] H s₁ (fun _ _ _ => False) e s' → False) :
    codeAny (model P w) callerA (.call (.ref fa) ⟨[.ref a], []⟩) (fun r s' => r = .ok (.ret (.bool true)) ∧ OldK s₁.heap s'.heap ∧ s'.os = s₁.os ∧ AllBare s'.gens) s₁ := by
  have rV1 := vals_ints iV1
  have vL1 := iV1.length
  have iT1 : ∀ b : Addr, b ∈ cs.map (·.2) → s₁.heap.get? b = some { cls := .none, data := .fields #[] } := fun b vB1 => by
    obtain ⟨p, hp, e⟩ := List.mem_map.mp vB1
    rw [← e]
    exact tO1 p hp
  have aN1 : a ∉ cs.map (·.2) := fun z => by
    have q := iT1 a z
    rw [aO1] at q
    have z' : Data.seq vs.toArray _ = Data.fields #[] := congrArg Obj.data (Option.some.inj q)
    cases z'
  have mT1 : ∀ p ∈ cs, p.2 ∈ cs.map (·.2) := fun p hp => List.mem_map.mpr ⟨p, hp, rfl⟩
  -- from an abstract heap in which nothing but the script and the tables may be tracked
  have cor1 : ∀ H : Hp, (∀ p ∈ cs, H p.2 = some (.tbl #[])) → (∀ b, H b = none ∨ b ∈ cs.map (·.2) ∨ ∃ o xs, H b = some (.frz o (.lst xs))) → Rd H a (.lst (ns.map V.int)) → HOk P w H s₁.heap → (∀ b, H b ≠ none → b = a ∨ b ∈ cs.map (·.2)) → (H a ≠ none → K.lookup a = none) →
      codeAny (model P w) callerA (.call (.ref fa) ⟨[.ref a], []⟩) (fun r s' => r = .ok (.ret (.bool true)) ∧ OldK s₁.heap s'.heap ∧ s'.os = s₁.os ∧ AllBare s'.gens) s₁ := by
    intro H tH1 oH1 sH1 kH1 aH1 lH1
    have toB1 : ∀ {b : Addr} {o : Obj}, s₁.heap.get? b = some o → H b = none → (hidT s₁.heap H).get? b = some o := fun e n => hidT_get e n
    have dN1 : ∀ {b : Addr} {o : Obj}, s₁.heap.get? b = some o → (∀ vs n, o.data ≠ .seq vs n) → o.data ≠ .fields #[] → H b = none := fun {b o} e h1 h2 => by
      cases q : H b with
      | none => rfl
      | some u =>
        rcases aH1 b (by rw [q]; simp) with e' | e'
        · rw [e', aO1] at e
          cases e
          exact (h1 _ _ rfl).elim
        · rw [iT1 b e'] at e
          cases e
          exact (h2 rfl).elim
    have dA1 : ∀ {b : Addr} {o : Obj} {es : Array DictEntry} {ep : Nat}, s₁.heap.get? b = some o → o.data = .dict es ep → H b = none := fun {b o es ep} e d => by
      refine dN1 e (fun vs n z => ?_) fun z => ?_
      · rw [d] at z
        cases z
      · rw [d] at z
        cases z
    have nB1 : ∀ {b : Addr} {m : Str → Option Value}, s₁.heap.Ns b m → (hidT s₁.heap H).Ns b m := fun {b m} ⟨o, es, ep, e, d, r⟩ => ⟨o, es, ep, toB1 e (dA1 e d), d, r⟩
    have kB1 : K.In (hidT s₁.heap H) := fun b o e => toB1 (kI1 b o e) (by
      cases q : H b with
      | none => rfl
      | some u =>
        rcases aH1 b (by rw [q]; simp) with e' | e'
        · rw [e'] at e q
          rw [lH1 (by rw [q]; simp)] at e
          cases e
        · obtain ⟨p, hp, ep⟩ := List.mem_map.mp e'
          rw [← ep, tN1 p hp] at e
          cases e)
    have mB1 : L2.Mod K mg (hidT s₁.heap H) := ⟨kB1, nB1 nG1, ⟨mB01, nB1 vB1, bB1⟩, let ⟨mc, h1, h2⟩ := lM1; ⟨mc, nB1 h1, h2⟩⟩
    have cB1 : ∀ p ∈ cs, TabB (hidT s₁.heap H) mg p.1 p.2 := fun p hp => by
      have hTp := tO1 p hp
      refine ⟨?_, ?_, fun z => ?_⟩
      · obtain ⟨o, us, file, tf, flags, tg, inF, text, tt, e1, r1, r2, r3, r4, r5, r6, r7, r8, nE1⟩ := C p hp
        refine ⟨o, us, file, tf, flags, tg, inF, text, tt, toB1 e1 (dN1 e1 (fun vs n z => ?_) fun z => ?_), r1, r2, r3, r4, r5, r6, r7, r8, nE1⟩
        · rw [r2] at z
          cases z
        · rw [r2] at z
          cases z
          simp at r3
      · obtain ⟨bA1, oB1, b1, b2, b3, b4, b5, b6⟩ := bM1
        have gN1 : bA1 ≠ mainGlobals := fun q => by
          obtain ⟨o, es, ep, e, dE1, _⟩ := nG1
          rw [q, e] at b3
          cases b3
          rw [dE1] at b6
          cases b6
        have pN1 : bA1 ≠ p.2 := fun q => by
          rw [q, hTp] at b3
          cases b3
          cases b6
        refine ⟨bA1, oB1, b1, b2, gN1, pN1, toB1 b3 (dN1 b3 (fun vs n z => ?_) fun z => ?_), b4, b5, b6⟩
        · rw [b6] at z
          cases z
        · rw [b6] at z
          cases z
      · obtain ⟨o, es, ep, e, dE1, _⟩ := nG1
        rw [z, hTp] at e
        cases e
        cases dE1
    have e0 : Env0 P w K mg (hidT s₁.heap H) callerA [] s₁ H := ⟨rfl, mB1, fun b o e => of_hidT e, Nat.le_of_eq (hidT_size _ _), trivial, fun b vB1 => absurd (show b ∈ ([] : List Addr) from vB1) (by simp), kH1, .of_eq hg⟩
    refine codeAny_mono ((F _ kB1 (nB1 nG1) cB1).run callerA [] s₁ H ⟨[.ref a], []⟩ [.ref a] [.ref a] _ _ rM1 rfl e0 (bD1 s₁ (.ref a)) (.cons rfl .nil) (sP1 H tH1 sH1)) fun r s' h => ?_
    cases r with
    | error e => exact (cN1 H e s' h).elim
    | ok fl =>
      cases fl with
      | next => exact False.elim h
      | brk => exact False.elim h
      | cont => exact False.elim h
      | ret u =>
        obtain ⟨v, H', os, bare, uN1, hok', r', q⟩ := h
        have q' : v = .bl true := q
        subst q'
        obtain rfl : u = Value.bool true := r'
        have kp01 : ∀ b o, b ∉ cs.map (·.2) → s₁.heap.get? b = some o → s'.heap.get? b = some o := fun b o nb e => by
          cases q : H b with
          | none => exact uN1.keep b o e q (by intro z; exact absurd (show b ∈ ([] : List Addr) from z) (by simp)) (by simp)
          | some u =>
            rcases oH1 b with z | z | ⟨oB1, xs, z⟩
            · rw [q] at z; cases z
            · exact absurd z nb
            · have z2 := uN1.frzs b oB1 _ z
              obtain ⟨e1, _⟩ := kH1 b _ z
              obtain ⟨e2, _⟩ := hok' b _ z2
              rw [e] at e1; cases e1
              exact e2
        have gw1 : ∀ p ∈ cs, ∃ more : Array Value, s'.heap.get? p.2 = some { cls := .none, data := .fields more } := fun p hp => by
          obtain ⟨more, z⟩ := uN1.tbls p.2 #[] (tH1 p hp)
          exact ⟨_, hok' p.2 _ z⟩
        refine ⟨rfl, ⟨fun b o e => ?_, fun b o e => ?_⟩, os, bare⟩
        · by_cases vB1 : b ∈ cs.map (·.2)
          · obtain ⟨p, hp, ep⟩ := List.mem_map.mp vB1
            obtain ⟨more, hm⟩ := gw1 p hp
            rw [← ep] at e ⊢
            rw [tO1 p hp] at e
            cases e
            exact .inr (.inl ⟨((C p hp).tab (tO1 p hp)).isCodeTable, rfl, #[], more, rfl, by rw [Array.empty_append]; exact hm⟩)
          · exact .inl (kp01 b o vB1 e)
        · by_cases vB1 : b ∈ cs.map (·.2)
          · obtain ⟨p, hp, ep⟩ := List.mem_map.mp vB1
            obtain ⟨more, hm⟩ := gw1 p hp
            rw [← ep]
            exact ⟨_, hm⟩
          · exact ⟨o, kp01 b o vB1 e⟩
  cases hk : K.lookup a with
  | some o =>
    have e := kI1 a o hk
    rw [aO1] at e
    cases e
    exact absurd rfl (kl1 a _ hk)
  | none =>
    refine cor1 (fun b => if b = a then some (.frz { cls := .type "list", data := .seq vs.toArray } (.lst (ns.map V.int))) else if b ∈ cs.map (·.2) then some (.tbl #[]) else none) (fun p hp => (if_neg (show ¬ p.2 = a from fun z => aN1 (by rw [← z]; exact mT1 p hp))).trans (if_pos (mT1 p hp))) (fun b => ?_)
      (.inr ⟨{ cls := .type "list", data := .seq vs.toArray }, if_pos rfl⟩) (fun b u z => ?_) (fun b z => ?_) fun _ => hk
    · by_cases vB1 : b = a
      · exact .inr (.inr ⟨_, _, if_pos vB1⟩)
      · by_cases hb2 : b ∈ cs.map (·.2)
        · exact .inr (.inl hb2)
        · exact .inl ((if_neg vB1).trans (if_neg hb2))
    · by_cases vB1 : b = a
      · have z' := (if_pos vB1).symm.trans z
        cases z'
        rw [vB1]
        exact ⟨aO1, by rw [List.length_map]; exact lZ1, vs, _, rV1, aO1⟩
      · have z1 := (if_neg vB1).symm.trans z
        by_cases hb2 : b ∈ cs.map (·.2)
        · have z' := (if_pos hb2).symm.trans z1
          cases z'
          exact iT1 b hb2
        · have z' := (if_neg hb2).symm.trans z1
          cases z'
    · by_cases vB1 : b = a
      · exact .inl vB1
      · by_cases hb2 : b ∈ cs.map (·.2)
        · exact .inr hb2
        · exact absurd ((if_neg vB1).trans (if_neg hb2)) z
/-- the law's promise, told at the head's heap -/
def LawG (l : PySem.W.OpenLaw) (w : World) (K : PySem.W.Frag) (CX : CXT) (k n : Nat) (x : Str) (mg : Str → Option Value) (fa : Addr) (h : Heap) : Prop :=
  ∃ (fd : FuncData) (cs : List (Addr × Addr)) (sp : Sp), (∀ p ∈ cs, h.get? p.2 = some { cls := .none, data := .fields #[] }) ∧ (∀ p ∈ cs, K.lookup p.2 = none) ∧ (∀ p ∈ cs, PySem.W.CodeHd h p.1 p.2) ∧ (∀ (s : Shared) (u : Value), BindsTo s fd ⟨[u], []⟩ [(x, u)]) ∧
    (∀ (b : Addr) (o : Obj), K.lookup b = some o → o.cls ≠ .type "list") ∧ (∀ (H : Hp) (a : Addr) (ns : List Int), ns.length ≤ n → (∀ z ∈ ns, Builtin.Int.intBits z ≤ 1048576) → (∀ p ∈ cs, H p.2 = some (.tbl #[])) → Rd H a (.lst (ns.map V.int)) → sp [.ref a] H (fun v _ => v = .bl true) fun _ _ _ => False) ∧
    ∀ base : Heap, K.In base → base.Ns mainGlobals mg → (∀ p ∈ cs, TabB base mg p.1 p.2) → FnG l.prog w K mg base CX k fa fd [x] sp
theorem walk_G {l : PySem.W.OpenLaw} {n k : Nat} {q : Program} {loose : List Str} {XP : (Str → Option Value) → Heap → Prop} {YP : World → Heap → Prop} {d : DefRec} {K : Params → PySem.W.Frag} {CX : World → CXT} {x : Str}
    (hm01 : l.most = some n) (hz01 : n ≤ sizeLine) (dF1 : d.params.defaults = []) (rM1 : Room k callerA) (yK1 : ∀ (w : World) (h : Heap), YP w h → (K w.params).In h)
    (F : ∀ (w : World) (mg : Str → Option Value) (fa : Addr) (h : Heap), XP mg h → YP w h → (K w.params).In h → h.Ns mainGlobals mg → mg d.name = some (.ref fa) → LawG l w (K w.params) (CX w) k n x mg fa h)
    (cN1 : ∀ (w : World) (H : Hp) (s : Shared) (e : Value) (s' : Shared), CX w [] H s (fun _ _ _ => False) e s' → False) :
    PySem.W.WalkO q loose XP YP l.row.toRowW d [] (fun f vs => PySem.call f vs) := by
  refine Att.attach_callB hm01 dF1 fun w s₀ s₁ mg mB01 fa o pm cd doc a vs ns G Y ho dE1 hcd hmg hobj hints hlen hbits hg => ?_
  have kI1 := yK1 w _ Y
  obtain ⟨fd, cs, sp, tO1, tN1, C, vB1, kl1, sP1, hF⟩ := F w mg fa _ G.X Y kI1 G.T.g hmg
  exact law_callG kl1 kI1 G.T.g G.T.b G.T.builtins G.T.nolimit hg tO1 tN1 C G.T.bmain hobj hints (Nat.le_trans hlen hz01) rM1 hF vB1 (fun H tH1 sH1 => sP1 H a ns hlen hbits tH1 sH1) fun H e s' => cN1 w H s₁ e s'
/-- a constant of the module -/
theorem loose_int {lv : List (Str × PySem.W.WData)} {mg : Str → Option Value} {h : Heap} (L : PySem.W.LooseAre lv mg h) {x : Str} {i : Int} (m : (x, PySem.W.WData.int i) ∈ lv) : ∃ t, mg x = some (.int i t) := by
  obtain ⟨v, e, r⟩ := L.val _ m
  cases r
  exact ⟨_, e⟩
/-- the law's own promise, from what its reading comes to -/
theorem law_sp {K : PySem.W.Frag} {T : List (Addr × Str)} {ca : Nat → Addr} {H : Hp} {a : Addr} {ns : List Int} {F : Fn} {as : List Sl} (e : F [.dat (.list (ns.map PyData.int))] = .ok (.dat (.bool true), as)) (hT : ∀ p ∈ T, H p.1 = some (.tbl #[])) (hS : Rd H a (.lst (ns.map V.int))) :
    spD K T ca 1 F [.ref a] H (fun v _ => v = .bl true) fun _ _ _ => False := by
  refine ⟨rfl, fun b => if b = a then H a else none, [.dat (.list (ns.map PyData.int))], ⟨rfl, fun b u h => ?_, fun p hp => TabS.nil (hT p hp), fun p ps h => ?_, fun i d h => ?_, fun i io ds h => ?_, fun i j io ds jo es p n h => ?_⟩, fun i ds h => ?_, ?_⟩
  · by_cases z : b = a
    · rw [if_pos z] at h
      rw [z]
      exact h
    · rw [if_neg z] at h
      cases h
  · by_cases z : p = a
    · rw [if_pos z] at h
      rcases hS with q | ⟨o, q⟩ <;> (rw [q] at h; cases h)
    · rw [if_neg z] at h
      cases h
  · match i, h with
    | 0, h =>
      cases h
      refine ⟨.ref a, rfl, .lst (xs := ns.map V.int) ?_ (RpAll.of_ints ns)⟩
      rcases hS with q | ⟨o, q⟩
      · exact .inl ((if_pos rfl).trans q)
      · exact .inr ⟨o, (if_pos rfl).trans q⟩
    | _ + 1, h => simp at h
  · match i, h with
    | 0, h => cases h
    | _ + 1, h => simp at h
  · match i, h with
    | 0, h => cases h
    | _ + 1, h => simp at h
  · match i, h with
    | 0, h => cases h
    | _ + 1, h => simp at h
  · rw [e]
    intro H0' H' v st sr r
    have r : Rp K H0' v (.bool true) := r
    cases r
    rfl
end PD
end
section
/-! PX5: defs that make lambdas (their code object is told), what the head tells of them. -/
namespace PD
open PySem PySem.Spec PyProof.Rows L2 Evl LamX
/-- a def whose code object stands at c -/
structure FunC (K : PySem.W.Frag) (x : Str) (st : Stmt) (f : Addr) (fd : FuncData) (c : Addr) : Prop where
  ex : ∃ (oc : Value) (od : Option Addr) (kV doc pm : Value) (an : Option Addr) (ct : Value) (osl : Array (Option Value)),
    fd = PySem.W.fnOf x x (defArgs st) (defBody st) (defScope st) .none kV doc pm an (.ref c) ct ∧ K.lookup f = some ⟨oc, od, .func fd, osl⟩ ∧ PySem.W.codeIn K (.ref c) x = true
  kp : PySem.W.keepIn K (.ref f) = true
theorem fn_DC {K : PySem.W.Frag} {T : List (Addr × Str)} {ca : Nat → Addr} {P : Program} {w : World} {mg : Str → Option Value} {base : Heap} {x : Str} {st : Stmt} {f c : Addr} {fd : FuncData} {N ps : List Str} {k : Nat} {B : SemS} (F : FunC K x st f fd c) (S : FnScope N ps (defScope st)) (hl : ps.length ≤ N.length)
    (hb : ∀ (A : Around) (outer : List Env) (s : Shared) (H : Hp) (E : XK), Room k (A.deeper (envOfC x (defScope st) s.heap.objs.size f (.ref c))) →
      PSs (cxOf (L2.CX P w) P w K mg base N x (defScope st) f (.ref c) A outer s H E) (defBody st) (tS ⟨K, T, ca, E⟩ B)) : FnOk P w K mg base (L2.CX P w) (k + 1) f fd ps (spD K T ca ps.length (runF N.length B)) := by
  obtain ⟨oc, od, kV, doc, pm, an, ct, osl, rfl, lk, hcd⟩ := F.ex
  exact fn_of lk hcd S (fun vs H Q E z => z.1) fun A outer s H vs Q E rm z => ⟨_, hb A outer s H E rm, run_start z hl⟩
theorem fn_DCG {K : PySem.W.Frag} {T : List (Addr × Str)} {ca : Nat → Addr} {P : Program} {w : World} {mg : Str → Option Value} {base : Heap} {x : Str} {st : Stmt} {f c : Addr} {fd : FuncData} {N ps : List Str} {k : Nat} {B : SemS} (F : FunC K x st f fd c) (S : FnScope N ps (defScope st)) (hl : ps.length ≤ N.length)
    (hb : ∀ (A : Around) (outer : List Env) (s : Shared) (H : Hp) (E : XK), Room k (A.deeper (envOfC x (defScope st) s.heap.objs.size f (.ref c))) → A.guards = some [] →
      PSs (cxOf (L2.CX P w) P w K mg base N x (defScope st) f (.ref c) A outer s H E) (defBody st) (tS ⟨K, T, ca, E⟩ B)) : FnG P w K mg base (L2.CX P w) (k + 1) f fd ps (spD K T ca ps.length (runF N.length B)) := by
  obtain ⟨oc, od, kV, doc, pm, an, ct, osl, rfl, lk, hcd⟩ := F.ex
  refine ⟨fun vs H Q E z => z.1, fun A outer s H args us vs Q E rm gd e0 bt rv z => ?_⟩
  exact run_ofS lk hcd S rm e0 bt rv z.1 fun r2 => ⟨_, hb A outer s H E r2 gd, run_start z hl⟩
theorem FnOk.g {P : Program} {w : World} {K : PySem.W.Frag} {mg : Str → Option Value} {base : Heap} {CX : CXT} {k : Nat} {f : Addr} {fd : FuncData} {ps : List Str} {sp : Sp} (F : FnOk P w K mg base CX k f fd ps sp) : FnG P w K mg base CX k f fd ps sp :=
  ⟨F.len, fun A outer s H args us vs Q E rm _ => F.run A outer s H args us vs Q E rm⟩
theorem nd_hu {T : List (Addr × Str)} (h : (T.map (·.1)).Nodup) {P : Addr} {q : Str} (m : (P, q) ∈ T) : ∀ p ∈ T, p.1 = P → p.2 = q := by
  induction T with
  | nil => cases m
  | cons a T ih =>
    have h := List.nodup_cons.mp h
    intro p hp e
    rcases List.mem_cons.mp m with m1 | m1
    · rcases List.mem_cons.mp hp with hp | hp
      · rw [hp, ← m1]
      · exact absurd (List.mem_map.mpr ⟨p, hp, e.trans (by rw [← m1])⟩) h.1
    · rcases List.mem_cons.mp hp with hp | hp
      · exact absurd (show a.1 ∈ T.map (·.1) from List.mem_map.mpr ⟨(P, q), m1, by rw [← hp]; exact e.symm⟩) h.1
      · exact ih h.2 m1 p hp e
/-- x(lambda: body), x a def of the text -/
theorem dl_said {C : Ct} {X : Cx} {okF : PyData → R PyData} {exF : Nat → R PyData} {F : Sem' PyData} {x a : Str} {g c P : Addr} {k : Nat} {st : Stmt} {fd : FuncData} {Ng : List Str}
    {params : Arguments} {body : Expr} {scope : Scope} {p lpos pos : Pos} (hg : Gl X x) (hm : X.mg x = some (.ref g)) (Fg : Fun X.K x x st g fd) (hb : L2.Binds X.K fd [a] []) (Sg : FnScope Ng [a] (defScope st)) (hNg : Ng[0]? = some a) (hva : Vis (defScope st) a)
    (hG : ∀ cdv, GivesTo X Ng x (defScope st) g cdv (defBody st) a (X.env.qual ++ "<lambda>") (TSaid C okF exF))
    (TB : TabB X.base X.mg c P) (hcode : X.env.code = .ref c) (hmT : (P, X.env.qual ++ "<lambda>") ∈ C.T) (hnd : (C.T.map (·.1)).Nodup) (hr : Room (k + 2) X.A) (L : LamS X.env.scope scope) (hdef : defaultsOf params X.env = ([], []))
    (hbind : ∀ (q : Str) (cl : List (Str × Addr)) (pm cv ctv : Value), bindArgs (PySem.W.kla_fn "<lambda>" q params body scope cl pm cv ctv) ⟨[], []⟩ = pure [])
    (hbody : ∀ (A : Around) (outer : List Env) (s : Shared) (H : Hp) (E : XK) (f c' : Addr), Room k (A.deeper (lamEnv X scope s.heap.objs.size f c')) → PE (lamCx X A outer s H E scope f c') body (tE ⟨C.K, C.T, C.ca, E⟩ F))
    (hdb : (x == ("__debug__" : Str)) = false := by decide) (hd : (a == ("__debug__" : Str)) = false := by decide) (hcd : (a == ("__classdict__" : Str)) = false := by decide) :
    PE X (.Call (.Name x p) [.Lambda params body scope lpos] [] pos) (tE C (dSaid okF exF F)) := by
  obtain ⟨oc, od, kV, doc, pm, an, cdv, ct, osl, rfl, lk, hcg⟩ := Fg.ex
  exact de_said hg hm Fg.kp lk hcg hb Sg hNg hva (hG cdv) TB hcode hmT (nd_hu hnd hmT) hr L hdef hbind hbody hdb hd hcd
theorem mem_lk : ∀ {K : List (Addr × Obj)} {a : Addr} {o : Obj}, K.lookup a = some o → (a, o) ∈ K
  | [], _, _, h => by cases h
  | (b, u) :: r, a, o, h => by
    unfold List.lookup at h
    split at h
    · rename_i e
      have e : a = b := by simpa using e
      cases h
      rw [e]
      exact List.mem_cons_self
    · exact List.mem_cons_of_mem _ (mem_lk h)
/-- no list stands in the written part -/
def noLists (K : PySem.W.Frag) : Bool := K.all fun p => match p.2.cls with
  | .type n => n != "list"
  | _ => true
theorem noLists_ok {K : PySem.W.Frag} (h : noLists K = true) (a : Addr) (o : Obj) (e : K.lookup a = some o) : o.cls ≠ .type "list" := fun z => by
  have q := List.all_eq_true.mp h _ (mem_lk e)
  simp [z] at q
theorem cx_none {P : Program} {w : World} {H : Hp} {s s' : Shared} {e : Value} (h : L2.CX P w [] H s (fun _ _ _ => False) e s') : False := by
  obtain ⟨_, _, _, _, _, _, _, _, _, _, _, _, z⟩ := h
  exact z
end PD
end
section
/-! PL: what readings come to: comprehensions and loops over lists, told as plain lists. -/
namespace PD
open PySem PySem.Spec L2 Evl
/-- a comprehension whose items change nothing -/
theorem lc_pure {ws : List Nat} {e : En} {vs : List Nat} {tg : PyData → En → R En} {tst : Sem' Bool} {elt : Sem' PyData} (f : PyData → Option PyData) : ∀ (xs : List PyData),
    (∀ x ∈ xs, ∃ e1 b e2, tg x e = .ok e1 ∧ tst e1 = .ok (b, e2) ∧ (if b = true then ∃ y e3, elt e2 = .ok (y, e3) ∧ wipeE e3 vs = e ∧ f x = some y else wipeE e2 vs = e ∧ f x = none)) →
    lcLoop ws e vs tg tst elt xs e = .ok (xs.filterMap f, e)
  | [], _ => by
    unfold lcLoop
    rw [keepW_self]
    rfl
  | x :: xs, h => by
    obtain ⟨e1, b, e2, h1, h2, h3⟩ := h x List.mem_cons_self
    have ih := lc_pure (ws := ws) (e := e) (vs := vs) (tg := tg) (tst := tst) (elt := elt) f xs fun y hy => h y (List.mem_cons_of_mem _ hy)
    unfold lcLoop
    rw [keepW_self, h1]
    simp only [lift_ok, R.bind_ok, h2]
    cases b with
    | true =>
      simp only [if_true] at h3 ⊢
      obtain ⟨y, e3, h4, h5, h6⟩ := h3
      rw [h4]
      simp only [lift_ok, R.bind_ok, h5, ih, List.filterMap_cons, h6]
    | false =>
      simp only [Bool.false_eq_true, if_false] at h3 ⊢
      obtain ⟨h5, h6⟩ := h3
      simp only [h5, ih, List.filterMap_cons, h6]
/-- all items told, none left out -/
theorem lc_map {ws : List Nat} {e : En} {vs : List Nat} {tg : PyData → En → R En} {elt : Sem' PyData} {α : Type} (q : α → PyData) (g : α → PyData) (xs : List α)
    (h : ∀ x ∈ xs, ∃ e1 e3, tg (q x) e = .ok e1 ∧ elt e1 = .ok (g x, e3) ∧ wipeE e3 vs = e) :
    lcLoop ws e vs tg dYes elt (xs.map q) e = .ok (xs.map g, e) := by
  induction xs with
  | nil => rw [List.map_nil]; unfold lcLoop; rw [keepW_self]; rfl
  | cons x xs ih =>
    obtain ⟨e1, e3, h1, h2, h3⟩ := h x List.mem_cons_self
    rw [List.map_cons]
    unfold lcLoop
    rw [keepW_self, h1]
    simp only [lift_ok, R.bind_ok, dYes, if_true]
    rw [h2]
    simp only [lift_ok, R.bind_ok, h3, ih fun y hy => h y (List.mem_cons_of_mem _ hy), List.map_cons]
/-- some items, by a test -/
theorem lc_filter {ws : List Nat} {e : En} {vs : List Nat} {tg : PyData → En → R En} {tst : Sem' Bool} {elt : Sem' PyData} {α : Type} (q : α → PyData) (p : α → Bool) (g : α → PyData) (xs : List α)
    (h : ∀ x ∈ xs, ∃ e1 e2, tg (q x) e = .ok e1 ∧ tst e1 = .ok (p x, e2) ∧ (p x = true → ∃ e3, elt e2 = .ok (g x, e3) ∧ wipeE e3 vs = e) ∧ (p x = false → wipeE e2 vs = e)) :
    lcLoop ws e vs tg tst elt (xs.map q) e = .ok ((xs.filter p).map g, e) := by
  induction xs with
  | nil => rw [List.map_nil]; unfold lcLoop; rw [keepW_self]; rfl
  | cons x xs ih =>
    obtain ⟨e1, e2, h1, h2, h3, h4⟩ := h x List.mem_cons_self
    have ih := ih fun y hy => h y (List.mem_cons_of_mem _ hy)
    rw [List.map_cons]
    unfold lcLoop
    rw [keepW_self, h1]
    simp only [lift_ok, R.bind_ok, h2]
    cases hp : p x with
    | true =>
      obtain ⟨e3, h5, h6⟩ := h3 hp
      simp only [if_true, h5, lift_ok, R.bind_ok, h6, ih, List.filter_cons, hp, List.map_cons]
    | false =>
      simp only [Bool.false_eq_true, if_false, h4 hp, ih, List.filter_cons, hp]
/-- a comprehension whose items change a state told by hand: e s the slots at state s -/
theorem lc_state {ws : List Nat} {S : Type} (e : S → En) {vs : List Nat} {tg : PyData → En → R En} {elt : Sem' PyData} (P : S → Prop) (G : PyData → Prop) (en1 : En) (hw : ∀ s, P s → ∀ i ∈ ws, (e s)[i]? = en1[i]?) (xs : List PyData)
    (h : ∀ x ∈ xs, ∀ s, P s → ∃ e1 y s' e3, tg x (e s) = .ok e1 ∧ elt e1 = .ok (y, e3) ∧ wipeE e3 vs = e s' ∧ P s' ∧ G y) (s : S) (hs : P s) :
    ∃ ys s', lcLoop ws en1 vs tg dYes elt xs (e s) = .ok (ys, e s') ∧ P s' ∧ ys.length = xs.length ∧ ∀ y ∈ ys, G y := by
  have kw : ∀ {α : Type} (s : S), P s → ∀ x : R α, keepW ws en1 (e s) x = x := fun s hs x => by
    unfold keepW
    rw [if_pos (hw s hs)]
  induction xs generalizing s with
  | nil =>
    refine ⟨[], s, ?_, hs, rfl, fun y hy => by cases hy⟩
    unfold lcLoop
    rw [kw s hs]
  | cons x xs ih =>
    obtain ⟨e1, y, s', e3, h1, h2, h3, h4, h5⟩ := h x List.mem_cons_self s hs
    obtain ⟨ys, s2, i1, i2, i3, i4⟩ := ih (fun z hz => h z (List.mem_cons_of_mem _ hz)) s' h4
    refine ⟨y :: ys, s2, ?_, i2, by rw [List.length_cons, List.length_cons, i3], fun z hz => ?_⟩
    · unfold lcLoop
      rw [kw s hs, h1]
      simp only [lift_ok, R.bind_ok, dYes, if_true]
      rw [h2]
      simp only [lift_ok, R.bind_ok, h3, i1]
    · rcases List.mem_cons.mp hz with rfl | hz
      · exact h5
      · exact i4 z hz
/-- a for loop that always goes on: the state from item to item -/
theorem for_state {S : Type} (e : S → En) {g : PyData → En → R En} {B : SemS} (P : Nat → S → Prop) (xs : List PyData)
    (h : ∀ (i : Nat) (x : PyData), xs[i]? = some x → ∀ s, P i s → ∃ e1 s', g x (e s) = .ok e1 ∧ (B e1 = .next (e s') ∨ B e1 = .cont (e s')) ∧ P (i + 1) s') (s : S) (hs : P 0 s) :
    ∃ s', forLoop g B xs (e s) = .next (e s') ∧ P xs.length s' := by
  induction xs generalizing s P with
  | nil => exact ⟨s, rfl, hs⟩
  | cons x xs ih =>
    obtain ⟨e1, s', h1, h2, h3⟩ := h 0 x rfl s hs
    obtain ⟨s2, i1, i2⟩ := ih (fun i => P (i + 1)) (fun i y hy => h (i + 1) y (by simpa using hy)) s' h3
    refine ⟨s2, ?_, i2⟩
    unfold forLoop
    rw [h1]
    simp only [lift_ok, ofR_ok]
    rcases h2 with h2 | h2 <;> rw [h2] <;> exact i1
theorem seq_next {S T : SemS} {en e : En} (h : S en = .next e) : sSeq S T en = T e := by unfold sSeq; rw [h]; rfl
theorem seq_ret {S T : SemS} {en e : En} {r : Rv} (h : S en = .ret r e) : sSeq S T en = .ret r e := by unfold sSeq; rw [h]; rfl
theorem seq_exc {S T : SemS} {en : En} {n : Nat} (h : S en = .exc n) : sSeq S T en = .exc n := by unfold sSeq; rw [h]; rfl
theorem dLc_ok {it : Sem' Its'} {vs ws : List Nat} {tg : PyData → En → R En} {tst : Sem' Bool} {elt : Sem' PyData} {en en1 e2 : En} {xs ys : List PyData} (h1 : it en = .ok ((xs, ws), en1)) (h2 : freeOf en1 vs = true) (h3 : xs.length ≤ 100000) (h4 : ws.all (fun i => !vs.contains i) = true)
    (h5 : lcLoop ws (wipeE en1 vs) vs tg tst elt xs (wipeE en1 vs) = .ok (ys, e2)) : dLc it vs tg tst elt en = .ok (ys, restE en1 e2 vs) := by
  unfold dLc
  rw [h1]
  simp only [R.bind_ok]
  rw [if_pos ⟨h2, h3, h4⟩, h5]
  rfl
theorem MulOk_r {a b : Int} (h : b.natAbs < 2 ^ 63) : MulOk a b := .inl (.inr h)
theorem MulOk_l {a b : Int} (h : a.natAbs < 2 ^ 63) : MulOk a b := .inl (.inl h)
theorem pMulA_r {a b : Int} (h : b.natAbs < 2 ^ 63) : pMulA (.int a) (.int b) = .ok (.int (a * b)) := if_pos (MulOk_r h)
theorem pMulA_l {a b : Int} (h : a.natAbs < 2 ^ 63) : pMulA (.int a) (.int b) = .ok (.int (a * b)) := if_pos (MulOk_l h)
theorem pFdiv_ok {a b : Int} (h : 0 < b) (h2 : b.natAbs < 2 ^ 8000) : pFdiv (.int a) (.int b) = .ok (.int (a / b)) := if_pos ⟨h, h2⟩
theorem pMod_ok {a b : Int} (h : 0 < b) : pMod (.int a) (.int b) = .ok (.int (a % b)) := if_pos h
theorem small_lt {b : Int} (h0 : 0 ≤ b) (h : b < 2 ^ 63) : b.natAbs < 2 ^ 63 := by omega
theorem lt8000 {b m : Nat} (hm : m ≤ 8000) (h : b < 2 ^ m) : b < 2 ^ 8000 := Nat.lt_of_lt_of_le h (Nat.pow_le_pow_right (by decide) hm)
theorem pIx_list {ds : List PyData} {i : Int} {d : PyData} (h : atI ds i = some d) : pIx (.list ds) (.int i) = .ok d := by show R.get (atI ds i) = _; rw [h]; rfl
theorem pIx_tuple {ds : List PyData} {i : Int} {d : PyData} (h : atI ds i = some d) : pIx (.tuple ds) (.int i) = .ok d := by show R.get (atI ds i) = _; rw [h]; rfl
theorem atI_nat' {ds : List PyData} {j : Nat} {d : PyData} (h : ds[j]? = some d) : atI ds (j : Int) = some d := by
  have hl := (List.getElem?_eq_some_iff.mp h).1
  unfold atI ixN
  rw [if_pos (by omega), if_pos (by omega)]
  simpa using h
theorem pFdiv_s {a b : Int} (h : 0 < b) (h2 : b < 9223372036854775808) : pFdiv (.int a) (.int b) = .ok (.int (a / b)) := pFdiv_ok h (lt8000 (m := 63) (by decide) (by omega))
theorem pMulA_m {x m b : Int} (h : 0 < m) (h2 : m < 9223372036854775808) : pMulA (.int (x % m)) (.int b) = .ok (.int (x % m * b)) := by
  have h3 := Int.emod_nonneg x (show m ≠ 0 by omega)
  have h4 := Int.emod_lt_of_pos x h
  exact pMulA_l (by omega)
theorem asg_lc {it : Sem' Its'} {vs ws : List Nat} {tg : PyData → En → R En} {tst : Sem' Bool} {elt : Sem' PyData} {en en1 e2 e' : En} {xs ys : List PyData} {i : Nat} (h1 : it en = .ok ((xs, ws), en1)) (h2 : PD.freeOf en1 vs = true) (h3 : xs.length ≤ 100000) (h4 : ws.all (fun i => !vs.contains i) = true)
    (h5 : lcLoop ws (wipeE en1 vs) vs tg tst elt xs (wipeE en1 vs) = .ok (ys, e2)) (h6 : ioAt (restE en1 e2 vs) i = false) (h7 : (restE en1 e2 vs).set i (.dat (.list ys)) = e') : sAsg (dFrz (dLc it vs tg tst elt)) (tgN i) en = .next e' := by
  unfold sAsg dFrz
  rw [dLc_ok h1 h2 h3 h4 h5]
  simp only [R.bind_ok, ofR_ok, tgN, h6, Bool.false_eq_true, if_false, lift_ok, h7]
theorem own_lc {it : Sem' Its'} {vs ws : List Nat} {tg : PyData → En → R En} {tst : Sem' Bool} {elt : Sem' PyData} {en en1 e2 e' : En} {xs ys : List PyData} {i : Nat} (h1 : it en = .ok ((xs, ws), en1)) (h2 : PD.freeOf en1 vs = true) (h3 : xs.length ≤ 100000) (h4 : ws.all (fun i => !vs.contains i) = true)
    (h5 : lcLoop ws (wipeE en1 vs) vs tg tst elt xs (wipeE en1 vs) = .ok (ys, e2)) (h6 : ioAt (restE en1 e2 vs) i = false) (h7 : (restE en1 e2 vs).set i (.own false ys) = e') : sOwn (dLc it vs tg tst elt) i en = .next e' := by
  unfold sOwn
  rw [dLc_ok h1 h2 h3 h4 h5]
  simp only [ofR_ok, h6, Bool.false_eq_true, if_false, h7]
/-- tuple of a comprehension -/
theorem tup_lc {it : Sem' Its'} {vs ws : List Nat} {tg : PyData → En → R En} {tst : Sem' Bool} {elt : Sem' PyData} {en en1 e2 e' : En} {xs ys : List PyData} (h1 : it en = .ok ((xs, ws), en1)) (h2 : PD.freeOf en1 vs = true) (h3 : xs.length ≤ 100000) (h4 : ws.all (fun i => !vs.contains i) = true)
    (h5 : lcLoop ws (wipeE en1 vs) vs tg tst elt xs (wipeE en1 vs) = .ok (ys, e2)) (h7 : restE en1 e2 vs = e') : dA pTuple (aCons (oVal (dFrz (dLc it vs tg tst elt))) aNil) en = .ok (.tuple ys, e') := by
  unfold dA aCons oVal dFrz
  rw [dLc_ok h1 h2 h3 h4 h5]
  simp [aNil, resAll, Op.res, pTuple, h7]
/-! ### lists of ints -/
theorem canLay_ints (ns : List Int) : PyData.canLayAll0 (ns.map PyData.int) = true := by
  induction ns with
  | nil => simp [PyData.canLayAll0]
  | cons n ns ih => simp [PyData.canLayAll0, PyData.canLay0, ih]
theorem depth_ints (ns : List Int) : PyData.depthAll (ns.map PyData.int) ≤ 1 := by
  induction ns with
  | nil => simp [PyData.depthAll]
  | cons n ns ih => simp [PyData.depthAll, PyData.depth]; omega
theorem nd_ints (ns : List Int) : nd.ndAll (ns.map PyData.int) = true := by
  induction ns with
  | nil => simp [nd.ndAll]
  | cons n ns ih => simp [nd.ndAll, nd, ih]
theorem plain_ints (ns : List Int) : plainD (.list (ns.map PyData.int)) = true := by
  have h1 := canLay_ints ns
  have h2 := depth_ints ns
  have h3 := nd_ints ns
  simp [plainD, nd, SeqAt.shaped, PyData.canLay0, PyData.depth, h1, h3]
  omega
theorem plain_intsT (ns : List Int) : plainD (.tuple (ns.map PyData.int)) = true := by
  have h1 := canLay_ints ns
  have h2 := depth_ints ns
  have h3 := nd_ints ns
  simp [plainD, nd, SeqAt.shaped, PyData.canLay0, PyData.depth, h1, h3]
  omega
theorem plain_int (i : Int) : plainD (.int i) = true := by simp [plainD, nd, SeqAt.shaped, PyData.canLay0, PyData.depth]
theorem beq_int (a b : Int) : (a == b) = decide (a = b) := by by_cases h : a = b <;> simp [h]
theorem any_int (ns : List Int) (i : Int) : ((ns.map PyData.int).any fun z => PyData.eqv z (.int i)) = decide (i ∈ ns) := by
  induction ns with
  | nil => simp
  | cons n ns ih =>
    rw [List.map_cons, List.any_cons, ih]
    have e : PyData.eqv (.int n) (.int i) = decide (n = i) := by simp [PyData.eqv, beq_int]
    rw [e]
    by_cases z : n = i
    · simp [z]
    · have z' : ¬ i = n := fun h => z h.symm
      simp [z, z']
theorem flat_ints (ns : List Int) : (ns.map PyData.int).all flatD = true := by
  induction ns with
  | nil => rfl
  | cons n ns ih => simp [flatD]
theorem pIn_list (ns : List Int) (i : Int) : pIn (.int i) (.list (ns.map PyData.int)) = .ok (.bool (decide (i ∈ ns))) := by
  show (if plainD (.int i) = true ∧ plainD (.list (ns.map PyData.int)) = true then R.ok (PyData.bool ((ns.map PyData.int).any fun z => PyData.eqv z (.int i))) else .bad) = _
  rw [if_pos ⟨plain_int i, plain_ints ns⟩, any_int]
theorem pIn_tuple (ns : List Int) (i : Int) : pIn (.int i) (.tuple (ns.map PyData.int)) = .ok (.bool (decide (i ∈ ns))) := by
  show (if flatD (.int i) = true ∧ (ns.map PyData.int).all flatD = true then R.ok (PyData.bool ((ns.map PyData.int).any fun z => PyData.eqv z (.int i))) else .bad) = _
  rw [if_pos ⟨rfl, flat_ints ns⟩, any_int]
theorem pEq_int (i j : Int) : pEq (.int i) (.int j) = .ok (.bool (decide (i = j))) := by
  show (if plainD (.int i) = true ∧ plainD (.int j) = true then R.ok (PyData.bool (PyData.eqv (.int i) (.int j))) else .bad) = _
  rw [if_pos ⟨plain_int i, plain_int j⟩]
  simp [PyData.eqv, beq_int]
theorem pNe_int (i j : Int) : pNe (.int i) (.int j) = .ok (.bool (!decide (i = j))) := by
  show (if plainD (.int i) = true ∧ plainD (.int j) = true then R.ok (PyData.bool (!PyData.eqv (.int i) (.int j))) else .bad) = _
  rw [if_pos ⟨plain_int i, plain_int j⟩]
  simp [PyData.eqv, beq_int]
abbrev qE (p : Int × Nat) : PyData := .tuple [.int (p.2 : Int), .int p.1]
theorem enum_ints (ns : List Int) : enumD (ns.map PyData.int) = ns.zipIdx.map qE := by
  unfold enumD
  rw [List.zipIdx_map, List.map_map]
  rfl
abbrev qZ (p : Int × Int) : PyData := .tuple [.int p.1, .int p.2]
theorem zip_ints (as bs : List Int) : zipD (as.map PyData.int) (bs.map PyData.int) = (as.zip bs).map qZ := by
  unfold zipD
  rw [List.zip_map, List.map_map]
  rfl
section
variable {it : Sem' Its'} {vs ws : List Nat} {tg : PyData → En → R En} {tst : Sem' Bool} {elt : Sem' PyData} {en e' : En} {i : Nat} {α : Type}
theorem asg_map (q : α → PyData) (g : α → PyData) (xs : List α) (h1 : it en = .ok ((xs.map q, ws), en)) (h2 : PD.freeOf en vs = true) (h3 : xs.length ≤ 100000) (h4 : ws.all (fun i => !vs.contains i) = true)
    (h5 : ∀ x ∈ xs, ∃ e1 e3, tg (q x) (wipeE en vs) = .ok e1 ∧ elt e1 = .ok (g x, e3) ∧ wipeE e3 vs = wipeE en vs) (h6 : ioAt (restE en (wipeE en vs) vs) i = false) (h7 : (restE en (wipeE en vs) vs).set i (.dat (.list (xs.map g))) = e') :
    sAsg (dFrz (dLc it vs tg dYes elt)) (tgN i) en = .next e' := asg_lc h1 h2 (by rw [List.length_map]; exact h3) h4 (lc_map q g xs h5) h6 h7
theorem own_map (q : α → PyData) (g : α → PyData) (xs : List α) (h1 : it en = .ok ((xs.map q, ws), en)) (h2 : PD.freeOf en vs = true) (h3 : xs.length ≤ 100000) (h4 : ws.all (fun i => !vs.contains i) = true)
    (h5 : ∀ x ∈ xs, ∃ e1 e3, tg (q x) (wipeE en vs) = .ok e1 ∧ elt e1 = .ok (g x, e3) ∧ wipeE e3 vs = wipeE en vs) (h6 : ioAt (restE en (wipeE en vs) vs) i = false) (h7 : (restE en (wipeE en vs) vs).set i (.own false (xs.map g)) = e') :
    sOwn (dLc it vs tg dYes elt) i en = .next e' := own_lc h1 h2 (by rw [List.length_map]; exact h3) h4 (lc_map q g xs h5) h6 h7
theorem tup_map (q : α → PyData) (g : α → PyData) (xs : List α) (h1 : it en = .ok ((xs.map q, ws), en)) (h2 : PD.freeOf en vs = true) (h3 : xs.length ≤ 100000) (h4 : ws.all (fun i => !vs.contains i) = true)
    (h5 : ∀ x ∈ xs, ∃ e1 e3, tg (q x) (wipeE en vs) = .ok e1 ∧ elt e1 = .ok (g x, e3) ∧ wipeE e3 vs = wipeE en vs) (h7 : restE en (wipeE en vs) vs = e') :
    dA pTuple (aCons (oVal (dFrz (dLc it vs tg dYes elt))) aNil) en = .ok (.tuple (xs.map g), e') := tup_lc h1 h2 (by rw [List.length_map]; exact h3) h4 (lc_map q g xs h5) h7
theorem asg_filter (q : α → PyData) (p : α → Bool) (g : α → PyData) (xs : List α) (h1 : it en = .ok ((xs.map q, ws), en)) (h2 : PD.freeOf en vs = true) (h3 : xs.length ≤ 100000) (h4 : ws.all (fun i => !vs.contains i) = true)
    (h5 : ∀ x ∈ xs, ∃ e1 e2, tg (q x) (wipeE en vs) = .ok e1 ∧ tst e1 = .ok (p x, e2) ∧ (p x = true → ∃ e3, elt e2 = .ok (g x, e3) ∧ wipeE e3 vs = wipeE en vs) ∧ (p x = false → wipeE e2 vs = wipeE en vs)) (h6 : ioAt (restE en (wipeE en vs) vs) i = false) (h7 : (restE en (wipeE en vs) vs).set i (.dat (.list ((xs.filter p).map g))) = e') :
    sAsg (dFrz (dLc it vs tg tst elt)) (tgN i) en = .next e' := asg_lc h1 h2 (by rw [List.length_map]; exact h3) h4 (lc_filter q p g xs h5) h6 h7
theorem tup_filter (q : α → PyData) (p : α → Bool) (g : α → PyData) (xs : List α) (h1 : it en = .ok ((xs.map q, ws), en)) (h2 : PD.freeOf en vs = true) (h3 : xs.length ≤ 100000) (h4 : ws.all (fun i => !vs.contains i) = true)
    (h5 : ∀ x ∈ xs, ∃ e1 e2, tg (q x) (wipeE en vs) = .ok e1 ∧ tst e1 = .ok (p x, e2) ∧ (p x = true → ∃ e3, elt e2 = .ok (g x, e3) ∧ wipeE e3 vs = wipeE en vs) ∧ (p x = false → wipeE e2 vs = wipeE en vs)) (h7 : restE en (wipeE en vs) vs = e') :
    dA pTuple (aCons (oVal (dFrz (dLc it vs tg tst elt))) aNil) en = .ok (.tuple ((xs.filter p).map g), e') := tup_lc h1 h2 (by rw [List.length_map]; exact h3) h4 (lc_filter q p g xs h5) h7
end
theorem for_next {it : Sem' Its'} {g : PyData → En → R En} {B : SemS} {en en1 e' : En} {xs : List PyData} (h1 : it en = .ok ((xs, []), en1)) (h2 : forLoop g B xs en1 = .next e') : sFor it g B en = .next e' := by
  unfold sFor
  rw [h1]
  simp only [ofR_ok, List.isEmpty_nil, if_true, h2]
end PD
end
section
/-! PK: kinds. -/
namespace PD
open PySem PySem.Spec
theorem kit_tab : ((["NoneType", "bool", "int", "str", "list", "tuple", "dict"] : List String).map fun u => ((["int", "bool", "tuple", "str", "list"] : List String).map fun t => L2.kitB u t)) =
    [[some false, some false, some false, some false, some false], [some true, some true, some false, some false, some false], [some true, some false, some false, some false, some false],
     [some false, some false, some false, some true, some false], [some false, some false, some false, some false, some true], [some false, some false, some true, some false, some false], [some false, some false, some false, some false, some false]] := by decide +kernel
/-- a thing of the law's own: no reference -/
def plainK (d : PyData) : Bool := (tyD d).isSome
def isIntB : PyData → Bool
  | .int _ => true
  | .bool _ => true
  | _ => false
def isBoolB : PyData → Bool
  | .bool _ => true
  | _ => false
def isTupB : PyData → Bool
  | .tuple _ => true
  | _ => false
def isStrB : PyData → Bool
  | .str _ => true
  | _ => false
def isLstB : PyData → Bool
  | .list _ => true
  | _ => false
theorem ty_dict {x : List (PyData × PyData)} (h : plainK (.dict x) = true) : tyD (.dict x) = some "dict" := by
  unfold plainK at h
  unfold tyD at h ⊢
  split <;> first | rfl | skip
  all_goals simp_all
theorem isD_int {d : PyData} (h : plainK d = true) : isD "int" d = .ok (.bool (isIntB d)) := by
  have k := kit_tab
  simp only [List.map_cons, List.map_nil, List.cons.injEq, and_true] at k
  unfold isD
  cases d with
  | dict x => rw [ty_dict h]; simp [k, isIntB]
  | _ => simp [tyD, k, isIntB]
theorem isD_bool {d : PyData} (h : plainK d = true) : isD "bool" d = .ok (.bool (isBoolB d)) := by
  have k := kit_tab
  simp only [List.map_cons, List.map_nil, List.cons.injEq, and_true] at k
  unfold isD
  cases d with
  | dict x => rw [ty_dict h]; simp [k, isBoolB]
  | _ => simp [tyD, k, isBoolB]
theorem isD_tuple {d : PyData} (h : plainK d = true) : isD "tuple" d = .ok (.bool (isTupB d)) := by
  have k := kit_tab
  simp only [List.map_cons, List.map_nil, List.cons.injEq, and_true] at k
  unfold isD
  cases d with
  | dict x => rw [ty_dict h]; simp [k, isTupB]
  | _ => simp [tyD, k, isTupB]
theorem isD_str {d : PyData} (h : plainK d = true) : isD "str" d = .ok (.bool (isStrB d)) := by
  have k := kit_tab
  simp only [List.map_cons, List.map_nil, List.cons.injEq, and_true] at k
  unfold isD
  cases d with
  | dict x => rw [ty_dict h]; simp [k, isStrB]
  | _ => simp [tyD, k, isStrB]
theorem isD_list {d : PyData} (h : plainK d = true) : isD "list" d = .ok (.bool (isLstB d)) := by
  have k := kit_tab
  simp only [List.map_cons, List.map_nil, List.cons.injEq, and_true] at k
  unfold isD
  cases d with
  | dict x => rw [ty_dict h]; simp [k, isLstB]
  | _ => simp [tyD, k, isLstB]
@[simp] theorem dVar_dat {en : En} {i : Nat} {d : PyData} (h : en[i]? = some (.dat d)) : dVar i en = .ok (d, en) := by unfold dVar; rw [h]
end PD
end
section
namespace G
open LamX PySem PySem.Spec PyProof.Rows L2 Evl PD
def top (i : Nat) : Stmt := PySem.Challenge.pw_chairmarks_k16_whole_greatest_rests.main.body.getD i (.Pass ⟨0, 0, 0, 0⟩)
/-- what the top has written -/
structure Tx (K : PySem.W.Frag) (mg : Str → Option Value) where
  a_is_int : Addr
  d_is_int : FuncData
  F_is_int : Fun K "is_int" "is_int" (top 6) a_is_int d_is_int
  g_is_int : mg "is_int" = some (.ref a_is_int)
  a_is_within : Addr
  d_is_within : FuncData
  F_is_within : Fun K "is_within" "is_within" (top 7) a_is_within d_is_within
  g_is_within : mg "is_within" = some (.ref a_is_within)
  a_check_size : Addr
  d_check_size : FuncData
  F_check_size : Fun K "check_size" "check_size" (top 8) a_check_size d_check_size
  g_check_size : mg "check_size" = some (.ref a_check_size)
  a_is_votes : Addr
  d_is_votes : FuncData
  F_is_votes : Fun K "is_votes" "is_votes" (top 12) a_is_votes d_is_votes
  g_is_votes : mg "is_votes" = some (.ref a_is_votes)
  a_check_votes : Addr
  d_check_votes : FuncData
  F_check_votes : Fun K "check_votes" "check_votes" (top 13) a_check_votes d_check_votes
  g_check_votes : mg "check_votes" = some (.ref a_check_votes)
  a_rests_deal : Addr
  d_rests_deal : FuncData
  F_rests_deal : Fun K "rests_deal" "rests_deal" (top 15) a_rests_deal d_rests_deal
  g_rests_deal : mg "rests_deal" = some (.ref a_rests_deal)
  a_deal_rests : Addr
  d_deal_rests : FuncData
  F_deal_rests : Fun K "deal_rests" "deal_rests" (top 16) a_deal_rests d_deal_rests
  g_deal_rests : mg "deal_rests" = some (.ref a_deal_rests)
  a__law_hand : Addr
  d__law_hand : FuncData
  F__law_hand : Fun K "_law_hand" "_law_hand" (top 18) a__law_hand d__law_hand
  g__law_hand : mg "_law_hand" = some (.ref a__law_hand)
  a__law_draw : Addr
  d__law_draw : FuncData
  F__law_draw : Fun K "_law_draw" "_law_draw" (top 19) a__law_draw d__law_draw
  g__law_draw : mg "_law_draw" = some (.ref a__law_draw)
  a__law_any : Addr
  d__law_any : FuncData
  F__law_any : Fun K "_law_any" "_law_any" (top 20) a__law_any d__law_any
  g__law_any : mg "_law_any" = some (.ref a__law_any)
  a__law_votes : Addr
  d__law_votes : FuncData
  F__law_votes : Fun K "_law_votes" "_law_votes" (top 21) a__law_votes d__law_votes
  g__law_votes : mg "_law_votes" = some (.ref a__law_votes)
  a__law_deal : Addr
  d__law_deal : FuncData
  F__law_deal : Fun K "_law_deal" "_law_deal" (top 22) a__law_deal d__law_deal
  g__law_deal : mg "_law_deal" = some (.ref a__law_deal)
  a__law_mixed : Addr
  d__law_mixed : FuncData
  F__law_mixed : Fun K "_law_mixed" "_law_mixed" (top 23) a__law_mixed d__law_mixed
  g__law_mixed : mg "_law_mixed" = some (.ref a__law_mixed)
  a__law_votes_right : Addr
  d__law_votes_right : FuncData
  F__law_votes_right : Fun K "_law_votes_right" "_law_votes_right" (top 24) a__law_votes_right d__law_votes_right
  g__law_votes_right : mg "_law_votes_right" = some (.ref a__law_votes_right)
  a__law_said : Addr
  d__law_said : FuncData
  F__law_said : Fun K "_law_said" "_law_said" (top 25) a__law_said d__law_said
  g__law_said : mg "_law_said" = some (.ref a__law_said)
  a__law_two_said : Addr
  d__law_two_said : FuncData
  F__law_two_said : Fun K "_law_two_said" "_law_two_said" (top 27) a__law_two_said d__law_two_said
  g__law_two_said : mg "_law_two_said" = some (.ref a__law_two_said)
  a__law_refused_right : Addr
  d__law_refused_right : FuncData
  F__law_refused_right : Fun K "_law_refused_right" "_law_refused_right" (top 26) a__law_refused_right d__law_refused_right
  g__law_refused_right : mg "_law_refused_right" = some (.ref a__law_refused_right)
  a_law : Addr
  d_law : FuncData
  F_law : Fun K "law" "law" (top 28) a_law d_law
  g_law : mg "law" = some (.ref a_law)
  k_MOST_SIZE : Tok
  c_MOST_SIZE : mg "MOST_SIZE" = some (.int 1000000000000000000000000000000 k_MOST_SIZE)
  k_MOST_PARTIES : Tok
  c_MOST_PARTIES : mg "MOST_PARTIES" = some (.int 200 k_MOST_PARTIES)
  k_MOST_VOTES : Tok
  c_MOST_VOTES : mg "MOST_VOTES" = some (.int 1000000000000000 k_MOST_VOTES)
  n_abs : mg "abs" = none
  n_all : mg "all" = none
  n_any : mg "any" = none
  n_bool : mg "bool" = none
  n_enumerate : mg "enumerate" = none
  n_int : mg "int" = none
  n_isinstance : mg "isinstance" = none
  n_len : mg "len" = none
  n_range : mg "range" = none
  n_repr : mg "repr" = none
  n_sorted : mg "sorted" = none
  n_sum : mg "sum" = none
  n_tuple : mg "tuple" = none
  n_zip : mg "zip" = none
  e_BadVotes : Addr
  g_BadVotes : mg "BadVotes" = some (.ref e_BadVotes)
  k_BadVotes : PySem.W.keepIn K (.ref e_BadVotes) = true
  q_BadVotes : PySem.W.excIn K e_BadVotes He.veBase "ValueError.__new__" = true
  s_BadVotes : PySem.W.subIn K (.ref e_BadVotes) (.type "BaseException") = some true
  y_BadVotes : PySem.W.typeIn K (.ref e_BadVotes) = some (.type "type")
  e_NoSize : Addr
  g_NoSize : mg "NoSize" = some (.ref e_NoSize)
  k_NoSize : PySem.W.keepIn K (.ref e_NoSize) = true
  q_NoSize : PySem.W.excIn K e_NoSize He.veBase "ValueError.__new__" = true
  s_NoSize : PySem.W.subIn K (.ref e_NoSize) (.type "BaseException") = some true
  y_NoSize : PySem.W.typeIn K (.ref e_NoSize) = some (.type "type")
  c__law_two_said : Addr
  P__law_two_said : Addr
  H__law_two_said : FunC K "_law_two_said" (top 27) a__law_two_said d__law_two_said c__law_two_said
  e_ChairError : Addr
  g_ChairError : mg "ChairError" = some (.ref e_ChairError)
  n_ValueError : mg "ValueError" = none
  x_BadVotes : ExcC K e_BadVotes
  m_BadVotes : PySem.W.exmOne K (.ref e_BadVotes) (.ref e_ChairError) = some true
  x_NoSize : ExcC K e_NoSize
  m_NoSize : PySem.W.exmOne K (.ref e_NoSize) (.ref e_ChairError) = some true
  i_BadVotes_BadVotes : PySem.W.kitOne K (.ref e_BadVotes) (.ref e_BadVotes) = some true
  i_BadVotes_NoSize : PySem.W.kitOne K (.ref e_BadVotes) (.ref e_NoSize) = some false
  i_BadVotes_ValueError : PySem.W.kitOne K (.ref e_BadVotes) (.type "ValueError") = some true
  i_NoSize_BadVotes : PySem.W.kitOne K (.ref e_NoSize) (.ref e_BadVotes) = some false
  i_NoSize_NoSize : PySem.W.kitOne K (.ref e_NoSize) (.ref e_NoSize) = some true
  i_NoSize_ValueError : PySem.W.kitOne K (.ref e_NoSize) (.type "ValueError") = some true
  nd : (([(P__law_two_said, "_law_two_said.<locals>.<lambda>")] : List (Addr × Str)).map (·.1)).Nodup
abbrev Tx.T {K mg} (t : Tx K mg) : List (Addr × Str) := [(t.P__law_two_said, "_law_two_said.<locals>.<lambda>")]
abbrev Tx.cs {K mg} (t : Tx K mg) : List (Addr × Addr) := [(t.c__law_two_said, t.P__law_two_said)]
def Tx.ca {K mg} (t : Tx K mg) : Nat → Addr := fun n => [t.e_BadVotes, t.e_NoSize].getD n 0
noncomputable section
variable {P : Program} {w : World} {K : PySem.W.Frag} {mg : Str → Option Value} {base : Heap}
/-! ### is_int -/
abbrev s_is_int : Stmt := top 6
abbrev N_is_int : List Str := ["thing"]
theorem sc_is_int : FnScope N_is_int ["thing"] (defScope s_is_int) := ⟨rfl, rfl, rfl, by decide +kernel, rfl, by decide +kernel, by decide +kernel⟩
theorem b_is_int (t : Tx K mg) : Binds K t.d_is_int ["thing"] [] := t.F_is_int.binds (ps := ["thing"]) fun _ _ _ _ _ _ us hl => match us, hl with | [_], _ => rfl
def B_is_int : SemS := (sRet (dAndV (d1 (isD "int") (oVal (dVar 0))) (dNotV (d1 (isD "bool") (oVal (dVar 0))))))
def F_is_int : Fn := runF N_is_int.length B_is_int
theorem ok_is_int (t : Tx K mg) : FnOk P w K mg base (L2.CX P w) 1 t.a_is_int t.d_is_int ["thing"] (spD K t.T t.ca 1 F_is_int) :=
  fn_D (k := 0) t.F_is_int sc_is_int (by decide) fun cdv A outer s H E hr =>
    (ds_one (ds_ret (de_and (de_isi rfl (do_val (de_var (pe_var (i := 0) rfl (by first | exact .inl rfl | exact .inr (.inl rfl) | exact .inr (.inr rfl))))) rfl rfl t.n_isinstance rfl t.n_int rfl) (de_one (de_not (de_isi rfl (do_val (de_var (pe_var (i := 0) rfl (by first | exact .inl rfl | exact .inr (.inl rfl) | exact .inr (.inr rfl))))) rfl rfl t.n_isinstance rfl t.n_bool rfl))))))
/-! ### is_within -/
abbrev s_is_within : Stmt := top 7
abbrev N_is_within : List Str := ["thing", "least", "greatest"]
theorem sc_is_within : FnScope N_is_within ["thing", "least", "greatest"] (defScope s_is_within) := ⟨rfl, rfl, rfl, by decide +kernel, rfl, by decide +kernel, by decide +kernel⟩
theorem b_is_within (t : Tx K mg) : Binds K t.d_is_within ["thing", "least", "greatest"] [] := t.F_is_within.binds (ps := ["thing", "least", "greatest"]) fun _ _ _ _ _ _ us hl => match us, hl with | [_, _, _], _ => rfl
def B_is_within : SemS := (sRet (dAndV (rvE (dCall 1 F_is_int (aCons (oVal (dVar 0)) aNil))) (dChain pLe pLe (oVal (dVar 1)) (oVal (dVar 0)) (oVal (dVar 2)))))
def F_is_within : Fn := runF N_is_within.length B_is_within
theorem ok_is_within (t : Tx K mg) : FnOk P w K mg base (L2.CX P w) 2 t.a_is_within t.d_is_within ["thing", "least", "greatest"] (spD K t.T t.ca 3 F_is_within) :=
  fn_D (k := 1) t.F_is_within sc_is_within (by decide) fun cdv A outer s H E hr =>
    (ds_one (ds_ret (de_and (de_ofV (dv_call (ok_is_int t) (hr.mono (by decide)) rfl t.g_is_int t.F_is_int.kp (b_is_int t) (passes_call (takes_of rfl rfl rfl rfl) fun _ _ _ _ h => h) (da_cons (do_val (de_var (pe_var (i := 0) rfl (by first | exact .inl rfl | exact .inr (.inl rfl) | exact .inr (.inr rfl))))) da_nil))) (de_one (de_chain op_le op_le r_le r_le (do_val (de_var (pe_var (i := 1) rfl (by first | exact .inl rfl | exact .inr (.inl rfl) | exact .inr (.inr rfl))))) (do_val (de_var (pe_var (i := 0) rfl (by first | exact .inl rfl | exact .inr (.inl rfl) | exact .inr (.inr rfl))))) (do_val (de_var (pe_var (i := 2) rfl (by first | exact .inl rfl | exact .inr (.inl rfl) | exact .inr (.inr rfl))))))))))
/-! ### check_size -/
abbrev s_check_size : Stmt := top 8
abbrev N_check_size : List Str := ["size"]
theorem sc_check_size : FnScope N_check_size ["size"] (defScope s_check_size) := ⟨rfl, rfl, rfl, by decide +kernel, rfl, by decide +kernel, by decide +kernel⟩
theorem b_check_size (t : Tx K mg) : Binds K t.d_check_size ["size"] [] := t.F_check_size.binds (ps := ["size"]) fun _ _ _ _ _ _ us hl => match us, hl with | [_], _ => rfl
def B_check_size : SemS := (sIf (dNot (dB (rvE (dCall 3 F_is_within (aCons (oVal (dVar 0)) (aCons (oVal (dC (.int 0))) (aCons (oVal (dC (.int 1000000000000000000000000000000))) aNil))))))) (sExc 1) sNext)
def F_check_size : Fn := runF N_check_size.length B_check_size
theorem ok_check_size (t : Tx K mg) : FnOk P w K mg base (L2.CX P w) 3 t.a_check_size t.d_check_size ["size"] (spD K t.T t.ca 1 F_check_size) :=
  fn_D (k := 2) t.F_check_size sc_check_size (by decide) fun cdv A outer s H E hr =>
    (ds_one (ds_if (dt_not (dt_val (de_ofV (dv_call (ok_is_within t) (hr.mono (by decide)) rfl t.g_is_within t.F_is_within.kp (b_is_within t) (passes_call (takes_of rfl rfl rfl rfl) fun _ _ _ _ h => h) (da_cons (do_val (de_var (pe_var (i := 0) rfl (by first | exact .inl rfl | exact .inr (.inl rfl) | exact .inr (.inr rfl))))) (da_cons (do_val de_int) (da_cons (do_val (de_globI rfl t.c_MOST_SIZE)) da_nil))))))) (ds_one (ds_raise0 rfl (takes_of rfl rfl rfl rfl) PySem.F.excBase_ValueError t.q_NoSize t.g_NoSize t.k_NoSize (raises_own t.s_NoSize t.y_NoSize) rfl rfl)) ds_nil))
/-! ### is_votes -/
abbrev s_is_votes : Stmt := top 12
abbrev N_is_votes : List Str := ["thing", "one"]
theorem sc_is_votes : FnScope N_is_votes ["thing"] (defScope s_is_votes) := ⟨rfl, rfl, rfl, by decide +kernel, rfl, by decide +kernel, by decide +kernel⟩
theorem b_is_votes (t : Tx K mg) : Binds K t.d_is_votes ["thing"] [] := t.F_is_votes.binds (ps := ["thing"]) fun _ _ _ _ _ _ us hl => match us, hl with | [_], _ => rfl
def B_is_votes : SemS := (sSeq (sIf (dOr (dNot (dB (d1 (isD "tuple") (oVal (dVar 0))))) (dNot (dB (dChain pLe pLe (oVal (dC (.int 1))) (oVal (dA pLen (aCons (oVal (dVar 0)) aNil))) (oVal (dC (.int 200))))))) (sRet (dC (.bool false))) sNext)
  (sRet (dAndV (dA pAll (aCons (oVal (dFrz (dLc (itA seq1 (it1 (oVal (dVar 0)))) ([1] : List Nat) (tgN 1) dYes (rvE (dCall 3 F_is_within (aCons (oVal (dVar 1)) (aCons (oVal (dC (.int 0))) (aCons (oVal (dC (.int 1000000000000000))) aNil)))))))) aNil)) (dA pAny (aCons (oVal (dFrz (dLc (itA seq1 (it1 (oVal (dVar 0)))) ([1] : List Nat) (tgN 1) dYes (d2 pGt (oVal (dVar 1)) (oVal (dC (.int 0))))))) aNil)))))
def F_is_votes : Fn := runF N_is_votes.length B_is_votes
theorem ok_is_votes (t : Tx K mg) : FnOk P w K mg base (L2.CX P w) 3 t.a_is_votes t.d_is_votes ["thing"] (spD K t.T t.ca 1 F_is_votes) :=
  fn_D (k := 2) t.F_is_votes sc_is_votes (by decide) fun cdv A outer s H E hr =>
    (ds_cons (ds_if (PW.pt (dw_or (dt_not (dt_val (de_isi rfl (do_val (de_var (pe_var (i := 0) rfl (by first | exact .inl rfl | exact .inr (.inl rfl) | exact .inr (.inr rfl))))) rfl rfl t.n_isinstance rfl t.n_tuple rfl))) (dw_1or (dt_not (dt_chain op_le op_le r_le r_le (do_val de_int) (do_val (de_callB (cr_lenA) r_len rfl t.n_len rfl (da_cons (do_val (de_var (pe_var (i := 0) rfl (by first | exact .inl rfl | exact .inr (.inl rfl) | exact .inr (.inr rfl))))) da_nil))) (do_val (de_globI rfl t.c_MOST_PARTIES))))))) (ds_one (ds_ret de_bl)) ds_nil)
    (ds_one (ds_ret (de_and (de_callB (cr_all rfl) r_all rfl t.n_all rfl (da_cons (do_val (de_frz (dn_lc (own := [("one", 1)]) rfl sc_is_votes.nd (di_seq rfl (do_val (de_var (pe_var (i := 0) rfl (by first | exact .inl rfl | exact .inr (.inl rfl) | exact .inr (.inr rfl)))))) (blkOk_by (sc := defScope s_is_votes) (N := N_is_votes) (by decide +kernel)) (fun _ _ _ _ _ => (dg_name (pg_name (i := 1) sc_is_votes.nd rfl (by first | exact .inl rfl | exact .inr rfl)))) (fun _ _ _ _ _ => dts_nil) (fun _ _ _ _ _ => (de_ofV (dv_call (ok_is_within t) (hr.mono (by decide)) rfl t.g_is_within t.F_is_within.kp (b_is_within t) passL (da_cons (do_val (de_var (pe_var (i := 1) rfl (by first | exact .inl rfl | exact .inr (.inl rfl) | exact .inr (.inr rfl))))) (da_cons (do_val de_int) (da_cons (do_val (de_globI rfl t.c_MOST_VOTES)) da_nil)))))) (by decide)))) da_nil)) (de_one (de_callB (cr_any rfl) r_any rfl t.n_any rfl (da_cons (do_val (de_frz (dn_lc (own := [("one", 1)]) rfl sc_is_votes.nd (di_seq rfl (do_val (de_var (pe_var (i := 0) rfl (by first | exact .inl rfl | exact .inr (.inl rfl) | exact .inr (.inr rfl)))))) (blkOk_by (sc := defScope s_is_votes) (N := N_is_votes) (by decide +kernel)) (fun _ _ _ _ _ => (dg_name (pg_name (i := 1) sc_is_votes.nd rfl (by first | exact .inl rfl | exact .inr rfl)))) (fun _ _ _ _ _ => dts_nil) (fun _ _ _ _ _ => (de_cmp op_gt r_gt (do_val (de_var (pe_var (i := 1) rfl (by first | exact .inl rfl | exact .inr (.inl rfl) | exact .inr (.inr rfl))))) (do_val de_int) (nomark _))) (by decide)))) da_nil)))))))
/-! ### check_votes -/
abbrev s_check_votes : Stmt := top 13
abbrev N_check_votes : List Str := ["votes"]
theorem sc_check_votes : FnScope N_check_votes ["votes"] (defScope s_check_votes) := ⟨rfl, rfl, rfl, by decide +kernel, rfl, by decide +kernel, by decide +kernel⟩
theorem b_check_votes (t : Tx K mg) : Binds K t.d_check_votes ["votes"] [] := t.F_check_votes.binds (ps := ["votes"]) fun _ _ _ _ _ _ us hl => match us, hl with | [_], _ => rfl
def B_check_votes : SemS := (sIf (dNot (dB (rvE (dCall 1 F_is_votes (aCons (oVal (dVar 0)) aNil))))) (sExc 0) sNext)
def F_check_votes : Fn := runF N_check_votes.length B_check_votes
theorem ok_check_votes (t : Tx K mg) : FnOk P w K mg base (L2.CX P w) 4 t.a_check_votes t.d_check_votes ["votes"] (spD K t.T t.ca 1 F_check_votes) :=
  fn_D (k := 3) t.F_check_votes sc_check_votes (by decide) fun cdv A outer s H E hr =>
    (ds_one (ds_if (dt_not (dt_val (de_ofV (dv_call (ok_is_votes t) (hr.mono (by decide)) rfl t.g_is_votes t.F_is_votes.kp (b_is_votes t) (passes_call (takes_of rfl rfl rfl rfl) fun _ _ _ _ h => h) (da_cons (do_val (de_var (pe_var (i := 0) rfl (by first | exact .inl rfl | exact .inr (.inl rfl) | exact .inr (.inr rfl))))) da_nil))))) (ds_one (ds_raise0 rfl (takes_of rfl rfl rfl rfl) PySem.F.excBase_ValueError t.q_BadVotes t.g_BadVotes t.k_BadVotes (raises_own t.s_BadVotes t.y_BadVotes) rfl rfl)) ds_nil))
/-! ### rests_deal -/
abbrev s_rests_deal : Stmt := top 15
abbrev N_rests_deal : List Str := ["votes", "size", "whole", "sure", "rests", "left", "last", "tied", "party", "rest", "one", "many"]
theorem sc_rests_deal : FnScope N_rests_deal ["votes", "size"] (defScope s_rests_deal) := ⟨rfl, rfl, rfl, by decide +kernel, rfl, by decide +kernel, by decide +kernel⟩
theorem b_rests_deal (t : Tx K mg) : Binds K t.d_rests_deal ["votes", "size"] [] := t.F_rests_deal.binds (ps := ["votes", "size"]) fun _ _ _ _ _ _ us hl => match us, hl with | [_, _], _ => rfl
def B_rests_deal : SemS := (sSeq (sAsg (dA pSum (aCons (oVal (dVar 0)) aNil)) (tgN 2))
  (sSeq (sOwn (dLc (itA seq1 (it1 (oVal (dVar 0)))) ([10] : List Nat) (tgN 10) dYes (d2 pFdiv (oVal (d2 pMulA (oVal (dVar 10)) (oVal (dVar 1)))) (oVal (dVar 2)))) 3)
  (sSeq (sAsg (dFrz (dLc (itA zip2 (aCons (oVal (dVar 0)) (aCons (oAny 3) aNil))) ([10, 11] : List Nat) (tgT 2 (tgCons (tgN 10) (tgCons (tgN 11) tgNil))) dYes (d2 pSub (oVal (d2 pMulA (oVal (dVar 10)) (oVal (dVar 1)))) (oVal (d2 pMulA (oVal (dVar 11)) (oVal (dVar 2))))))) (tgN 4))
  (sSeq (sAsg (d2 pSub (oVal (dVar 1)) (oVal (dA pSum (aCons (oAny 3) aNil)))) (tgN 5))
  (sSeq (sIf (dB (d2 pEq (oVal (dVar 5)) (oVal (dC (.int 0))))) (sRet (dTup (aCons (oVal (dA pTuple (aCons (oAny 3) aNil))) (aCons (oVal (dTup aNil)) (aCons (oVal (dC (.int 0))) aNil))))) sNext)
  (sSeq (sAsg (d2 pIx (oVal (dFrz (d1 revP (oVal (dFrz (dA pSorted (aCons (oVal (dVar 4)) aNil))))))) (oVal (d2 pSub (oVal (dVar 5)) (oVal (dC (.int 1)))))) (tgN 6))
  (sSeq (sAsg (dA pTuple (aCons (oVal (dFrz (dLc (itA enum1 (aCons (oVal (dVar 4)) aNil)) ([8, 9] : List Nat) (tgT 2 (tgCons (tgN 8) (tgCons (tgN 9) tgNil))) (dB (d2 pEq (oVal (dVar 9)) (oVal (dVar 6)))) (dVar 8)))) aNil)) (tgN 7))
  (sSeq (sFor (itA enum1 (aCons (oVal (dVar 4)) aNil)) (tgT 2 (tgCons (tgN 8) (tgCons (tgN 9) tgNil))) (sIf (dB (d2 pGt (oVal (dVar 9)) (oVal (dVar 6)))) (sSeq (sAugIx 3 pAdd (dVar 8) (dC (.int 1)))
  (sAug 5 pSub (dC (.int 1)))) sNext))
  (sSeq (sIf (dB (d2 pLt (oVal (dVar 5)) (oVal (dA pLen (aCons (oVal (dVar 7)) aNil))))) (sRet (dTup (aCons (oVal (dA pTuple (aCons (oAny 3) aNil))) (aCons (oVal (dVar 7)) (aCons (oVal (dVar 5)) aNil))))) sNext)
  (sRet (dTup (aCons (oVal (dA pTuple (aCons (oVal (dFrz (dLc (itA enum1 (aCons (oAny 3) aNil)) ([8, 11] : List Nat) (tgT 2 (tgCons (tgN 8) (tgCons (tgN 11) tgNil))) dYes (d2 pAddA (oVal (dVar 11)) (oVal (dIf (dB (d2 pIn (oVal (dVar 8)) (oVal (dVar 7)))) (dC (.int 1)) (dC (.int 0)))))))) aNil))) (aCons (oVal (dTup aNil)) (aCons (oVal (dC (.int 0))) aNil))))))))))))))
def F_rests_deal : Fn := runF N_rests_deal.length B_rests_deal
theorem ok_rests_deal (t : Tx K mg) : FnOk P w K mg base (L2.CX P w) 1 t.a_rests_deal t.d_rests_deal ["votes", "size"] (spD K t.T t.ca 2 F_rests_deal) :=
  fn_D (k := 0) t.F_rests_deal sc_rests_deal (by decide) fun cdv A outer s H E hr =>
    (ds_cons (ds_set (i := 2) sc_rests_deal.nd rfl (by first | exact .inl rfl | exact .inr rfl) (de_callB (cr_sumA rfl) r_sum rfl t.n_sum rfl (da_cons (do_val (de_var (pe_var (i := 0) rfl (by first | exact .inl rfl | exact .inr (.inl rfl) | exact .inr (.inr rfl))))) da_nil)))
    (ds_cons (ds_ownLc (own := [("one", 10)]) (i := 3) rfl sc_rests_deal.nd rfl rfl rfl (di_seq rfl (do_val (de_var (pe_var (i := 0) rfl (by first | exact .inl rfl | exact .inr (.inl rfl) | exact .inr (.inr rfl)))))) (blkOk_by (sc := defScope s_rests_deal) (N := N_rests_deal) (by decide +kernel)) (fun _ _ _ _ _ => (dg_name (pg_name (i := 10) sc_rests_deal.nd rfl (by first | exact .inl rfl | exact .inr rfl)))) (fun _ _ _ _ _ => dts_nil) (fun _ _ _ _ _ => (de_op op_fdivW r_fdiv (do_val (de_op op_mulB r_mulB (do_val (de_var (pe_var (i := 10) rfl (by first | exact .inl rfl | exact .inr (.inl rfl) | exact .inr (.inr rfl))))) (do_val (de_var (pe_var (i := 1) rfl (by first | exact .inl rfl | exact .inr (.inl rfl) | exact .inr (.inr rfl))))))) (do_val (de_var (pe_var (i := 2) rfl (by first | exact .inl rfl | exact .inr (.inl rfl) | exact .inr (.inr rfl))))))) (by decide))
    (ds_cons (ds_setLc (own := [("one", 10), ("many", 11)]) (i := 4) rfl sc_rests_deal.nd rfl rfl rfl (di_zip rfl rfl t.n_zip (da_cons (do_val (de_var (pe_var (i := 0) rfl (by first | exact .inl rfl | exact .inr (.inl rfl) | exact .inr (.inr rfl))))) (da_cons (do_any (pe_var (i := 3) rfl (by first | exact .inl rfl | exact .inr (.inl rfl) | exact .inr (.inr rfl)))) da_nil))) (blkOk_by (sc := defScope s_rests_deal) (N := N_rests_deal) (by decide +kernel)) (fun _ _ _ _ _ => (dg_tup rfl rfl (dgs_cons (dg_name (pg_name (i := 10) sc_rests_deal.nd rfl (by first | exact .inl rfl | exact .inr rfl))) (dgs_cons (dg_name (pg_name (i := 11) sc_rests_deal.nd rfl (by first | exact .inl rfl | exact .inr rfl))) dgs_nil)))) (fun _ _ _ _ _ => dts_nil) (fun _ _ _ _ _ => (de_op op_sub r_sub (do_val (de_op op_mulB r_mulB (do_val (de_var (pe_var (i := 10) rfl (by first | exact .inl rfl | exact .inr (.inl rfl) | exact .inr (.inr rfl))))) (do_val (de_var (pe_var (i := 1) rfl (by first | exact .inl rfl | exact .inr (.inl rfl) | exact .inr (.inr rfl))))))) (do_val (de_op op_mulB r_mulB (do_val (de_var (pe_var (i := 11) rfl (by first | exact .inl rfl | exact .inr (.inl rfl) | exact .inr (.inr rfl))))) (do_val (de_var (pe_var (i := 2) rfl (by first | exact .inl rfl | exact .inr (.inl rfl) | exact .inr (.inr rfl))))))))) (by decide))
    (ds_cons (ds_set (i := 5) sc_rests_deal.nd rfl (by first | exact .inl rfl | exact .inr rfl) (de_op op_sub r_sub (do_val (de_var (pe_var (i := 1) rfl (by first | exact .inl rfl | exact .inr (.inl rfl) | exact .inr (.inr rfl))))) (do_val (de_callB (cr_sumA rfl) r_sum rfl t.n_sum rfl (da_cons (do_any (pe_var (i := 3) rfl (by first | exact .inl rfl | exact .inr (.inl rfl) | exact .inr (.inr rfl)))) da_nil)))))
    (ds_cons (ds_if (dt_cmp (op_eqD hr.units) r_eq (do_val (de_var (pe_var (i := 5) rfl (by first | exact .inl rfl | exact .inr (.inl rfl) | exact .inr (.inr rfl))))) (do_val de_int) (nomark _)) (ds_one (ds_ret (de_tup (da_cons (do_val (de_callT (call_tuple_of) r_tuple rfl t.n_tuple rfl (da_cons (do_any (pe_var (i := 3) rfl (by first | exact .inl rfl | exact .inr (.inl rfl) | exact .inr (.inr rfl)))) da_nil))) (da_cons (do_val (de_tup da_nil)) (da_cons (do_val de_int) da_nil)))))) ds_nil)
    (ds_cons (ds_set (i := 6) sc_rests_deal.nd rfl (by first | exact .inl rfl | exact .inr rfl) (de_ix ix_two r_ix (do_val (de_frz (dn_rev (do_val (de_frz (dn_callB (cr_sortedI) r_sorted rfl t.n_sorted rfl (da_cons (do_val (de_var (pe_var (i := 4) rfl (by first | exact .inl rfl | exact .inr (.inl rfl) | exact .inr (.inr rfl))))) da_nil))))))) (do_val (de_op op_sub r_sub (do_val (de_var (pe_var (i := 5) rfl (by first | exact .inl rfl | exact .inr (.inl rfl) | exact .inr (.inr rfl))))) (do_val de_int))) (fun _ _ => rfl)))
    (ds_cons (ds_set (i := 7) sc_rests_deal.nd rfl (by first | exact .inl rfl | exact .inr rfl) (de_callT (call_tuple_of) r_tuple rfl t.n_tuple rfl (da_cons (do_val (de_frz (dn_lc (own := [("party", 8), ("rest", 9)]) rfl sc_rests_deal.nd (di_enum rfl rfl t.n_enumerate (da_cons (do_val (de_var (pe_var (i := 4) rfl (by first | exact .inl rfl | exact .inr (.inl rfl) | exact .inr (.inr rfl))))) da_nil)) (blkOk_by (sc := defScope s_rests_deal) (N := N_rests_deal) (by decide +kernel)) (fun _ _ _ _ _ => (dg_tup rfl rfl (dgs_cons (dg_name (pg_name (i := 8) sc_rests_deal.nd rfl (by first | exact .inl rfl | exact .inr rfl))) (dgs_cons (dg_name (pg_name (i := 9) sc_rests_deal.nd rfl (by first | exact .inl rfl | exact .inr rfl))) dgs_nil)))) (fun _ _ _ _ _ => (dts_one (dt_cmp (op_eqD hr.units) r_eq (do_val (de_var (pe_var (i := 9) rfl (by first | exact .inl rfl | exact .inr (.inl rfl) | exact .inr (.inr rfl))))) (do_val (de_var (pe_var (i := 6) rfl (by first | exact .inl rfl | exact .inr (.inl rfl) | exact .inr (.inr rfl))))) (nomark _)))) (fun _ _ _ _ _ => (de_var (pe_var (i := 8) rfl (by first | exact .inl rfl | exact .inr (.inl rfl) | exact .inr (.inr rfl))))) (by decide)))) da_nil)))
    (ds_cons (ds_for (passes_of rfl) rfl (di_enum rfl rfl t.n_enumerate (da_cons (do_val (de_var (pe_var (i := 4) rfl (by first | exact .inl rfl | exact .inr (.inl rfl) | exact .inr (.inr rfl))))) da_nil)) (dg_tup rfl rfl (dgs_cons (dg_name (pg_name (i := 8) sc_rests_deal.nd rfl (by first | exact .inl rfl | exact .inr rfl))) (dgs_cons (dg_name (pg_name (i := 9) sc_rests_deal.nd rfl (by first | exact .inl rfl | exact .inr rfl))) dgs_nil))) (ds_one (ds_if (dt_cmp op_gt r_gt (do_val (de_var (pe_var (i := 9) rfl (by first | exact .inl rfl | exact .inr (.inl rfl) | exact .inr (.inr rfl))))) (do_val (de_var (pe_var (i := 6) rfl (by first | exact .inl rfl | exact .inr (.inl rfl) | exact .inr (.inr rfl))))) (nomark _)) (ds_cons (ds_augIx rfl (pe_var (i := 3) rfl (by first | exact .inl rfl | exact .inr (.inl rfl) | exact .inr (.inr rfl))) (de_var (pe_var (i := 8) rfl (by first | exact .inl rfl | exact .inr (.inl rfl) | exact .inr (.inr rfl)))) de_int ip_add r_ipadd)
    (ds_one (ds_aug (i := 5) sc_rests_deal.nd rfl (by first | exact .inl rfl | exact .inr rfl) de_int ip_sub r_ipsub))) ds_nil)))
    (ds_cons (ds_if (dt_cmp op_lt r_lt (do_val (de_var (pe_var (i := 5) rfl (by first | exact .inl rfl | exact .inr (.inl rfl) | exact .inr (.inr rfl))))) (do_val (de_callB (cr_lenA) r_len rfl t.n_len rfl (da_cons (do_val (de_var (pe_var (i := 7) rfl (by first | exact .inl rfl | exact .inr (.inl rfl) | exact .inr (.inr rfl))))) da_nil))) (nomark _)) (ds_one (ds_ret (de_tup (da_cons (do_val (de_callT (call_tuple_of) r_tuple rfl t.n_tuple rfl (da_cons (do_any (pe_var (i := 3) rfl (by first | exact .inl rfl | exact .inr (.inl rfl) | exact .inr (.inr rfl)))) da_nil))) (da_cons (do_val (de_var (pe_var (i := 7) rfl (by first | exact .inl rfl | exact .inr (.inl rfl) | exact .inr (.inr rfl))))) (da_cons (do_val (de_var (pe_var (i := 5) rfl (by first | exact .inl rfl | exact .inr (.inl rfl) | exact .inr (.inr rfl))))) da_nil)))))) ds_nil)
    (ds_one (ds_ret (de_tup (da_cons (do_val (de_callT (call_tuple_of) r_tuple rfl t.n_tuple rfl (da_cons (do_val (de_frz (dn_lc (own := [("party", 8), ("many", 11)]) rfl sc_rests_deal.nd (di_enum rfl rfl t.n_enumerate (da_cons (do_any (pe_var (i := 3) rfl (by first | exact .inl rfl | exact .inr (.inl rfl) | exact .inr (.inr rfl)))) da_nil)) (blkOk_by (sc := defScope s_rests_deal) (N := N_rests_deal) (by decide +kernel)) (fun _ _ _ _ _ => (dg_tup rfl rfl (dgs_cons (dg_name (pg_name (i := 8) sc_rests_deal.nd rfl (by first | exact .inl rfl | exact .inr rfl))) (dgs_cons (dg_name (pg_name (i := 11) sc_rests_deal.nd rfl (by first | exact .inl rfl | exact .inr rfl))) dgs_nil)))) (fun _ _ _ _ _ => dts_nil) (fun _ _ _ _ _ => (de_op op_addA r_addA (do_val (de_var (pe_var (i := 11) rfl (by first | exact .inl rfl | exact .inr (.inl rfl) | exact .inr (.inr rfl))))) (do_val (de_if (dt_cmp (op_inA (hu65 hr)) r_in (do_val (de_var (pe_var (i := 8) rfl (by first | exact .inl rfl | exact .inr (.inl rfl) | exact .inr (.inr rfl))))) (do_val (de_var (pe_var (i := 7) rfl (by first | exact .inl rfl | exact .inr (.inl rfl) | exact .inr (.inr rfl))))) (by with_unfolding_all rfl)) de_int de_int)))) (by decide)))) da_nil))) (da_cons (do_val (de_tup da_nil)) (da_cons (do_val de_int) da_nil)))))))))))))))
/-! ### deal_rests -/
abbrev s_deal_rests : Stmt := top 16
abbrev N_deal_rests : List Str := ["votes", "size"]
theorem sc_deal_rests : FnScope N_deal_rests ["votes", "size"] (defScope s_deal_rests) := ⟨rfl, rfl, rfl, by decide +kernel, rfl, by decide +kernel, by decide +kernel⟩
theorem b_deal_rests (t : Tx K mg) : Binds K t.d_deal_rests ["votes", "size"] [] := t.F_deal_rests.binds (ps := ["votes", "size"]) fun _ _ _ _ _ _ us hl => match us, hl with | [_, _], _ => rfl
def B_deal_rests : SemS := (sSeq (sDrop (rvE (dCall 1 F_check_votes (aCons (oVal (dVar 0)) aNil))))
  (sSeq (sDrop (rvE (dCall 1 F_check_size (aCons (oVal (dVar 1)) aNil))))
  (sRetV (dCall 2 F_rests_deal (aCons (oVal (dVar 0)) (aCons (oVal (dVar 1)) aNil))))))
def F_deal_rests : Fn := runF N_deal_rests.length B_deal_rests
theorem ok_deal_rests (t : Tx K mg) : FnOk P w K mg base (L2.CX P w) 5 t.a_deal_rests t.d_deal_rests ["votes", "size"] (spD K t.T t.ca 2 F_deal_rests) :=
  fn_D (k := 4) t.F_deal_rests sc_deal_rests (by decide) fun cdv A outer s H E hr =>
    (ds_cons (ds_expr (de_ofV (dv_call (ok_check_votes t) (hr.mono (by decide)) rfl t.g_check_votes t.F_check_votes.kp (b_check_votes t) (passes_call (takes_of rfl rfl rfl rfl) fun _ _ _ _ h => h) (da_cons (do_val (de_var (pe_var (i := 0) rfl (by first | exact .inl rfl | exact .inr (.inl rfl) | exact .inr (.inr rfl))))) da_nil))))
    (ds_cons (ds_expr (de_ofV (dv_call (ok_check_size t) (hr.mono (by decide)) rfl t.g_check_size t.F_check_size.kp (b_check_size t) (passes_call (takes_of rfl rfl rfl rfl) fun _ _ _ _ h => h) (da_cons (do_val (de_var (pe_var (i := 1) rfl (by first | exact .inl rfl | exact .inr (.inl rfl) | exact .inr (.inr rfl))))) da_nil))))
    (ds_one (ds_retV (dv_call (ok_rests_deal t) (hr.mono (by decide)) rfl t.g_rests_deal t.F_rests_deal.kp (b_rests_deal t) (passes_call (takes_of rfl rfl rfl rfl) fun _ _ _ _ h => h) (da_cons (do_val (de_var (pe_var (i := 0) rfl (by first | exact .inl rfl | exact .inr (.inl rfl) | exact .inr (.inr rfl))))) (da_cons (do_val (de_var (pe_var (i := 1) rfl (by first | exact .inl rfl | exact .inr (.inl rfl) | exact .inr (.inr rfl))))) da_nil)))))))
/-! ### _law_hand -/
abbrev s__law_hand : Stmt := top 18
abbrev N__law_hand : List Str := ["script", "cells", "cell"]
theorem sc__law_hand : FnScope N__law_hand ["script"] (defScope s__law_hand) := ⟨rfl, rfl, rfl, by decide +kernel, rfl, by decide +kernel, by decide +kernel⟩
theorem b__law_hand (t : Tx K mg) : Binds K t.d__law_hand ["script"] [] := t.F__law_hand.binds (ps := ["script"]) fun _ _ _ _ _ _ us hl => match us, hl with | [_], _ => rfl
def B__law_hand : SemS := (sSeq (sAsg (dFrz (dLc (itA seq1 (it1 (oVal (dSl (oVal (dVar 0)) pNo (pSome (dC (.int 63))))))) ([2] : List Nat) (tgN 2) dYes (d2 pMod (oVal (dA pInt (aCons (oVal (dA pAbs (aCons (oVal (dA pInt (aCons (oVal (dVar 2)) aNil))) aNil))) aNil))) (oVal (d2 pPow (oVal (dC (.int 10))) (oVal (dC (.int 36)))))))) (tgN 1))
  (sRetL (dLst (aCons (oVal (dVar 1)) (aCons (oVal (dC (.int 0))) (aCons (oVal (dC (.int 0))) (aCons (oVal (d2 pAddA (oVal (dC (.int 16))) (oVal (d2 pMulA (oVal (dC (.int 5))) (oVal (dA pLen (aCons (oVal (dVar 1)) aNil))))))) (aCons (oVal (dC (.int 0))) aNil))))))))
def F__law_hand : Fn := runF N__law_hand.length B__law_hand
theorem ok__law_hand (t : Tx K mg) : FnOk P w K mg base (L2.CX P w) 1 t.a__law_hand t.d__law_hand ["script"] (spD K t.T t.ca 1 F__law_hand) :=
  fn_D (k := 0) t.F__law_hand sc__law_hand (by decide) fun cdv A outer s H E hr =>
    (ds_cons (ds_setLc (own := [("cell", 2)]) (i := 1) rfl sc__law_hand.nd rfl rfl rfl (di_seq rfl (do_val (de_slice rfl (do_val (de_var (pe_var (i := 0) rfl (by first | exact .inl rfl | exact .inr (.inl rfl) | exact .inr (.inr rfl))))) dp_none (dp_some de_int)))) (blkOk_by (sc := defScope s__law_hand) (N := N__law_hand) (by decide +kernel)) (fun _ _ _ _ _ => (dg_name (pg_name (i := 2) sc__law_hand.nd rfl (by first | exact .inl rfl | exact .inr rfl)))) (fun _ _ _ _ _ => dts_nil) (fun _ _ _ _ _ => (de_op op_mod r_mod (do_val (de_callT (call_int1) r_int rfl t.n_int rfl (da_cons (do_val (de_callB (call_abs) r_abs rfl t.n_abs rfl (da_cons (do_val (de_callT (call_int1) r_int rfl t.n_int rfl (da_cons (do_val (de_var (pe_var (i := 2) rfl (by first | exact .inl rfl | exact .inr (.inl rfl) | exact .inr (.inr rfl))))) da_nil))) da_nil))) da_nil))) (do_val (de_op op_pow r_pow (do_val de_int) (do_val de_int))))) (by decide))
    (ds_one (ds_retL (dn_lst (da_cons (do_val (de_var (pe_var (i := 1) rfl (by first | exact .inl rfl | exact .inr (.inl rfl) | exact .inr (.inr rfl))))) (da_cons (do_val de_int) (da_cons (do_val de_int) (da_cons (do_val (de_op op_addA r_addA (do_val de_int) (do_val (de_op op_mulB r_mulB (do_val de_int) (do_val (de_callB (cr_lenA) r_len rfl t.n_len rfl (da_cons (do_val (de_var (pe_var (i := 1) rfl (by first | exact .inl rfl | exact .inr (.inl rfl) | exact .inr (.inr rfl))))) da_nil))))))) (da_cons (do_val de_int) da_nil)))))))))
/-! ### _law_draw -/
abbrev s__law_draw : Stmt := top 19
abbrev N__law_draw : List Str := ["hand", "below", "cell", "digit", "number"]
theorem sc__law_draw : FnScope N__law_draw ["hand", "below"] (defScope s__law_draw) := ⟨rfl, rfl, rfl, by decide +kernel, rfl, by decide +kernel, by decide +kernel⟩
theorem b__law_draw (t : Tx K mg) : Binds K t.d__law_draw ["hand", "below"] [] := t.F__law_draw.binds (ps := ["hand", "below"]) fun _ _ _ _ _ _ us hl => match us, hl with | [_, _], _ => rfl
def B__law_draw : SemS := (sSeq (sIf (dAnd (dB (d2 pEq (oVal (d2 pIx (oAny 0) (oVal (dC (.int 2))))) (oVal (dC (.int 0))))) (dB (d2 pLt (oVal (d2 pIx (oAny 0) (oVal (dC (.int 1))))) (oVal (dA pLen (aCons (oVal (d2 pIx (oAny 0) (oVal (dC (.int 0))))) aNil)))))) (sSeq (sAsg (d2 pIx (oVal (d2 pIx (oAny 0) (oVal (dC (.int 0))))) (oVal (d2 pIx (oAny 0) (oVal (dC (.int 1)))))) (tgN 2))
  (sSeq (sSetIx 0 (dC (.int 1)) (d2 pAddA (oVal (d2 pIx (oAny 0) (oVal (dC (.int 1))))) (oVal (dC (.int 1)))))
  (sSeq (sSetIx 0 (dC (.int 3)) (d2 pMod (oVal (dA pInt (aCons (oVal (d2 pAddA (oVal (d2 pAddA (oVal (d2 pMulA (oVal (d2 pIx (oAny 0) (oVal (dC (.int 3))))) (oVal (dC (.int 69621))))) (oVal (d2 pMulA (oVal (dVar 2)) (oVal (dC (.int 40692))))))) (oVal (dC (.int 37))))) aNil))) (oVal (dC (.int 2147483629)))))
  (sIf (dB (d2 pGe (oVal (dVar 2)) (oVal (d2 pPow (oVal (dC (.int 10))) (oVal (dC (.int 18))))))) (sSetIx 0 (dC (.int 2)) (dVar 2)) sNext)))) sNext)
  (sSeq (sIf (dB (d2 pGt (oVal (d2 pIx (oAny 0) (oVal (dC (.int 2))))) (oVal (dC (.int 0))))) (sSeq (sAsg (d2 pMod (oVal (dA pInt (aCons (oVal (d2 pIx (oAny 0) (oVal (dC (.int 2))))) aNil))) (oVal (dVar 1))) (tgN 3))
  (sSeq (sSetIx 0 (dC (.int 2)) (d2 pFdiv (oVal (d2 pIx (oAny 0) (oVal (dC (.int 2))))) (oVal (dVar 1))))
  (sRet (dVar 3)))) sNext)
  (sSeq (sSetIx 0 (dC (.int 4)) (d2 pAddA (oVal (d2 pIx (oAny 0) (oVal (dC (.int 4))))) (oVal (dC (.int 1)))))
  (sSeq (sAsg (d2 pMod (oVal (dA pInt (aCons (oVal (d2 pMulA (oVal (dA pInt (aCons (oVal (d2 pAddA (oVal (d2 pIx (oAny 0) (oVal (dC (.int 3))))) (oVal (d2 pMulA (oVal (dC (.int 7919))) (oVal (d2 pIx (oAny 0) (oVal (dC (.int 4))))))))) aNil))) (oVal (dC (.int 48271))))) aNil))) (oVal (dC (.int 2147483647)))) (tgN 4))
  (sSeq (sAsg (d2 pMod (oVal (dA pInt (aCons (oVal (d2 pMulA (oVal (dVar 4)) (oVal (d2 pAddA (oVal (d2 pFdiv (oVal (dVar 4)) (oVal (dC (.int 1009))))) (oVal (dC (.int 69621))))))) aNil))) (oVal (dC (.int 2147483647)))) (tgN 4))
  (sSeq (sAsg (d2 pMod (oVal (dA pInt (aCons (oVal (d2 pMulA (oVal (dVar 4)) (oVal (d2 pAddA (oVal (d2 pFdiv (oVal (dVar 4)) (oVal (dC (.int 2003))))) (oVal (dC (.int 40014))))))) aNil))) (oVal (dC (.int 2147483563)))) (tgN 4))
  (sRet (d2 pMod (oVal (dA pInt (aCons (oVal (d2 pFdiv (oVal (dVar 4)) (oVal (dC (.int 16))))) aNil))) (oVal (dVar 1))))))))))
def F__law_draw : Fn := runF N__law_draw.length B__law_draw
theorem ok__law_draw (t : Tx K mg) : FnOk P w K mg base (L2.CX P w) 1 t.a__law_draw t.d__law_draw ["hand", "below"] (spD K t.T t.ca 2 F__law_draw) :=
  fn_D (k := 0) t.F__law_draw sc__law_draw (by decide) fun cdv A outer s H E hr =>
    (ds_cons (ds_if (PW.pt (dw_and (dt_cmp (op_eqD hr.units) r_eq (do_val (de_ix ix_two r_ix (do_any (pe_var (i := 0) rfl (by first | exact .inl rfl | exact .inr (.inl rfl) | exact .inr (.inr rfl)))) (do_val de_int) (fun _ _ => rfl))) (do_val de_int) (nomark _)) (dw_1and (dt_cmp op_lt r_lt (do_val (de_ix ix_two r_ix (do_any (pe_var (i := 0) rfl (by first | exact .inl rfl | exact .inr (.inl rfl) | exact .inr (.inr rfl)))) (do_val de_int) (fun _ _ => rfl))) (do_val (de_callB (cr_lenA) r_len rfl t.n_len rfl (da_cons (do_val (de_ix ix_two r_ix (do_any (pe_var (i := 0) rfl (by first | exact .inl rfl | exact .inr (.inl rfl) | exact .inr (.inr rfl)))) (do_val de_int) (fun _ _ => rfl))) da_nil))) (nomark _))))) (ds_cons (ds_set (i := 2) sc__law_draw.nd rfl (by first | exact .inl rfl | exact .inr rfl) (de_ix ix_two r_ix (do_val (de_ix ix_two r_ix (do_any (pe_var (i := 0) rfl (by first | exact .inl rfl | exact .inr (.inl rfl) | exact .inr (.inr rfl)))) (do_val de_int) (fun _ _ => rfl))) (do_val (de_ix ix_two r_ix (do_any (pe_var (i := 0) rfl (by first | exact .inl rfl | exact .inr (.inl rfl) | exact .inr (.inr rfl)))) (do_val de_int) (fun _ _ => rfl))) (fun _ _ => rfl)))
    (ds_cons (ds_setIx (pe_var (i := 0) rfl (by first | exact .inl rfl | exact .inr (.inl rfl) | exact .inr (.inr rfl))) de_int (de_op op_addA r_addA (do_val (de_ix ix_two r_ix (do_any (pe_var (i := 0) rfl (by first | exact .inl rfl | exact .inr (.inl rfl) | exact .inr (.inr rfl)))) (do_val de_int) (fun _ _ => rfl))) (do_val de_int)))
    (ds_cons (ds_setIx (pe_var (i := 0) rfl (by first | exact .inl rfl | exact .inr (.inl rfl) | exact .inr (.inr rfl))) de_int (de_op op_mod r_mod (do_val (de_callT (call_int1) r_int rfl t.n_int rfl (da_cons (do_val (de_op op_addA r_addA (do_val (de_op op_addA r_addA (do_val (de_op op_mulB r_mulB (do_val (de_ix ix_two r_ix (do_any (pe_var (i := 0) rfl (by first | exact .inl rfl | exact .inr (.inl rfl) | exact .inr (.inr rfl)))) (do_val de_int) (fun _ _ => rfl))) (do_val de_int))) (do_val (de_op op_mulB r_mulB (do_val (de_var (pe_var (i := 2) rfl (by first | exact .inl rfl | exact .inr (.inl rfl) | exact .inr (.inr rfl))))) (do_val de_int))))) (do_val de_int))) da_nil))) (do_val de_int)))
    (ds_one (ds_if (dt_cmp op_ge r_ge (do_val (de_var (pe_var (i := 2) rfl (by first | exact .inl rfl | exact .inr (.inl rfl) | exact .inr (.inr rfl))))) (do_val (de_op op_pow r_pow (do_val de_int) (do_val de_int))) (nomark _)) (ds_one (ds_setIx (pe_var (i := 0) rfl (by first | exact .inl rfl | exact .inr (.inl rfl) | exact .inr (.inr rfl))) de_int (de_var (pe_var (i := 2) rfl (by first | exact .inl rfl | exact .inr (.inl rfl) | exact .inr (.inr rfl)))))) ds_nil))))) ds_nil)
    (ds_cons (ds_if (dt_cmp op_gt r_gt (do_val (de_ix ix_two r_ix (do_any (pe_var (i := 0) rfl (by first | exact .inl rfl | exact .inr (.inl rfl) | exact .inr (.inr rfl)))) (do_val de_int) (fun _ _ => rfl))) (do_val de_int) (nomark _)) (ds_cons (ds_set (i := 3) sc__law_draw.nd rfl (by first | exact .inl rfl | exact .inr rfl) (de_op op_mod r_mod (do_val (de_callT (call_int1) r_int rfl t.n_int rfl (da_cons (do_val (de_ix ix_two r_ix (do_any (pe_var (i := 0) rfl (by first | exact .inl rfl | exact .inr (.inl rfl) | exact .inr (.inr rfl)))) (do_val de_int) (fun _ _ => rfl))) da_nil))) (do_val (de_var (pe_var (i := 1) rfl (by first | exact .inl rfl | exact .inr (.inl rfl) | exact .inr (.inr rfl)))))))
    (ds_cons (ds_setIx (pe_var (i := 0) rfl (by first | exact .inl rfl | exact .inr (.inl rfl) | exact .inr (.inr rfl))) de_int (de_op op_fdivW r_fdiv (do_val (de_ix ix_two r_ix (do_any (pe_var (i := 0) rfl (by first | exact .inl rfl | exact .inr (.inl rfl) | exact .inr (.inr rfl)))) (do_val de_int) (fun _ _ => rfl))) (do_val (de_var (pe_var (i := 1) rfl (by first | exact .inl rfl | exact .inr (.inl rfl) | exact .inr (.inr rfl)))))))
    (ds_one (ds_ret (de_var (pe_var (i := 3) rfl (by first | exact .inl rfl | exact .inr (.inl rfl) | exact .inr (.inr rfl)))))))) ds_nil)
    (ds_cons (ds_setIx (pe_var (i := 0) rfl (by first | exact .inl rfl | exact .inr (.inl rfl) | exact .inr (.inr rfl))) de_int (de_op op_addA r_addA (do_val (de_ix ix_two r_ix (do_any (pe_var (i := 0) rfl (by first | exact .inl rfl | exact .inr (.inl rfl) | exact .inr (.inr rfl)))) (do_val de_int) (fun _ _ => rfl))) (do_val de_int)))
    (ds_cons (ds_set (i := 4) sc__law_draw.nd rfl (by first | exact .inl rfl | exact .inr rfl) (de_op op_mod r_mod (do_val (de_callT (call_int1) r_int rfl t.n_int rfl (da_cons (do_val (de_op op_mulB r_mulB (do_val (de_callT (call_int1) r_int rfl t.n_int rfl (da_cons (do_val (de_op op_addA r_addA (do_val (de_ix ix_two r_ix (do_any (pe_var (i := 0) rfl (by first | exact .inl rfl | exact .inr (.inl rfl) | exact .inr (.inr rfl)))) (do_val de_int) (fun _ _ => rfl))) (do_val (de_op op_mulB r_mulB (do_val de_int) (do_val (de_ix ix_two r_ix (do_any (pe_var (i := 0) rfl (by first | exact .inl rfl | exact .inr (.inl rfl) | exact .inr (.inr rfl)))) (do_val de_int) (fun _ _ => rfl))))))) da_nil))) (do_val de_int))) da_nil))) (do_val de_int)))
    (ds_cons (ds_set (i := 4) sc__law_draw.nd rfl (by first | exact .inl rfl | exact .inr rfl) (de_op op_mod r_mod (do_val (de_callT (call_int1) r_int rfl t.n_int rfl (da_cons (do_val (de_op op_mulB r_mulB (do_val (de_var (pe_var (i := 4) rfl (by first | exact .inl rfl | exact .inr (.inl rfl) | exact .inr (.inr rfl))))) (do_val (de_op op_addA r_addA (do_val (de_op op_fdivW r_fdiv (do_val (de_var (pe_var (i := 4) rfl (by first | exact .inl rfl | exact .inr (.inl rfl) | exact .inr (.inr rfl))))) (do_val de_int))) (do_val de_int))))) da_nil))) (do_val de_int)))
    (ds_cons (ds_set (i := 4) sc__law_draw.nd rfl (by first | exact .inl rfl | exact .inr rfl) (de_op op_mod r_mod (do_val (de_callT (call_int1) r_int rfl t.n_int rfl (da_cons (do_val (de_op op_mulB r_mulB (do_val (de_var (pe_var (i := 4) rfl (by first | exact .inl rfl | exact .inr (.inl rfl) | exact .inr (.inr rfl))))) (do_val (de_op op_addA r_addA (do_val (de_op op_fdivW r_fdiv (do_val (de_var (pe_var (i := 4) rfl (by first | exact .inl rfl | exact .inr (.inl rfl) | exact .inr (.inr rfl))))) (do_val de_int))) (do_val de_int))))) da_nil))) (do_val de_int)))
    (ds_one (ds_ret (de_op op_mod r_mod (do_val (de_callT (call_int1) r_int rfl t.n_int rfl (da_cons (do_val (de_op op_fdivW r_fdiv (do_val (de_var (pe_var (i := 4) rfl (by first | exact .inl rfl | exact .inr (.inl rfl) | exact .inr (.inr rfl))))) (do_val de_int))) da_nil))) (do_val (de_var (pe_var (i := 1) rfl (by first | exact .inl rfl | exact .inr (.inl rfl) | exact .inr (.inr rfl))))))))))))))
/-! ### _law_any -/
abbrev s__law_any : Stmt := top 20
abbrev N__law_any : List Str := ["hand", "some"]
theorem sc__law_any : FnScope N__law_any ["hand", "some"] (defScope s__law_any) := ⟨rfl, rfl, rfl, by decide +kernel, rfl, by decide +kernel, by decide +kernel⟩
theorem b__law_any (t : Tx K mg) : Binds K t.d__law_any ["hand", "some"] [] := t.F__law_any.binds (ps := ["hand", "some"]) fun _ _ _ _ _ _ us hl => match us, hl with | [_, _], _ => rfl
def B__law_any : SemS := (sRet (d2 pIx (oVal (dVar 1)) (oVal (rvE (dCall 2 F__law_draw (aCons (oVar 0) (aCons (oVal (dA pLen (aCons (oVal (dVar 1)) aNil))) aNil)))))))
def F__law_any : Fn := runF N__law_any.length B__law_any
theorem ok__law_any (t : Tx K mg) : FnOk P w K mg base (L2.CX P w) 2 t.a__law_any t.d__law_any ["hand", "some"] (spD K t.T t.ca 2 F__law_any) :=
  fn_D (k := 1) t.F__law_any sc__law_any (by decide) fun cdv A outer s H E hr =>
    (ds_one (ds_ret (de_ix ix_two r_ix (do_val (de_var (pe_var (i := 1) rfl (by first | exact .inl rfl | exact .inr (.inl rfl) | exact .inr (.inr rfl))))) (do_val (de_ofV (dv_call (ok__law_draw t) (hr.mono (by decide)) rfl t.g__law_draw t.F__law_draw.kp (b__law_draw t) (passes_call (takes_of rfl rfl rfl rfl) fun _ _ _ _ h => h) (da_cons (do_var (pe_var (i := 0) rfl (by first | exact .inl rfl | exact .inr (.inl rfl) | exact .inr (.inr rfl)))) (da_cons (do_val (de_callB (cr_lenA) r_len rfl t.n_len rfl (da_cons (do_val (de_var (pe_var (i := 1) rfl (by first | exact .inl rfl | exact .inr (.inl rfl) | exact .inr (.inr rfl))))) da_nil))) da_nil))))) (fun _ _ => rfl))))
/-! ### _law_votes -/
abbrev s__law_votes : Stmt := top 21
abbrev N__law_votes : List Str := ["hand", "top", "found", "turn"]
theorem sc__law_votes : FnScope N__law_votes ["hand"] (defScope s__law_votes) := ⟨rfl, rfl, rfl, by decide +kernel, rfl, by decide +kernel, by decide +kernel⟩
theorem b__law_votes (t : Tx K mg) : Binds K t.d__law_votes ["hand"] [] := t.F__law_votes.binds (ps := ["hand"]) fun _ _ _ _ _ _ us hl => match us, hl with | [_], _ => rfl
def B__law_votes : SemS := (sSeq (sAsg (rvE (dCall 2 F__law_any (aCons (oVar 0) (aCons (oVal (dFrz (dLst (aCons (oVal (dC (.int 4))) (aCons (oVal (dC (.int 20))) (aCons (oVal (dC (.int 1000))) (aCons (oVal (d2 pPow (oVal (dC (.int 10))) (oVal (dC (.int 9))))) aNil))))))) aNil)))) (tgN 1))
  (sSeq (sOwn (dLc (itA rng1 (aCons (oVal (d2 pAddA (oVal (dC (.int 1))) (oVal (rvE (dCall 2 F__law_draw (aCons (oVar 0) (aCons (oVal (dC (.int 6))) aNil))))))) aNil)) ([3] : List Nat) (tgN 3) dYes (rvE (dCall 2 F__law_draw (aCons (oVar 0) (aCons (oVal (dVar 1)) aNil))))) 2)
  (sSeq (sIf (dB (d2 pEq (oVal (rvE (dCall 2 F__law_draw (aCons (oVar 0) (aCons (oVal (dC (.int 3))) aNil))))) (oVal (dC (.int 0))))) (sSetIx 2 (d1 pNeg (oVal (dC (.int 1)))) (d2 pIx (oAny 2) (oVal (dC (.int 0))))) sNext)
  (sSeq (sIf (dB (d2 pEq (oVal (dA pSum (aCons (oAny 2) aNil))) (oVal (dC (.int 0))))) (sSetIx 2 (dC (.int 0)) (d2 pAddA (oVal (dC (.int 1))) (oVal (rvE (dCall 2 F__law_draw (aCons (oVar 0) (aCons (oVal (dVar 1)) aNil))))))) sNext)
  (sRet (dA pTuple (aCons (oAny 2) aNil)))))))
def F__law_votes : Fn := runF N__law_votes.length B__law_votes
theorem ok__law_votes (t : Tx K mg) : FnOk P w K mg base (L2.CX P w) 3 t.a__law_votes t.d__law_votes ["hand"] (spD K t.T t.ca 1 F__law_votes) :=
  fn_D (k := 2) t.F__law_votes sc__law_votes (by decide) fun cdv A outer s H E hr =>
    (ds_cons (ds_set (i := 1) sc__law_votes.nd rfl (by first | exact .inl rfl | exact .inr rfl) (de_ofV (dv_call (ok__law_any t) (hr.mono (by decide)) rfl t.g__law_any t.F__law_any.kp (b__law_any t) (passes_call (takes_of rfl rfl rfl rfl) fun _ _ _ _ h => h) (da_cons (do_var (pe_var (i := 0) rfl (by first | exact .inl rfl | exact .inr (.inl rfl) | exact .inr (.inr rfl)))) (da_cons (do_val (de_frz (dn_lst (da_cons (do_val de_int) (da_cons (do_val de_int) (da_cons (do_val de_int) (da_cons (do_val (de_op op_pow r_pow (do_val de_int) (do_val de_int))) da_nil))))))) da_nil)))))
    (ds_cons (ds_ownLc (own := [("turn", 3)]) (i := 2) rfl sc__law_votes.nd rfl rfl rfl (di_range1 rfl t.n_range (da_cons (do_val (de_op op_addA r_addA (do_val de_int) (do_val (de_ofV (dv_call (ok__law_draw t) (hr.mono (by decide)) rfl t.g__law_draw t.F__law_draw.kp (b__law_draw t) (passes_call (takes_of rfl rfl rfl rfl) fun _ _ _ _ h => h) (da_cons (do_var (pe_var (i := 0) rfl (by first | exact .inl rfl | exact .inr (.inl rfl) | exact .inr (.inr rfl)))) (da_cons (do_val de_int) da_nil))))))) da_nil)) (blkOk_by (sc := defScope s__law_votes) (N := N__law_votes) (by decide +kernel)) (fun _ _ _ _ _ => (dg_name (pg_name (i := 3) sc__law_votes.nd rfl (by first | exact .inl rfl | exact .inr rfl)))) (fun _ _ _ _ _ => dts_nil) (fun _ _ _ _ _ => (de_ofV (dv_call (ok__law_draw t) (hr.mono (by decide)) rfl t.g__law_draw t.F__law_draw.kp (b__law_draw t) passL (da_cons (do_var (pe_var (i := 0) rfl (by first | exact .inl rfl | exact .inr (.inl rfl) | exact .inr (.inr rfl)))) (da_cons (do_val (de_var (pe_var (i := 1) rfl (by first | exact .inl rfl | exact .inr (.inl rfl) | exact .inr (.inr rfl))))) da_nil))))) (by decide))
    (ds_cons (ds_if (dt_cmp (op_eqD hr.units) r_eq (do_val (de_ofV (dv_call (ok__law_draw t) (hr.mono (by decide)) rfl t.g__law_draw t.F__law_draw.kp (b__law_draw t) (passes_call (takes_of rfl rfl rfl rfl) fun _ _ _ _ h => h) (da_cons (do_var (pe_var (i := 0) rfl (by first | exact .inl rfl | exact .inr (.inl rfl) | exact .inr (.inr rfl)))) (da_cons (do_val de_int) da_nil))))) (do_val de_int) (nomark _)) (ds_one (ds_setIx (pe_var (i := 2) rfl (by first | exact .inl rfl | exact .inr (.inl rfl) | exact .inr (.inr rfl))) (de_un un_neg r_neg (do_val de_int)) (de_ix ix_two r_ix (do_any (pe_var (i := 2) rfl (by first | exact .inl rfl | exact .inr (.inl rfl) | exact .inr (.inr rfl)))) (do_val de_int) (fun _ _ => rfl)))) ds_nil)
    (ds_cons (ds_if (dt_cmp (op_eqD hr.units) r_eq (do_val (de_callB (cr_sumA rfl) r_sum rfl t.n_sum rfl (da_cons (do_any (pe_var (i := 2) rfl (by first | exact .inl rfl | exact .inr (.inl rfl) | exact .inr (.inr rfl)))) da_nil))) (do_val de_int) (nomark _)) (ds_one (ds_setIx (pe_var (i := 2) rfl (by first | exact .inl rfl | exact .inr (.inl rfl) | exact .inr (.inr rfl))) de_int (de_op op_addA r_addA (do_val de_int) (do_val (de_ofV (dv_call (ok__law_draw t) (hr.mono (by decide)) rfl t.g__law_draw t.F__law_draw.kp (b__law_draw t) (passes_call (takes_of rfl rfl rfl rfl) fun _ _ _ _ h => h) (da_cons (do_var (pe_var (i := 0) rfl (by first | exact .inl rfl | exact .inr (.inl rfl) | exact .inr (.inr rfl)))) (da_cons (do_val (de_var (pe_var (i := 1) rfl (by first | exact .inl rfl | exact .inr (.inl rfl) | exact .inr (.inr rfl))))) da_nil)))))))) ds_nil)
    (ds_one (ds_ret (de_callT (call_tuple_of) r_tuple rfl t.n_tuple rfl (da_cons (do_any (pe_var (i := 2) rfl (by first | exact .inl rfl | exact .inr (.inl rfl) | exact .inr (.inr rfl)))) da_nil))))))))
/-! ### _law_deal -/
abbrev s__law_deal : Stmt := top 22
abbrev N__law_deal : List Str := ["votes", "size", "whole", "seats", "rests", "left", "last", "above", "tied", "sure", "many", "party", "rest", "here"]
theorem sc__law_deal : FnScope N__law_deal ["votes", "size"] (defScope s__law_deal) := ⟨rfl, rfl, rfl, by decide +kernel, rfl, by decide +kernel, by decide +kernel⟩
theorem b__law_deal (t : Tx K mg) : Binds K t.d__law_deal ["votes", "size"] [] := t.F__law_deal.binds (ps := ["votes", "size"]) fun _ _ _ _ _ _ us hl => match us, hl with | [_, _], _ => rfl
def B__law_deal : SemS := (sSeq (sAsg (dA pSum (aCons (oVal (dVar 0)) aNil)) (tgN 2))
  (sSeq (sAsg (dFrz (dLc (itA seq1 (it1 (oVal (dVar 0)))) ([10] : List Nat) (tgN 10) dYes (d2 pFdiv (oVal (d2 pMulA (oVal (dVar 10)) (oVal (dVar 1)))) (oVal (dVar 2))))) (tgN 3))
  (sSeq (sAsg (dFrz (dLc (itA seq1 (it1 (oVal (dVar 0)))) ([10] : List Nat) (tgN 10) dYes (d2 pMod (oVal (dA pInt (aCons (oVal (d2 pMulA (oVal (dVar 10)) (oVal (dVar 1)))) aNil))) (oVal (dVar 2))))) (tgN 4))
  (sSeq (sAsg (d2 pSub (oVal (dVar 1)) (oVal (dA pSum (aCons (oVal (dVar 3)) aNil)))) (tgN 5))
  (sSeq (sIf (dB (d2 pEq (oVal (dVar 5)) (oVal (dC (.int 0))))) (sRet (dTup (aCons (oVal (dA pTuple (aCons (oVal (dVar 3)) aNil))) (aCons (oVal (dTup aNil)) (aCons (oVal (dC (.int 0))) aNil))))) sNext)
  (sSeq (sAsg (d2 pIx (oVal (dFrz (dA pSorted (aCons (oVal (dVar 4)) aNil)))) (oVal (d2 pSub (oVal (dA pLen (aCons (oVal (dVar 4)) aNil))) (oVal (dVar 5))))) (tgN 6))
  (sSeq (sAsg (dFrz (dLc (itA enum1 (aCons (oVal (dVar 4)) aNil)) ([11, 12] : List Nat) (tgT 2 (tgCons (tgN 11) (tgCons (tgN 12) tgNil))) (dB (d2 pGt (oVal (dVar 12)) (oVal (dVar 6)))) (dVar 11))) (tgN 7))
  (sSeq (sAsg (dFrz (dLc (itA enum1 (aCons (oVal (dVar 4)) aNil)) ([11, 12] : List Nat) (tgT 2 (tgCons (tgN 11) (tgCons (tgN 12) tgNil))) (dB (d2 pEq (oVal (dVar 12)) (oVal (dVar 6)))) (dVar 11))) (tgN 8))
  (sSeq (sIf (dB (d2 pEq (oVal (d2 pAddA (oVal (dA pLen (aCons (oVal (dVar 7)) aNil))) (oVal (dA pLen (aCons (oVal (dVar 8)) aNil))))) (oVal (dVar 5)))) (sAsg (dTup (aCons (oVal (d2 pAddA (oVal (dVar 7)) (oVal (dVar 8)))) (aCons (oVal (dFrz (dLst aNil))) aNil))) (tgT 2 (tgCons (tgN 7) (tgCons (tgN 8) tgNil)))) sNext)
  (sSeq (sAsg (dA pTuple (aCons (oVal (dFrz (dLc (itA enum1 (aCons (oVal (dVar 3)) aNil)) ([11, 13] : List Nat) (tgT 2 (tgCons (tgN 11) (tgCons (tgN 13) tgNil))) dYes (d2 pAddA (oVal (dVar 13)) (oVal (dA pInt (aCons (oVal (d2 pIn (oVal (dVar 11)) (oVal (dVar 7)))) aNil))))))) aNil)) (tgN 9))
  (sRet (dTup (aCons (oVal (dVar 9)) (aCons (oVal (dA pTuple (aCons (oVal (dVar 8)) aNil))) (aCons (oVal (d2 pSub (oVal (dVar 5)) (oVal (dA pLen (aCons (oVal (dVar 7)) aNil))))) aNil)))))))))))))))
def F__law_deal : Fn := runF N__law_deal.length B__law_deal
theorem ok__law_deal (t : Tx K mg) : FnOk P w K mg base (L2.CX P w) 1 t.a__law_deal t.d__law_deal ["votes", "size"] (spD K t.T t.ca 2 F__law_deal) :=
  fn_D (k := 0) t.F__law_deal sc__law_deal (by decide) fun cdv A outer s H E hr =>
    (ds_cons (ds_set (i := 2) sc__law_deal.nd rfl (by first | exact .inl rfl | exact .inr rfl) (de_callB (cr_sumA rfl) r_sum rfl t.n_sum rfl (da_cons (do_val (de_var (pe_var (i := 0) rfl (by first | exact .inl rfl | exact .inr (.inl rfl) | exact .inr (.inr rfl))))) da_nil)))
    (ds_cons (ds_setLc (own := [("many", 10)]) (i := 3) rfl sc__law_deal.nd rfl rfl rfl (di_seq rfl (do_val (de_var (pe_var (i := 0) rfl (by first | exact .inl rfl | exact .inr (.inl rfl) | exact .inr (.inr rfl)))))) (blkOk_by (sc := defScope s__law_deal) (N := N__law_deal) (by decide +kernel)) (fun _ _ _ _ _ => (dg_name (pg_name (i := 10) sc__law_deal.nd rfl (by first | exact .inl rfl | exact .inr rfl)))) (fun _ _ _ _ _ => dts_nil) (fun _ _ _ _ _ => (de_op op_fdivW r_fdiv (do_val (de_op op_mulB r_mulB (do_val (de_var (pe_var (i := 10) rfl (by first | exact .inl rfl | exact .inr (.inl rfl) | exact .inr (.inr rfl))))) (do_val (de_var (pe_var (i := 1) rfl (by first | exact .inl rfl | exact .inr (.inl rfl) | exact .inr (.inr rfl))))))) (do_val (de_var (pe_var (i := 2) rfl (by first | exact .inl rfl | exact .inr (.inl rfl) | exact .inr (.inr rfl))))))) (by decide))
    (ds_cons (ds_setLc (own := [("many", 10)]) (i := 4) rfl sc__law_deal.nd rfl rfl rfl (di_seq rfl (do_val (de_var (pe_var (i := 0) rfl (by first | exact .inl rfl | exact .inr (.inl rfl) | exact .inr (.inr rfl)))))) (blkOk_by (sc := defScope s__law_deal) (N := N__law_deal) (by decide +kernel)) (fun _ _ _ _ _ => (dg_name (pg_name (i := 10) sc__law_deal.nd rfl (by first | exact .inl rfl | exact .inr rfl)))) (fun _ _ _ _ _ => dts_nil) (fun _ _ _ _ _ => (de_op op_mod r_mod (do_val (de_callT (call_int1) r_int rfl t.n_int rfl (da_cons (do_val (de_op op_mulB r_mulB (do_val (de_var (pe_var (i := 10) rfl (by first | exact .inl rfl | exact .inr (.inl rfl) | exact .inr (.inr rfl))))) (do_val (de_var (pe_var (i := 1) rfl (by first | exact .inl rfl | exact .inr (.inl rfl) | exact .inr (.inr rfl))))))) da_nil))) (do_val (de_var (pe_var (i := 2) rfl (by first | exact .inl rfl | exact .inr (.inl rfl) | exact .inr (.inr rfl))))))) (by decide))
    (ds_cons (ds_set (i := 5) sc__law_deal.nd rfl (by first | exact .inl rfl | exact .inr rfl) (de_op op_sub r_sub (do_val (de_var (pe_var (i := 1) rfl (by first | exact .inl rfl | exact .inr (.inl rfl) | exact .inr (.inr rfl))))) (do_val (de_callB (cr_sumA rfl) r_sum rfl t.n_sum rfl (da_cons (do_val (de_var (pe_var (i := 3) rfl (by first | exact .inl rfl | exact .inr (.inl rfl) | exact .inr (.inr rfl))))) da_nil)))))
    (ds_cons (ds_if (dt_cmp (op_eqD hr.units) r_eq (do_val (de_var (pe_var (i := 5) rfl (by first | exact .inl rfl | exact .inr (.inl rfl) | exact .inr (.inr rfl))))) (do_val de_int) (nomark _)) (ds_one (ds_ret (de_tup (da_cons (do_val (de_callT (call_tuple_of) r_tuple rfl t.n_tuple rfl (da_cons (do_val (de_var (pe_var (i := 3) rfl (by first | exact .inl rfl | exact .inr (.inl rfl) | exact .inr (.inr rfl))))) da_nil))) (da_cons (do_val (de_tup da_nil)) (da_cons (do_val de_int) da_nil)))))) ds_nil)
    (ds_cons (ds_set (i := 6) sc__law_deal.nd rfl (by first | exact .inl rfl | exact .inr rfl) (de_ix ix_two r_ix (do_val (de_frz (dn_callB (cr_sortedI) r_sorted rfl t.n_sorted rfl (da_cons (do_val (de_var (pe_var (i := 4) rfl (by first | exact .inl rfl | exact .inr (.inl rfl) | exact .inr (.inr rfl))))) da_nil)))) (do_val (de_op op_sub r_sub (do_val (de_callB (cr_lenA) r_len rfl t.n_len rfl (da_cons (do_val (de_var (pe_var (i := 4) rfl (by first | exact .inl rfl | exact .inr (.inl rfl) | exact .inr (.inr rfl))))) da_nil))) (do_val (de_var (pe_var (i := 5) rfl (by first | exact .inl rfl | exact .inr (.inl rfl) | exact .inr (.inr rfl))))))) (fun _ _ => rfl)))
    (ds_cons (ds_set (i := 7) sc__law_deal.nd rfl (by first | exact .inl rfl | exact .inr rfl) (de_frz (dn_lc (own := [("party", 11), ("rest", 12)]) rfl sc__law_deal.nd (di_enum rfl rfl t.n_enumerate (da_cons (do_val (de_var (pe_var (i := 4) rfl (by first | exact .inl rfl | exact .inr (.inl rfl) | exact .inr (.inr rfl))))) da_nil)) (blkOk_by (sc := defScope s__law_deal) (N := N__law_deal) (by decide +kernel)) (fun _ _ _ _ _ => (dg_tup rfl rfl (dgs_cons (dg_name (pg_name (i := 11) sc__law_deal.nd rfl (by first | exact .inl rfl | exact .inr rfl))) (dgs_cons (dg_name (pg_name (i := 12) sc__law_deal.nd rfl (by first | exact .inl rfl | exact .inr rfl))) dgs_nil)))) (fun _ _ _ _ _ => (dts_one (dt_cmp op_gt r_gt (do_val (de_var (pe_var (i := 12) rfl (by first | exact .inl rfl | exact .inr (.inl rfl) | exact .inr (.inr rfl))))) (do_val (de_var (pe_var (i := 6) rfl (by first | exact .inl rfl | exact .inr (.inl rfl) | exact .inr (.inr rfl))))) (nomark _)))) (fun _ _ _ _ _ => (de_var (pe_var (i := 11) rfl (by first | exact .inl rfl | exact .inr (.inl rfl) | exact .inr (.inr rfl))))) (by decide))))
    (ds_cons (ds_setLc (own := [("party", 11), ("rest", 12)]) (i := 8) rfl sc__law_deal.nd rfl rfl rfl (di_enum rfl rfl t.n_enumerate (da_cons (do_val (de_var (pe_var (i := 4) rfl (by first | exact .inl rfl | exact .inr (.inl rfl) | exact .inr (.inr rfl))))) da_nil)) (blkOk_by (sc := defScope s__law_deal) (N := N__law_deal) (by decide +kernel)) (fun _ _ _ _ _ => (dg_tup rfl rfl (dgs_cons (dg_name (pg_name (i := 11) sc__law_deal.nd rfl (by first | exact .inl rfl | exact .inr rfl))) (dgs_cons (dg_name (pg_name (i := 12) sc__law_deal.nd rfl (by first | exact .inl rfl | exact .inr rfl))) dgs_nil)))) (fun _ _ _ _ _ => (dts_one (dt_cmp (op_eqD hr.units) r_eq (do_val (de_var (pe_var (i := 12) rfl (by first | exact .inl rfl | exact .inr (.inl rfl) | exact .inr (.inr rfl))))) (do_val (de_var (pe_var (i := 6) rfl (by first | exact .inl rfl | exact .inr (.inl rfl) | exact .inr (.inr rfl))))) (nomark _)))) (fun _ _ _ _ _ => (de_var (pe_var (i := 11) rfl (by first | exact .inl rfl | exact .inr (.inl rfl) | exact .inr (.inr rfl))))) (by decide))
    (ds_cons (ds_if (dt_cmp (op_eqD hr.units) r_eq (do_val (de_op op_addA r_addA (do_val (de_callB (cr_lenA) r_len rfl t.n_len rfl (da_cons (do_val (de_var (pe_var (i := 7) rfl (by first | exact .inl rfl | exact .inr (.inl rfl) | exact .inr (.inr rfl))))) da_nil))) (do_val (de_callB (cr_lenA) r_len rfl t.n_len rfl (da_cons (do_val (de_var (pe_var (i := 8) rfl (by first | exact .inl rfl | exact .inr (.inl rfl) | exact .inr (.inr rfl))))) da_nil))))) (do_val (de_var (pe_var (i := 5) rfl (by first | exact .inl rfl | exact .inr (.inl rfl) | exact .inr (.inr rfl))))) (nomark _)) (ds_one (ds_asg (de_tup (da_cons (do_val (de_op op_addA r_addA (do_val (de_var (pe_var (i := 7) rfl (by first | exact .inl rfl | exact .inr (.inl rfl) | exact .inr (.inr rfl))))) (do_val (de_var (pe_var (i := 8) rfl (by first | exact .inl rfl | exact .inr (.inl rfl) | exact .inr (.inr rfl))))))) (da_cons (do_val (de_frz (dn_lst da_nil))) da_nil))) (dg_tup rfl rfl (dgs_cons (dg_name (pg_name (i := 7) sc__law_deal.nd rfl (by first | exact .inl rfl | exact .inr rfl))) (dgs_cons (dg_name (pg_name (i := 8) sc__law_deal.nd rfl (by first | exact .inl rfl | exact .inr rfl))) dgs_nil))))) ds_nil)
    (ds_cons (ds_set (i := 9) sc__law_deal.nd rfl (by first | exact .inl rfl | exact .inr rfl) (de_callT (call_tuple_of) r_tuple rfl t.n_tuple rfl (da_cons (do_val (de_frz (dn_lc (own := [("party", 11), ("here", 13)]) rfl sc__law_deal.nd (di_enum rfl rfl t.n_enumerate (da_cons (do_val (de_var (pe_var (i := 3) rfl (by first | exact .inl rfl | exact .inr (.inl rfl) | exact .inr (.inr rfl))))) da_nil)) (blkOk_by (sc := defScope s__law_deal) (N := N__law_deal) (by decide +kernel)) (fun _ _ _ _ _ => (dg_tup rfl rfl (dgs_cons (dg_name (pg_name (i := 11) sc__law_deal.nd rfl (by first | exact .inl rfl | exact .inr rfl))) (dgs_cons (dg_name (pg_name (i := 13) sc__law_deal.nd rfl (by first | exact .inl rfl | exact .inr rfl))) dgs_nil)))) (fun _ _ _ _ _ => dts_nil) (fun _ _ _ _ _ => (de_op op_addA r_addA (do_val (de_var (pe_var (i := 13) rfl (by first | exact .inl rfl | exact .inr (.inl rfl) | exact .inr (.inr rfl))))) (do_val (de_callT (call_int1) r_int rfl t.n_int rfl (da_cons (do_val (de_cmp (op_inA (hu65 hr)) r_in (do_val (de_var (pe_var (i := 11) rfl (by first | exact .inl rfl | exact .inr (.inl rfl) | exact .inr (.inr rfl))))) (do_val (de_var (pe_var (i := 7) rfl (by first | exact .inl rfl | exact .inr (.inl rfl) | exact .inr (.inr rfl))))) (by with_unfolding_all rfl))) da_nil))))) (by decide)))) da_nil)))
    (ds_one (ds_ret (de_tup (da_cons (do_val (de_var (pe_var (i := 9) rfl (by first | exact .inl rfl | exact .inr (.inl rfl) | exact .inr (.inr rfl))))) (da_cons (do_val (de_callT (call_tuple_of) r_tuple rfl t.n_tuple rfl (da_cons (do_val (de_var (pe_var (i := 8) rfl (by first | exact .inl rfl | exact .inr (.inl rfl) | exact .inr (.inr rfl))))) da_nil))) (da_cons (do_val (de_op op_sub r_sub (do_val (de_var (pe_var (i := 5) rfl (by first | exact .inl rfl | exact .inr (.inl rfl) | exact .inr (.inr rfl))))) (do_val (de_callB (cr_lenA) r_len rfl t.n_len rfl (da_cons (do_val (de_var (pe_var (i := 7) rfl (by first | exact .inl rfl | exact .inr (.inl rfl) | exact .inr (.inr rfl))))) da_nil))))) da_nil))))))))))))))))
/-! ### _law_mixed -/
abbrev s__law_mixed : Stmt := top 23
abbrev N__law_mixed : List Str := ["hand", "many", "rest", "found", "turn", "one"]
theorem sc__law_mixed : FnScope N__law_mixed ["hand", "many"] (defScope s__law_mixed) := ⟨rfl, rfl, rfl, by decide +kernel, rfl, by decide +kernel, by decide +kernel⟩
theorem b__law_mixed (t : Tx K mg) : Binds K t.d__law_mixed ["hand", "many"] [] := t.F__law_mixed.binds (ps := ["hand", "many"]) fun _ _ _ _ _ _ us hl => match us, hl with | [_, _], _ => rfl
def B__law_mixed : SemS := (sSeq (sPar 2 3 (rvW (dLc (itA rng1 (aCons (oVal (dVar 1)) aNil)) ([5] : List Nat) (tgN 5) dYes (dVar 5))) (rvW (dLst aNil)))
  (sSeq (sFor (itA rng1 (aCons (oVal (dVar 1)) aNil)) (tgN 4) (sAppend 3 (dPop 2 (rvE (dCall 2 F__law_draw (aCons (oVar 0) (aCons (oVal (dA pLen (aCons (oAny 2) aNil))) aNil)))))))
  (sRet (dVarF 3))))
def F__law_mixed : Fn := runF N__law_mixed.length B__law_mixed
theorem ok__law_mixed (t : Tx K mg) : FnOk P w K mg base (L2.CX P w) 2 t.a__law_mixed t.d__law_mixed ["hand", "many"] (spD K t.T t.ca 2 F__law_mixed) :=
  fn_D (k := 1) t.F__law_mixed sc__law_mixed (by decide) fun cdv A outer s H E hr =>
    (ds_cons (ds_par (i := 2) (j := 3) rfl sc__law_mixed.nd rfl rfl (by decide) rfl rfl (dv_ofN (dn_lc (own := [("one", 5)]) rfl sc__law_mixed.nd (di_range1 rfl t.n_range (da_cons (do_val (de_var (pe_var (i := 1) rfl (by first | exact .inl rfl | exact .inr (.inl rfl) | exact .inr (.inr rfl))))) da_nil)) (blkOk_by (sc := defScope s__law_mixed) (N := N__law_mixed) (by decide +kernel)) (fun _ _ _ _ _ => (dg_name (pg_name (i := 5) sc__law_mixed.nd rfl (by first | exact .inl rfl | exact .inr rfl)))) (fun _ _ _ _ _ => dts_nil) (fun _ _ _ _ _ => (de_var (pe_var (i := 5) rfl (by first | exact .inl rfl | exact .inr (.inl rfl) | exact .inr (.inr rfl))))) (by decide))) (dv_ofN (dn_lst da_nil)) rfl)
    (ds_cons (ds_for (passes_of rfl) rfl (di_range1 rfl t.n_range (da_cons (do_val (de_var (pe_var (i := 1) rfl (by first | exact .inl rfl | exact .inr (.inl rfl) | exact .inr (.inr rfl))))) da_nil)) (dg_name (pg_name (i := 4) sc__law_mixed.nd rfl (by first | exact .inl rfl | exact .inr rfl))) (ds_one (ds_app (pe_var (i := 3) rfl (by first | exact .inl rfl | exact .inr (.inl rfl) | exact .inr (.inr rfl))) (de_popAt (pe_var (i := 2) rfl (by first | exact .inl rfl | exact .inr (.inl rfl) | exact .inr (.inr rfl))) (de_ofV (dv_call (ok__law_draw t) (hr.mono (by decide)) rfl t.g__law_draw t.F__law_draw.kp (b__law_draw t) (passes_call (takes_of rfl rfl rfl rfl) fun _ _ _ _ h => h) (da_cons (do_var (pe_var (i := 0) rfl (by first | exact .inl rfl | exact .inr (.inl rfl) | exact .inr (.inr rfl)))) (da_cons (do_val (de_callB (cr_lenA) r_len rfl t.n_len rfl (da_cons (do_any (pe_var (i := 2) rfl (by first | exact .inl rfl | exact .inr (.inl rfl) | exact .inr (.inr rfl)))) da_nil))) da_nil))))))))
    (ds_one (ds_ret (de_varF (pe_var (i := 3) rfl (by first | exact .inl rfl | exact .inr (.inl rfl) | exact .inr (.inr rfl))))))))
/-! ### _law_votes_right -/
abbrev s__law_votes_right : Stmt := top 24
abbrev N__law_votes_right : List Str := ["hand", "votes", "size", "due", "sure", "tied", "left", "whole", "party", "many", "low", "high", "line", "other", "factor", "later", "at", "here"]
theorem sc__law_votes_right : FnScope N__law_votes_right ["hand", "votes", "size"] (defScope s__law_votes_right) := ⟨rfl, rfl, rfl, by decide +kernel, rfl, by decide +kernel, by decide +kernel⟩
theorem b__law_votes_right (t : Tx K mg) : Binds K t.d__law_votes_right ["hand", "votes", "size"] [] := t.F__law_votes_right.binds (ps := ["hand", "votes", "size"]) fun _ _ _ _ _ _ us hl => match us, hl with | [_, _, _], _ => rfl
def B__law_votes_right : SemS := (sSeq (sAsg (rvE (dCall 2 F__law_deal (aCons (oVal (dVar 1)) (aCons (oVal (dVar 2)) aNil)))) (tgN 3))
  (sSeq (sAsg (rvE (dCall 2 F_deal_rests (aCons (oVal (dVar 1)) (aCons (oVal (dVar 2)) aNil)))) (tgT 3 (tgCons (tgN 4) (tgCons (tgN 5) (tgCons (tgN 6) tgNil)))))
  (sSeq (sIf (dOr (dB (d2 pNe (oVal (dA pRepr (aCons (oVal (dTup (aCons (oVal (dVar 4)) (aCons (oVal (dVar 5)) (aCons (oVal (dVar 6)) aNil))))) aNil))) (oVal (dA pRepr (aCons (oVal (dVar 3)) aNil))))) (dOr (dB (d2 pNe (oVal (d2 pAddA (oVal (dA pSum (aCons (oVal (dVar 4)) aNil))) (oVal (dVar 6)))) (oVal (dVar 2)))) (dAnd (dB (d2 pGt (oVal (dVar 6)) (oVal (dC (.int 0))))) (dNot (dB (dChain pLt pLt (oVal (dC (.int 0))) (oVal (dVar 6)) (oVal (dA pLen (aCons (oVal (dVar 5)) aNil))))))))) (sRet (dC (.bool false))) sNext)
  (sSeq (sAsg (dA pSum (aCons (oVal (dVar 1)) aNil)) (tgN 7))
  (sSeq (sFor (itA enum1 (aCons (oVal (dVar 1)) aNil)) (tgT 2 (tgCons (tgN 8) (tgCons (tgN 9) tgNil))) (sSeq (sPar 10 11 (rvD (d2 pFdiv (oVal (d2 pMulA (oVal (dVar 9)) (oVal (dVar 2)))) (oVal (dVar 7)))) (rvD (d2 pSub (oVal (dC (.int 0))) (oVal (d2 pFdiv (oVal (d2 pSub (oVal (dC (.int 0))) (oVal (d2 pMulA (oVal (dVar 9)) (oVal (dVar 2)))))) (oVal (dVar 7)))))))
  (sIf (dOr (dNot (dB (dChain pLe pLe (oVal (dVar 10)) (oVal (d2 pIx (oVal (dVar 4)) (oVal (dVar 8)))) (oVal (dVar 11))))) (dAnd (dB (d2 pIn (oVal (dVar 8)) (oVal (dVar 5)))) (dB (d2 pGt (oVal (d2 pAddA (oVal (d2 pIx (oVal (dVar 4)) (oVal (dVar 8)))) (oVal (dC (.int 1))))) (oVal (dVar 11)))))) (sRet (dC (.bool false))) sNext)))
  (sSeq (sAsg (rvE (dCall 2 F__law_mixed (aCons (oVar 0) (aCons (oVal (dA pLen (aCons (oVal (dVar 1)) aNil))) aNil)))) (tgN 12))
  (sSeq (sAsg (rvE (dCall 2 F_deal_rests (aCons (oVal (dA pTuple (aCons (oVal (dFrz (dLc (itA seq1 (it1 (oVal (dVar 12)))) ([8] : List Nat) (tgN 8) dYes (d2 pIx (oVal (dVar 1)) (oVal (dVar 8)))))) aNil))) (aCons (oVal (dVar 2)) aNil)))) (tgN 13))
  (sSeq (sIf (dOr (dB (d2 pNe (oVal (d2 pIx (oVal (dVar 13)) (oVal (dC (.int 0))))) (oVal (dA pTuple (aCons (oVal (dFrz (dLc (itA seq1 (it1 (oVal (dVar 12)))) ([8] : List Nat) (tgN 8) dYes (d2 pIx (oVal (dVar 4)) (oVal (dVar 8)))))) aNil))))) (dB (d2 pNe (oVal (dA pTuple (aCons (oVal (dFrz (dA pSorted (aCons (oVal (dFrz (dLc (itA seq1 (it1 (oVal (d2 pIx (oVal (dVar 13)) (oVal (dC (.int 1))))))) ([16] : List Nat) (tgN 16) dYes (d2 pIx (oVal (dVar 12)) (oVal (dVar 16)))))) aNil)))) aNil))) (oVal (dVar 5))))) (sRet (dC (.bool false))) sNext)
  (sSeq (sAsg (d2 pAddA (oVal (dC (.int 2))) (oVal (rvE (dCall 2 F__law_draw (aCons (oVar 0) (aCons (oVal (dC (.int 9))) aNil)))))) (tgN 14))
  (sSeq (sIf (dB (d2 pNe (oVal (rvE (dCall 2 F_deal_rests (aCons (oVal (dA pTuple (aCons (oVal (dFrz (dLc (itA seq1 (it1 (oVal (dVar 1)))) ([9] : List Nat) (tgN 9) dYes (d2 pMulA (oVal (dVar 14)) (oVal (dVar 9)))))) aNil))) (aCons (oVal (dVar 2)) aNil))))) (oVal (dVar 3)))) (sRet (dC (.bool false))) sNext)
  (sSeq (sAsg (rvE (dCall 2 F_deal_rests (aCons (oVal (dVar 1)) (aCons (oVal (d2 pAddA (oVal (dVar 2)) (oVal (dVar 7)))) aNil)))) (tgN 15))
  (sRet (d2 pEq (oVal (dVar 15)) (oVal (dTup (aCons (oVal (dA pTuple (aCons (oVal (dFrz (dLc (itA zip2 (aCons (oVal (dVar 4)) (aCons (oVal (dVar 1)) aNil))) ([17, 9] : List Nat) (tgT 2 (tgCons (tgN 17) (tgCons (tgN 9) tgNil))) dYes (d2 pAddA (oVal (dVar 17)) (oVal (dVar 9)))))) aNil))) (aCons (oVal (dVar 5)) (aCons (oVal (dVar 6)) aNil))))))))))))))))))
def F__law_votes_right : Fn := runF N__law_votes_right.length B__law_votes_right
theorem ok__law_votes_right (t : Tx K mg) : FnG P w K mg base (L2.CX P w) 6 t.a__law_votes_right t.d__law_votes_right ["hand", "votes", "size"] (spD K t.T t.ca 3 F__law_votes_right) :=
  fn_DG (k := 5) t.F__law_votes_right sc__law_votes_right (by decide) fun cdv A outer s H E hr gd =>
    (ds_cons (ds_set (i := 3) sc__law_votes_right.nd rfl (by first | exact .inl rfl | exact .inr rfl) (de_ofV (dv_call (ok__law_deal t) (hr.mono (by decide)) rfl t.g__law_deal t.F__law_deal.kp (b__law_deal t) (passes_call (takes_of rfl rfl rfl rfl) fun _ _ _ _ h => h) (da_cons (do_val (de_var (pe_var (i := 1) rfl (by first | exact .inl rfl | exact .inr (.inl rfl) | exact .inr (.inr rfl))))) (da_cons (do_val (de_var (pe_var (i := 2) rfl (by first | exact .inl rfl | exact .inr (.inl rfl) | exact .inr (.inr rfl))))) da_nil)))))
    (ds_cons (ds_asg (de_ofV (dv_call (ok_deal_rests t) (hr.mono (by decide)) rfl t.g_deal_rests t.F_deal_rests.kp (b_deal_rests t) (passes_call (takes_of rfl rfl rfl rfl) fun _ _ _ _ h => h) (da_cons (do_val (de_var (pe_var (i := 1) rfl (by first | exact .inl rfl | exact .inr (.inl rfl) | exact .inr (.inr rfl))))) (da_cons (do_val (de_var (pe_var (i := 2) rfl (by first | exact .inl rfl | exact .inr (.inl rfl) | exact .inr (.inr rfl))))) da_nil)))) (dg_tup rfl rfl (dgs_cons (dg_name (pg_name (i := 4) sc__law_votes_right.nd rfl (by first | exact .inl rfl | exact .inr rfl))) (dgs_cons (dg_name (pg_name (i := 5) sc__law_votes_right.nd rfl (by first | exact .inl rfl | exact .inr rfl))) (dgs_cons (dg_name (pg_name (i := 6) sc__law_votes_right.nd rfl (by first | exact .inl rfl | exact .inr rfl))) dgs_nil)))))
    (ds_cons (ds_if (PW.pt (dw_or (dt_cmp (op_neD hr.units) r_ne (do_val (de_callB (cr_repr gd (hu65 hr)) r_repr rfl t.n_repr rfl (da_cons (do_val (de_tup (da_cons (do_val (de_var (pe_var (i := 4) rfl (by first | exact .inl rfl | exact .inr (.inl rfl) | exact .inr (.inr rfl))))) (da_cons (do_val (de_var (pe_var (i := 5) rfl (by first | exact .inl rfl | exact .inr (.inl rfl) | exact .inr (.inr rfl))))) (da_cons (do_val (de_var (pe_var (i := 6) rfl (by first | exact .inl rfl | exact .inr (.inl rfl) | exact .inr (.inr rfl))))) da_nil))))) da_nil))) (do_val (de_callB (cr_repr gd (hu65 hr)) r_repr rfl t.n_repr rfl (da_cons (do_val (de_var (pe_var (i := 3) rfl (by first | exact .inl rfl | exact .inr (.inl rfl) | exact .inr (.inr rfl))))) da_nil))) (nomark _)) (dw_or (dt_cmp (op_neD hr.units) r_ne (do_val (de_op op_addA r_addA (do_val (de_callB (cr_sumA rfl) r_sum rfl t.n_sum rfl (da_cons (do_val (de_var (pe_var (i := 4) rfl (by first | exact .inl rfl | exact .inr (.inl rfl) | exact .inr (.inr rfl))))) da_nil))) (do_val (de_var (pe_var (i := 6) rfl (by first | exact .inl rfl | exact .inr (.inl rfl) | exact .inr (.inr rfl))))))) (do_val (de_var (pe_var (i := 2) rfl (by first | exact .inl rfl | exact .inr (.inl rfl) | exact .inr (.inr rfl))))) (nomark _)) (dw_1or (PW.pt (dw_and (dt_cmp op_gt r_gt (do_val (de_var (pe_var (i := 6) rfl (by first | exact .inl rfl | exact .inr (.inl rfl) | exact .inr (.inr rfl))))) (do_val de_int) (nomark _)) (dw_1and (dt_not (dt_chain op_lt op_lt r_lt r_lt (do_val de_int) (do_val (de_var (pe_var (i := 6) rfl (by first | exact .inl rfl | exact .inr (.inl rfl) | exact .inr (.inr rfl))))) (do_val (de_callB (cr_lenA) r_len rfl t.n_len rfl (da_cons (do_val (de_var (pe_var (i := 5) rfl (by first | exact .inl rfl | exact .inr (.inl rfl) | exact .inr (.inr rfl))))) da_nil)))))))))))) (ds_one (ds_ret de_bl)) ds_nil)
    (ds_cons (ds_set (i := 7) sc__law_votes_right.nd rfl (by first | exact .inl rfl | exact .inr rfl) (de_callB (cr_sumA rfl) r_sum rfl t.n_sum rfl (da_cons (do_val (de_var (pe_var (i := 1) rfl (by first | exact .inl rfl | exact .inr (.inl rfl) | exact .inr (.inr rfl))))) da_nil)))
    (ds_cons (ds_for (passes_of rfl) rfl (di_enum rfl rfl t.n_enumerate (da_cons (do_val (de_var (pe_var (i := 1) rfl (by first | exact .inl rfl | exact .inr (.inl rfl) | exact .inr (.inr rfl))))) da_nil)) (dg_tup rfl rfl (dgs_cons (dg_name (pg_name (i := 8) sc__law_votes_right.nd rfl (by first | exact .inl rfl | exact .inr rfl))) (dgs_cons (dg_name (pg_name (i := 9) sc__law_votes_right.nd rfl (by first | exact .inl rfl | exact .inr rfl))) dgs_nil))) (ds_cons (ds_par (i := 10) (j := 11) rfl sc__law_votes_right.nd rfl rfl (by decide) rfl rfl (dv_ofE (de_op op_fdivW r_fdiv (do_val (de_op op_mulB r_mulB (do_val (de_var (pe_var (i := 9) rfl (by first | exact .inl rfl | exact .inr (.inl rfl) | exact .inr (.inr rfl))))) (do_val (de_var (pe_var (i := 2) rfl (by first | exact .inl rfl | exact .inr (.inl rfl) | exact .inr (.inr rfl))))))) (do_val (de_var (pe_var (i := 7) rfl (by first | exact .inl rfl | exact .inr (.inl rfl) | exact .inr (.inr rfl))))))) (dv_ofE (de_op op_sub r_sub (do_val de_int) (do_val (de_op op_fdivW r_fdiv (do_val (de_op op_sub r_sub (do_val de_int) (do_val (de_op op_mulB r_mulB (do_val (de_var (pe_var (i := 9) rfl (by first | exact .inl rfl | exact .inr (.inl rfl) | exact .inr (.inr rfl))))) (do_val (de_var (pe_var (i := 2) rfl (by first | exact .inl rfl | exact .inr (.inl rfl) | exact .inr (.inr rfl))))))))) (do_val (de_var (pe_var (i := 7) rfl (by first | exact .inl rfl | exact .inr (.inl rfl) | exact .inr (.inr rfl))))))))) rfl)
    (ds_one (ds_if (PW.pt (dw_or (dt_not (dt_chain op_le op_le r_le r_le (do_val (de_var (pe_var (i := 10) rfl (by first | exact .inl rfl | exact .inr (.inl rfl) | exact .inr (.inr rfl))))) (do_val (de_ix ix_two r_ix (do_val (de_var (pe_var (i := 4) rfl (by first | exact .inl rfl | exact .inr (.inl rfl) | exact .inr (.inr rfl))))) (do_val (de_var (pe_var (i := 8) rfl (by first | exact .inl rfl | exact .inr (.inl rfl) | exact .inr (.inr rfl))))) (fun _ _ => rfl))) (do_val (de_var (pe_var (i := 11) rfl (by first | exact .inl rfl | exact .inr (.inl rfl) | exact .inr (.inr rfl))))))) (dw_1or (PW.pt (dw_and (dt_cmp (op_inA (hu65 hr)) r_in (do_val (de_var (pe_var (i := 8) rfl (by first | exact .inl rfl | exact .inr (.inl rfl) | exact .inr (.inr rfl))))) (do_val (de_var (pe_var (i := 5) rfl (by first | exact .inl rfl | exact .inr (.inl rfl) | exact .inr (.inr rfl))))) (by with_unfolding_all rfl)) (dw_1and (dt_cmp op_gt r_gt (do_val (de_op op_addA r_addA (do_val (de_ix ix_two r_ix (do_val (de_var (pe_var (i := 4) rfl (by first | exact .inl rfl | exact .inr (.inl rfl) | exact .inr (.inr rfl))))) (do_val (de_var (pe_var (i := 8) rfl (by first | exact .inl rfl | exact .inr (.inl rfl) | exact .inr (.inr rfl))))) (fun _ _ => rfl))) (do_val de_int))) (do_val (de_var (pe_var (i := 11) rfl (by first | exact .inl rfl | exact .inr (.inl rfl) | exact .inr (.inr rfl))))) (nomark _)))))))) (ds_one (ds_ret de_bl)) ds_nil))))
    (ds_cons (ds_set (i := 12) sc__law_votes_right.nd rfl (by first | exact .inl rfl | exact .inr rfl) (de_ofV (dv_call (ok__law_mixed t) (hr.mono (by decide)) rfl t.g__law_mixed t.F__law_mixed.kp (b__law_mixed t) (passes_call (takes_of rfl rfl rfl rfl) fun _ _ _ _ h => h) (da_cons (do_var (pe_var (i := 0) rfl (by first | exact .inl rfl | exact .inr (.inl rfl) | exact .inr (.inr rfl)))) (da_cons (do_val (de_callB (cr_lenA) r_len rfl t.n_len rfl (da_cons (do_val (de_var (pe_var (i := 1) rfl (by first | exact .inl rfl | exact .inr (.inl rfl) | exact .inr (.inr rfl))))) da_nil))) da_nil)))))
    (ds_cons (ds_set (i := 13) sc__law_votes_right.nd rfl (by first | exact .inl rfl | exact .inr rfl) (de_ofV (dv_call (ok_deal_rests t) (hr.mono (by decide)) rfl t.g_deal_rests t.F_deal_rests.kp (b_deal_rests t) (passes_call (takes_of rfl rfl rfl rfl) fun _ _ _ _ h => h) (da_cons (do_val (de_callT (call_tuple_of) r_tuple rfl t.n_tuple rfl (da_cons (do_val (de_frz (dn_lc (own := [("party", 8)]) rfl sc__law_votes_right.nd (di_seq rfl (do_val (de_var (pe_var (i := 12) rfl (by first | exact .inl rfl | exact .inr (.inl rfl) | exact .inr (.inr rfl)))))) (blkOk_by (sc := defScope s__law_votes_right) (N := N__law_votes_right) (by decide +kernel)) (fun _ _ _ _ _ => (dg_name (pg_name (i := 8) sc__law_votes_right.nd rfl (by first | exact .inl rfl | exact .inr rfl)))) (fun _ _ _ _ _ => dts_nil) (fun _ _ _ _ _ => (de_ix ix_two r_ix (do_val (de_var (pe_var (i := 1) rfl (by first | exact .inl rfl | exact .inr (.inl rfl) | exact .inr (.inr rfl))))) (do_val (de_var (pe_var (i := 8) rfl (by first | exact .inl rfl | exact .inr (.inl rfl) | exact .inr (.inr rfl))))) (fun _ _ => rfl))) (by decide)))) da_nil))) (da_cons (do_val (de_var (pe_var (i := 2) rfl (by first | exact .inl rfl | exact .inr (.inl rfl) | exact .inr (.inr rfl))))) da_nil)))))
    (ds_cons (ds_if (PW.pt (dw_or (dt_cmp (op_neD hr.units) r_ne (do_val (de_ix ix_two r_ix (do_val (de_var (pe_var (i := 13) rfl (by first | exact .inl rfl | exact .inr (.inl rfl) | exact .inr (.inr rfl))))) (do_val de_int) (fun _ _ => rfl))) (do_val (de_callT (call_tuple_of) r_tuple rfl t.n_tuple rfl (da_cons (do_val (de_frz (dn_lc (own := [("party", 8)]) rfl sc__law_votes_right.nd (di_seq rfl (do_val (de_var (pe_var (i := 12) rfl (by first | exact .inl rfl | exact .inr (.inl rfl) | exact .inr (.inr rfl)))))) (blkOk_by (sc := defScope s__law_votes_right) (N := N__law_votes_right) (by decide +kernel)) (fun _ _ _ _ _ => (dg_name (pg_name (i := 8) sc__law_votes_right.nd rfl (by first | exact .inl rfl | exact .inr rfl)))) (fun _ _ _ _ _ => dts_nil) (fun _ _ _ _ _ => (de_ix ix_two r_ix (do_val (de_var (pe_var (i := 4) rfl (by first | exact .inl rfl | exact .inr (.inl rfl) | exact .inr (.inr rfl))))) (do_val (de_var (pe_var (i := 8) rfl (by first | exact .inl rfl | exact .inr (.inl rfl) | exact .inr (.inr rfl))))) (fun _ _ => rfl))) (by decide)))) da_nil))) (nomark _)) (dw_1or (dt_cmp (op_neD hr.units) r_ne (do_val (de_callT (call_tuple_of) r_tuple rfl t.n_tuple rfl (da_cons (do_val (de_frz (dn_callB (cr_sortedI) r_sorted rfl t.n_sorted rfl (da_cons (do_val (de_frz (dn_lc (own := [("at", 16)]) rfl sc__law_votes_right.nd (di_seq rfl (do_val (de_ix ix_two r_ix (do_val (de_var (pe_var (i := 13) rfl (by first | exact .inl rfl | exact .inr (.inl rfl) | exact .inr (.inr rfl))))) (do_val de_int) (fun _ _ => rfl)))) (blkOk_by (sc := defScope s__law_votes_right) (N := N__law_votes_right) (by decide +kernel)) (fun _ _ _ _ _ => (dg_name (pg_name (i := 16) sc__law_votes_right.nd rfl (by first | exact .inl rfl | exact .inr rfl)))) (fun _ _ _ _ _ => dts_nil) (fun _ _ _ _ _ => (de_ix ix_two r_ix (do_val (de_var (pe_var (i := 12) rfl (by first | exact .inl rfl | exact .inr (.inl rfl) | exact .inr (.inr rfl))))) (do_val (de_var (pe_var (i := 16) rfl (by first | exact .inl rfl | exact .inr (.inl rfl) | exact .inr (.inr rfl))))) (fun _ _ => rfl))) (by decide)))) da_nil)))) da_nil))) (do_val (de_var (pe_var (i := 5) rfl (by first | exact .inl rfl | exact .inr (.inl rfl) | exact .inr (.inr rfl))))) (nomark _))))) (ds_one (ds_ret de_bl)) ds_nil)
    (ds_cons (ds_set (i := 14) sc__law_votes_right.nd rfl (by first | exact .inl rfl | exact .inr rfl) (de_op op_addA r_addA (do_val de_int) (do_val (de_ofV (dv_call (ok__law_draw t) (hr.mono (by decide)) rfl t.g__law_draw t.F__law_draw.kp (b__law_draw t) (passes_call (takes_of rfl rfl rfl rfl) fun _ _ _ _ h => h) (da_cons (do_var (pe_var (i := 0) rfl (by first | exact .inl rfl | exact .inr (.inl rfl) | exact .inr (.inr rfl)))) (da_cons (do_val de_int) da_nil)))))))
    (ds_cons (ds_if (dt_cmp (op_neD hr.units) r_ne (do_val (de_ofV (dv_call (ok_deal_rests t) (hr.mono (by decide)) rfl t.g_deal_rests t.F_deal_rests.kp (b_deal_rests t) (passes_call (takes_of rfl rfl rfl rfl) fun _ _ _ _ h => h) (da_cons (do_val (de_callT (call_tuple_of) r_tuple rfl t.n_tuple rfl (da_cons (do_val (de_frz (dn_lc (own := [("many", 9)]) rfl sc__law_votes_right.nd (di_seq rfl (do_val (de_var (pe_var (i := 1) rfl (by first | exact .inl rfl | exact .inr (.inl rfl) | exact .inr (.inr rfl)))))) (blkOk_by (sc := defScope s__law_votes_right) (N := N__law_votes_right) (by decide +kernel)) (fun _ _ _ _ _ => (dg_name (pg_name (i := 9) sc__law_votes_right.nd rfl (by first | exact .inl rfl | exact .inr rfl)))) (fun _ _ _ _ _ => dts_nil) (fun _ _ _ _ _ => (de_op op_mulB r_mulB (do_val (de_var (pe_var (i := 14) rfl (by first | exact .inl rfl | exact .inr (.inl rfl) | exact .inr (.inr rfl))))) (do_val (de_var (pe_var (i := 9) rfl (by first | exact .inl rfl | exact .inr (.inl rfl) | exact .inr (.inr rfl))))))) (by decide)))) da_nil))) (da_cons (do_val (de_var (pe_var (i := 2) rfl (by first | exact .inl rfl | exact .inr (.inl rfl) | exact .inr (.inr rfl))))) da_nil))))) (do_val (de_var (pe_var (i := 3) rfl (by first | exact .inl rfl | exact .inr (.inl rfl) | exact .inr (.inr rfl))))) (nomark _)) (ds_one (ds_ret de_bl)) ds_nil)
    (ds_cons (ds_set (i := 15) sc__law_votes_right.nd rfl (by first | exact .inl rfl | exact .inr rfl) (de_ofV (dv_call (ok_deal_rests t) (hr.mono (by decide)) rfl t.g_deal_rests t.F_deal_rests.kp (b_deal_rests t) (passes_call (takes_of rfl rfl rfl rfl) fun _ _ _ _ h => h) (da_cons (do_val (de_var (pe_var (i := 1) rfl (by first | exact .inl rfl | exact .inr (.inl rfl) | exact .inr (.inr rfl))))) (da_cons (do_val (de_op op_addA r_addA (do_val (de_var (pe_var (i := 2) rfl (by first | exact .inl rfl | exact .inr (.inl rfl) | exact .inr (.inr rfl))))) (do_val (de_var (pe_var (i := 7) rfl (by first | exact .inl rfl | exact .inr (.inl rfl) | exact .inr (.inr rfl))))))) da_nil)))))
    (ds_one (ds_ret (de_cmp (op_eqD hr.units) r_eq (do_val (de_var (pe_var (i := 15) rfl (by first | exact .inl rfl | exact .inr (.inl rfl) | exact .inr (.inr rfl))))) (do_val (de_tup (da_cons (do_val (de_callT (call_tuple_of) r_tuple rfl t.n_tuple rfl (da_cons (do_val (de_frz (dn_lc (own := [("here", 17), ("many", 9)]) rfl sc__law_votes_right.nd (di_zip rfl rfl t.n_zip (da_cons (do_val (de_var (pe_var (i := 4) rfl (by first | exact .inl rfl | exact .inr (.inl rfl) | exact .inr (.inr rfl))))) (da_cons (do_val (de_var (pe_var (i := 1) rfl (by first | exact .inl rfl | exact .inr (.inl rfl) | exact .inr (.inr rfl))))) da_nil))) (blkOk_by (sc := defScope s__law_votes_right) (N := N__law_votes_right) (by decide +kernel)) (fun _ _ _ _ _ => (dg_tup rfl rfl (dgs_cons (dg_name (pg_name (i := 17) sc__law_votes_right.nd rfl (by first | exact .inl rfl | exact .inr rfl))) (dgs_cons (dg_name (pg_name (i := 9) sc__law_votes_right.nd rfl (by first | exact .inl rfl | exact .inr rfl))) dgs_nil)))) (fun _ _ _ _ _ => dts_nil) (fun _ _ _ _ _ => (de_op op_addA r_addA (do_val (de_var (pe_var (i := 17) rfl (by first | exact .inl rfl | exact .inr (.inl rfl) | exact .inr (.inr rfl))))) (do_val (de_var (pe_var (i := 9) rfl (by first | exact .inl rfl | exact .inr (.inl rfl) | exact .inr (.inr rfl))))))) (by decide)))) da_nil))) (da_cons (do_val (de_var (pe_var (i := 5) rfl (by first | exact .inl rfl | exact .inr (.inl rfl) | exact .inr (.inr rfl))))) (da_cons (do_val (de_var (pe_var (i := 6) rfl (by first | exact .inl rfl | exact .inr (.inl rfl) | exact .inr (.inr rfl))))) da_nil))))) (nomark _)))))))))))))))
/-! ### _law_said -/
abbrev s__law_said : Stmt := top 25
abbrev N__law_said : List Str := ["call", "error", "flags"]
theorem sc__law_said : FnScope N__law_said ["call"] (defScope s__law_said) := ⟨rfl, rfl, rfl, by decide +kernel, rfl, by decide +kernel, by decide +kernel⟩
theorem b__law_said (t : Tx K mg) : Binds K t.d__law_said ["call"] [] := t.F__law_said.binds (ps := ["call"]) fun _ _ _ _ _ _ us hl => match us, hl with | [_], _ => rfl
def T__law_said : SemS := (sRet (dC (.str "told")))
def S0__law_said (ea : Addr) : SemS := (sSeq (sAsg (dFrz (dLst (aCons (oVal (d1 (isE ea true) (oVal (dVar 1)))) (aCons (oVal (d1 (isE ea false) (oVal (dVar 1)))) aNil)))) (tgN 2))
  (sSeq (sIf (dOr (dB (d2 pNe (oVal (dM pCount (oVal (dVar 2)) (oVal (dC (.bool true))))) (oVal (dC (.int 1))))) (dNot (dB (d1 (isE ea true) (oVal (dVar 1)))))) (sRet (dC (.str "other"))) sNext)
  (sRet (dIf (dB (d2 pIx (oVal (dVar 2)) (oVal (dC (.int 0))))) (dC (.str "votes")) (dC (.str "size"))))))
def S1__law_said (ea : Addr) : SemS := (sSeq (sAsg (dFrz (dLst (aCons (oVal (d1 (isE ea false) (oVal (dVar 1)))) (aCons (oVal (d1 (isE ea true) (oVal (dVar 1)))) aNil)))) (tgN 2))
  (sSeq (sIf (dOr (dB (d2 pNe (oVal (dM pCount (oVal (dVar 2)) (oVal (dC (.bool true))))) (oVal (dC (.int 1))))) (dNot (dB (d1 (isE ea true) (oVal (dVar 1)))))) (sRet (dC (.str "other"))) sNext)
  (sRet (dIf (dB (d2 pIx (oVal (dVar 2)) (oVal (dC (.int 0))))) (dC (.str "votes")) (dC (.str "size"))))))
def S__law_said (ea : Addr) (m : Nat) : SemS := match m with
  | 0 => S0__law_said ea
  | 1 => S1__law_said ea
  | _ => sNext
def okF__law_said : PyData → R PyData := fun _ => retOf (T__law_said (nos N__law_said.length))
def exF__law_said (m : Nat) : R PyData := match m with
  | 0 => .ok (.str "votes")
  | 1 => .ok (.str "size")
  | _ => .bad
theorem ex0__law_said (ea : Addr) : retOf (afterH 1 (S__law_said ea 0) T__law_said ((nos N__law_said.length).set 1 (.dat (.dict [(.none, .int (ea : Nat))])))) = exF__law_said 0 := by
  simp [S__law_said, S0__law_said, T__law_said, exF__law_said, afterH, retOf, sSeq, sThen, sAsg, sIf, sRet, sRetV, dFrz, dLst, dTup, aCons, aNil, oVal, oAny, dVar, d1, d2, dB, dNot, dAnd, dOr, dAndV, dOrV, dNotV, dOfB, dM, dC, dIf, dA, resAll, isE, vals, few, tgN, ioAt, ofR, nos, Op.res, asList, pCount, pIndex, findD, pIx, pEq, pNe, plainD, nd, nd.ndAll, SeqAt.shaped, PyData.canLay0, PyData.canLayAll0, PyData.depth, PyData.depthAll, sNext, PyData.eqv, PyData.eqvAll, atI, ixN, List.replicate]
theorem ex1__law_said (ea : Addr) : retOf (afterH 1 (S__law_said ea 1) T__law_said ((nos N__law_said.length).set 1 (.dat (.dict [(.none, .int (ea : Nat))])))) = exF__law_said 1 := by
  simp [S__law_said, S1__law_said, T__law_said, exF__law_said, afterH, retOf, sSeq, sThen, sAsg, sIf, sRet, sRetV, dFrz, dLst, dTup, aCons, aNil, oVal, oAny, dVar, d1, d2, dB, dNot, dAnd, dOr, dAndV, dOrV, dNotV, dOfB, dM, dC, dIf, dA, resAll, isE, vals, few, tgN, ioAt, ofR, nos, Op.res, asList, pCount, pIndex, findD, pIx, pEq, pNe, plainD, nd, nd.ndAll, SeqAt.shaped, PyData.canLay0, PyData.canLayAll0, PyData.depth, PyData.depthAll, sNext, PyData.eqv, PyData.eqvAll, atI, ixN, List.replicate]
theorem gives__law_said (t : Tx K mg) (X : Cx) (eK : X.K = K) (eM : X.mg = mg) (cdv : Value) {C : Ct} (eC : (C.K, C.T, C.ca) = (K, t.T, t.ca)) {k : Nat} (hr : Room k X.A) {qn : Str} : GivesTo X N__law_said "_law_said" (defScope s__law_said) t.a__law_said cdv (defBody s__law_said) "call" qn (TSaid C okF__law_said exF__law_said) := by
  obtain ⟨CK, CT, Cca, CE⟩ := C
  simp only [Prod.mk.injEq] at eC
  obtain ⟨e1, e2, e3⟩ := eC
  subst e2 e3
  subst e1
  subst eM
  subst eK
  have hun : X.A.units + 200 < cLine := by have := hr.un; omega
  refine said_gives (Sx := S__law_said) (T := T__law_said) (j := 1) rfl rfl t.g_ChairError (by decide) sc__law_said.nd rfl rfl (by decide) ?hex ?hsu ?hre ?hok ?hxx
  case hex =>
    intro m z e
    match m, e with
    | 0, _ => exact t.m_BadVotes
    | 1, _ => exact t.m_NoSize
    | (_ + 2), e => cases e
  case hsu =>
    intro m z e s H ea oe pn hz hf
    have hu4 : ((cxOf C8.CX0 X.prog X.w X.K X.mg X.base N__law_said "_law_said" (defScope s__law_said) t.a__law_said cdv X.A X.stack s H C8.E0).nox.suite ea ((ea, oe) :: pn)).A.units + 64 < cLine := by show X.A.units + 3 + 64 < _; omega
    have hu5 : ((cxOf C8.CX0 X.prog X.w X.K X.mg X.base N__law_said "_law_said" (defScope s__law_said) t.a__law_said cdv X.A X.stack s H C8.E0).nox.suite ea ((ea, oe) :: pn)).A.units + 65 < cLine := by show X.A.units + 3 + 65 < _; omega
    match m, e with
    | 0, _ => exact (ds_cons (ds_set (i := 2) sc__law_said.nd rfl (by first | exact .inl rfl | exact .inr rfl) (de_frz (dn_lst (da_cons (do_val (de_isE t.x_BadVotes hz hf (do_val (de_var (pe_var (i := 1) rfl (by first | exact .inl rfl | exact .inr (.inl rfl) | exact .inr (.inr rfl))))) rfl rfl t.n_isinstance (pe_glob (v := .ref t.e_BadVotes) rfl t.g_BadVotes rfl) (fun _ h => h) t.i_BadVotes_BadVotes)) (da_cons (do_val (de_isE t.x_BadVotes hz hf (do_val (de_var (pe_var (i := 1) rfl (by first | exact .inl rfl | exact .inr (.inl rfl) | exact .inr (.inr rfl))))) rfl rfl t.n_isinstance (pe_glob (v := .ref t.e_NoSize) rfl t.g_NoSize rfl) (fun _ h => h) t.i_BadVotes_NoSize)) da_nil)))))
    (ds_cons (ds_if (PW.pt (dw_or (dt_cmp (op_neD hu4) r_ne (do_val (de_count rfl hu5 (do_val (de_var (pe_var (i := 2) rfl (by first | exact .inl rfl | exact .inr (.inl rfl) | exact .inr (.inr rfl))))) (do_val de_bl))) (do_val de_int) (nomark _)) (dw_1or (dt_not (dt_val (de_isE t.x_BadVotes hz hf (do_val (de_var (pe_var (i := 1) rfl (by first | exact .inl rfl | exact .inr (.inl rfl) | exact .inr (.inr rfl))))) rfl rfl t.n_isinstance (pe_bltn (v := .ty "ValueError") rfl t.n_ValueError rfl rfl) (fun _ h => h) t.i_BadVotes_ValueError)))))) (ds_one (ds_ret de_str)) ds_nil)
    (ds_one (ds_ret (de_if (dt_val (de_ix ix_two r_ix (do_val (de_var (pe_var (i := 2) rfl (by first | exact .inl rfl | exact .inr (.inl rfl) | exact .inr (.inr rfl))))) (do_val de_int) (fun _ _ => rfl))) de_str de_str)))))
    | 1, _ => exact (ds_cons (ds_set (i := 2) sc__law_said.nd rfl (by first | exact .inl rfl | exact .inr rfl) (de_frz (dn_lst (da_cons (do_val (de_isE t.x_NoSize hz hf (do_val (de_var (pe_var (i := 1) rfl (by first | exact .inl rfl | exact .inr (.inl rfl) | exact .inr (.inr rfl))))) rfl rfl t.n_isinstance (pe_glob (v := .ref t.e_BadVotes) rfl t.g_BadVotes rfl) (fun _ h => h) t.i_NoSize_BadVotes)) (da_cons (do_val (de_isE t.x_NoSize hz hf (do_val (de_var (pe_var (i := 1) rfl (by first | exact .inl rfl | exact .inr (.inl rfl) | exact .inr (.inr rfl))))) rfl rfl t.n_isinstance (pe_glob (v := .ref t.e_NoSize) rfl t.g_NoSize rfl) (fun _ h => h) t.i_NoSize_NoSize)) da_nil)))))
    (ds_cons (ds_if (PW.pt (dw_or (dt_cmp (op_neD hu4) r_ne (do_val (de_count rfl hu5 (do_val (de_var (pe_var (i := 2) rfl (by first | exact .inl rfl | exact .inr (.inl rfl) | exact .inr (.inr rfl))))) (do_val de_bl))) (do_val de_int) (nomark _)) (dw_1or (dt_not (dt_val (de_isE t.x_NoSize hz hf (do_val (de_var (pe_var (i := 1) rfl (by first | exact .inl rfl | exact .inr (.inl rfl) | exact .inr (.inr rfl))))) rfl rfl t.n_isinstance (pe_bltn (v := .ty "ValueError") rfl t.n_ValueError rfl rfl) (fun _ h => h) t.i_NoSize_ValueError)))))) (ds_one (ds_ret de_str)) ds_nil)
    (ds_one (ds_ret (de_if (dt_val (de_ix ix_two r_ix (do_val (de_var (pe_var (i := 2) rfl (by first | exact .inl rfl | exact .inr (.inl rfl) | exact .inr (.inr rfl))))) (do_val de_int) (fun _ _ => rfl))) de_str de_str)))))
    | (_ + 2), e => cases e
  case hre => exact fun s H => (ds_one (ds_ret de_str))
  case hok => exact fun r z h => h
  case hxx =>
    intro m z ea e
    match m, e with
    | 0, e => exact (ex0__law_said ea).trans e
    | 1, e => exact (ex1__law_said ea).trans e
    | (_ + 2), e => cases e
/-! ### _law_two_said -/
abbrev s__law_two_said : Stmt := top 27
abbrev N__law_two_said : List Str := ["votes", "size"]
theorem sc__law_two_said : FnScope N__law_two_said ["votes", "size"] (defScope s__law_two_said) := ⟨rfl, rfl, rfl, by decide +kernel, rfl, by decide +kernel, by decide +kernel⟩
theorem b__law_two_said (t : Tx K mg) : Binds K t.d__law_two_said ["votes", "size"] [] := t.F__law_two_said.binds (ps := ["votes", "size"]) fun _ _ _ _ _ _ us hl => match us, hl with | [_, _], _ => rfl
def B__law_two_said : SemS := (sRet (dSaid okF__law_said exF__law_said (rvE (dCall 2 F_deal_rests (aCons (oVal (dVar 0)) (aCons (oVal (dVar 1)) aNil))))))
def F__law_two_said : Fn := runF N__law_two_said.length B__law_two_said
theorem ok__law_two_said (t : Tx K mg) (tb : ∀ p ∈ t.cs, LamX.TabB base mg p.1 p.2) : FnOk P w K mg base (L2.CX P w) 8 t.a__law_two_said t.d__law_two_said ["votes", "size"] (spD K t.T t.ca 2 F__law_two_said) :=
  fn_DC (k := 7) t.H__law_two_said sc__law_two_said (by decide) fun A outer s H E hr =>
    (ds_one (ds_ret (dl_said (k := 5) rfl t.g__law_said t.F__law_said (b__law_said t) sc__law_said rfl (by first | exact .inl rfl | exact .inr (.inl rfl) | exact .inr (.inr rfl)) (fun cdv => gives__law_said t _ rfl rfl cdv rfl hr) (tb (t.c__law_two_said, t.P__law_two_said) (List.Mem.head _)) rfl (List.Mem.head _) t.nd (hr.mono (by decide)) (lamS_by (sc := defScope s__law_two_said) (by decide +kernel)) rfl (fun _ _ _ _ _ => rfl) (fun A outer s H E f c hr => (de_ofV (dv_call (ok_deal_rests t) (hr.mono (by decide)) rfl t.g_deal_rests t.F_deal_rests.kp (b_deal_rests t) (passes_call (takes_of rfl rfl rfl rfl) fun _ _ _ _ h => h) (da_cons (do_val (de_var (pe_var (i := 0) rfl (by first | exact .inl rfl | exact .inr (.inl rfl) | exact .inr (.inr rfl))))) (da_cons (do_val (de_var (pe_var (i := 1) rfl (by first | exact .inl rfl | exact .inr (.inl rfl) | exact .inr (.inr rfl))))) da_nil))))))))
/-! ### _law_refused_right -/
abbrev s__law_refused_right : Stmt := top 26
abbrev N__law_refused_right : List Str := ["hand", "votes", "bad", "none"]
theorem sc__law_refused_right : FnScope N__law_refused_right ["hand", "votes"] (defScope s__law_refused_right) := ⟨rfl, rfl, rfl, by decide +kernel, rfl, by decide +kernel, by decide +kernel⟩
theorem b__law_refused_right (t : Tx K mg) : Binds K t.d__law_refused_right ["hand", "votes"] [] := t.F__law_refused_right.binds (ps := ["hand", "votes"]) fun _ _ _ _ _ _ us hl => match us, hl with | [_, _], _ => rfl
def B__law_refused_right : SemS := (sSeq (sAsg (dFrz (dLst (aCons (oVal (dC .none)) (aCons (oVal (dC (.int 0))) (aCons (oVal (dTup aNil)) (aCons (oVal (dTup (aCons (oVal (dC (.int 0))) (aCons (oVal (dC (.int 0))) aNil)))) (aCons (oVal (dFrz (dLst (aCons (oVal (dC (.int 1))) (aCons (oVal (dC (.int 2))) aNil))))) (aCons (oVal (dTup (aCons (oVal (d1 pNeg (oVal (dC (.int 1))))) (aCons (oVal (dC (.int 2))) aNil)))) (aCons (oVal (dTup (aCons (oVal (dC (.bool true))) (aCons (oVal (dC (.int 1))) aNil)))) (aCons (oVal (dTup (aCons (oVal (dC (.int 1))) (aCons (oVal (dC .none)) aNil)))) (aCons (oVal (dTup (aCons (oVal (d2 pAddA (oVal (d2 pPow (oVal (dC (.int 10))) (oVal (dC (.int 15))))) (oVal (dC (.int 1))))) aNil))) (aCons (oVal (d2 pMulA (oVal (dTup (aCons (oVal (dC (.int 1))) aNil))) (oVal (dC (.int 201))))) (aCons (oVal (dC (.str "x"))) (aCons (oVal (dC (.dict []))) (aCons (oVal (dTup (aCons (oVal (dC (.str "1"))) aNil))) aNil))))))))))))))) (tgN 2))
  (sSeq (sAsg (rvE (dCall 2 F__law_any (aCons (oVar 0) (aCons (oVal (dVar 2)) aNil)))) (tgN 2))
  (sSeq (sAsg (rvE (dCall 2 F__law_any (aCons (oVar 0) (aCons (oVal (dFrz (dLst (aCons (oVal (d1 pNeg (oVal (dC (.int 1))))) (aCons (oVal (d2 pAddA (oVal (d2 pPow (oVal (dC (.int 10))) (oVal (dC (.int 30))))) (oVal (dC (.int 1))))) (aCons (oVal (dC .none)) (aCons (oVal (dC (.bool true))) (aCons (oVal (dC (.str "1"))) (aCons (oVal (dTup (aCons (oVal (dC (.int 1))) aNil))) (aCons (oVal (dFrz (dLst (aCons (oVal (dC (.int 1))) aNil)))) (aCons (oVal (dC (.dict []))) aNil))))))))))) aNil)))) (tgN 3))
  (sRet (d2 pEq (oVal (dFrz (dLst (aCons (oVal (rvE (dCall 2 F__law_two_said (aCons (oVal (dVar 2)) (aCons (oVal (dVar 3)) aNil))))) (aCons (oVal (rvE (dCall 2 F__law_two_said (aCons (oVal (dVar 1)) (aCons (oVal (dVar 3)) aNil))))) aNil))))) (oVal (dFrz (dLst (aCons (oVal (dC (.str "votes"))) (aCons (oVal (dC (.str "size"))) aNil))))))))))
def F__law_refused_right : Fn := runF N__law_refused_right.length B__law_refused_right
theorem ok__law_refused_right (t : Tx K mg) (tb : ∀ p ∈ t.cs, LamX.TabB base mg p.1 p.2) : FnOk P w K mg base (L2.CX P w) 9 t.a__law_refused_right t.d__law_refused_right ["hand", "votes"] (spD K t.T t.ca 2 F__law_refused_right) :=
  fn_D (k := 8) t.F__law_refused_right sc__law_refused_right (by decide) fun cdv A outer s H E hr =>
    (ds_cons (ds_set (i := 2) sc__law_refused_right.nd rfl (by first | exact .inl rfl | exact .inr rfl) (de_frz (dn_lst (da_cons (do_val de_non) (da_cons (do_val de_int) (da_cons (do_val (de_tup da_nil)) (da_cons (do_val (de_tup (da_cons (do_val de_int) (da_cons (do_val de_int) da_nil)))) (da_cons (do_val (de_frz (dn_lst (da_cons (do_val de_int) (da_cons (do_val de_int) da_nil))))) (da_cons (do_val (de_tup (da_cons (do_val (de_un un_neg r_neg (do_val de_int))) (da_cons (do_val de_int) da_nil)))) (da_cons (do_val (de_tup (da_cons (do_val de_bl) (da_cons (do_val de_int) da_nil)))) (da_cons (do_val (de_tup (da_cons (do_val de_int) (da_cons (do_val de_non) da_nil)))) (da_cons (do_val (de_tup (da_cons (do_val (de_op op_addA r_addA (do_val (de_op op_pow r_pow (do_val de_int) (do_val de_int))) (do_val de_int))) da_nil))) (da_cons (do_val (de_op op_mulB r_mulB (do_val (de_tup (da_cons (do_val de_int) da_nil))) (do_val de_int))) (da_cons (do_val de_str) (da_cons (do_val de_dict0) (da_cons (do_val (de_tup (da_cons (do_val de_str) da_nil))) da_nil))))))))))))))))
    (ds_cons (ds_set (i := 2) sc__law_refused_right.nd rfl (by first | exact .inl rfl | exact .inr rfl) (de_ofV (dv_call (ok__law_any t) (hr.mono (by decide)) rfl t.g__law_any t.F__law_any.kp (b__law_any t) (passes_call (takes_of rfl rfl rfl rfl) fun _ _ _ _ h => h) (da_cons (do_var (pe_var (i := 0) rfl (by first | exact .inl rfl | exact .inr (.inl rfl) | exact .inr (.inr rfl)))) (da_cons (do_val (de_var (pe_var (i := 2) rfl (by first | exact .inl rfl | exact .inr (.inl rfl) | exact .inr (.inr rfl))))) da_nil)))))
    (ds_cons (ds_set (i := 3) sc__law_refused_right.nd rfl (by first | exact .inl rfl | exact .inr rfl) (de_ofV (dv_call (ok__law_any t) (hr.mono (by decide)) rfl t.g__law_any t.F__law_any.kp (b__law_any t) (passes_call (takes_of rfl rfl rfl rfl) fun _ _ _ _ h => h) (da_cons (do_var (pe_var (i := 0) rfl (by first | exact .inl rfl | exact .inr (.inl rfl) | exact .inr (.inr rfl)))) (da_cons (do_val (de_frz (dn_lst (da_cons (do_val (de_un un_neg r_neg (do_val de_int))) (da_cons (do_val (de_op op_addA r_addA (do_val (de_op op_pow r_pow (do_val de_int) (do_val de_int))) (do_val de_int))) (da_cons (do_val de_non) (da_cons (do_val de_bl) (da_cons (do_val de_str) (da_cons (do_val (de_tup (da_cons (do_val de_int) da_nil))) (da_cons (do_val (de_frz (dn_lst (da_cons (do_val de_int) da_nil)))) (da_cons (do_val de_dict0) da_nil))))))))))) da_nil)))))
    (ds_one (ds_ret (de_cmp (op_eqD hr.units) r_eq (do_val (de_frz (dn_lst (da_cons (do_val (de_ofV (dv_call (ok__law_two_said t tb) (hr.mono (by decide)) rfl t.g__law_two_said t.F__law_two_said.kp (b__law_two_said t) (passes_call (takes_of rfl rfl rfl rfl) fun _ _ _ _ h => h) (da_cons (do_val (de_var (pe_var (i := 2) rfl (by first | exact .inl rfl | exact .inr (.inl rfl) | exact .inr (.inr rfl))))) (da_cons (do_val (de_var (pe_var (i := 3) rfl (by first | exact .inl rfl | exact .inr (.inl rfl) | exact .inr (.inr rfl))))) da_nil))))) (da_cons (do_val (de_ofV (dv_call (ok__law_two_said t tb) (hr.mono (by decide)) rfl t.g__law_two_said t.F__law_two_said.kp (b__law_two_said t) (passes_call (takes_of rfl rfl rfl rfl) fun _ _ _ _ h => h) (da_cons (do_val (de_var (pe_var (i := 1) rfl (by first | exact .inl rfl | exact .inr (.inl rfl) | exact .inr (.inr rfl))))) (da_cons (do_val (de_var (pe_var (i := 3) rfl (by first | exact .inl rfl | exact .inr (.inl rfl) | exact .inr (.inr rfl))))) da_nil))))) da_nil))))) (do_val (de_frz (dn_lst (da_cons (do_val de_str) (da_cons (do_val de_str) da_nil))))) (nomark _)))))))
/-! ### law -/
abbrev s_law : Stmt := top 28
abbrev N_law : List Str := ["script", "hand", "told", "turn", "votes", "size"]
theorem sc_law : FnScope N_law ["script"] (defScope s_law) := ⟨rfl, rfl, rfl, by decide +kernel, rfl, by decide +kernel, by decide +kernel⟩
theorem b_law (t : Tx K mg) : Binds K t.d_law ["script"] [] := t.F_law.binds (ps := ["script"]) fun _ _ _ _ _ _ us hl => match us, hl with | [_], _ => rfl
def B_law : SemS := (sSeq (sOwn (rvN (dCall 1 F__law_hand (aCons (oVal (dVar 0)) aNil))) 1)
  (sSeq (sAsg (dFrz (dLst (aCons (oVal (rvE (dCall 2 F_deal_rests (aCons (oVal (dTup (aCons (oVal (dC (.int 5))) (aCons (oVal (dC (.int 3))) (aCons (oVal (dC (.int 2))) aNil))))) (aCons (oVal (dC (.int 4))) aNil))))) (aCons (oVal (rvE (dCall 2 F_deal_rests (aCons (oVal (dTup (aCons (oVal (dC (.int 1))) (aCons (oVal (dC (.int 1))) aNil)))) (aCons (oVal (dC (.int 3))) aNil))))) (aCons (oVal (rvE (dCall 2 F_deal_rests (aCons (oVal (dTup (aCons (oVal (dC (.int 1))) (aCons (oVal (dC (.int 0))) (aCons (oVal (dC (.int 1))) aNil))))) (aCons (oVal (dC (.int 1))) aNil))))) (aCons (oVal (rvE (dCall 2 F_deal_rests (aCons (oVal (dTup (aCons (oVal (dC (.int 7))) aNil))) (aCons (oVal (dC (.int 5))) aNil))))) aNil)))))) (tgN 2))
  (sSeq (sIf (dB (d2 pNe (oVal (dA pRepr (aCons (oVal (dVar 2)) aNil))) (oVal (dA pRepr (aCons (oVal (dFrz (dLst (aCons (oVal (dTup (aCons (oVal (dTup (aCons (oVal (dC (.int 2))) (aCons (oVal (dC (.int 1))) (aCons (oVal (dC (.int 1))) aNil))))) (aCons (oVal (dTup aNil)) (aCons (oVal (dC (.int 0))) aNil))))) (aCons (oVal (dTup (aCons (oVal (dTup (aCons (oVal (dC (.int 1))) (aCons (oVal (dC (.int 1))) aNil)))) (aCons (oVal (dTup (aCons (oVal (dC (.int 0))) (aCons (oVal (dC (.int 1))) aNil)))) (aCons (oVal (dC (.int 1))) aNil))))) (aCons (oVal (dTup (aCons (oVal (dTup (aCons (oVal (dC (.int 0))) (aCons (oVal (dC (.int 0))) (aCons (oVal (dC (.int 0))) aNil))))) (aCons (oVal (dTup (aCons (oVal (dC (.int 0))) (aCons (oVal (dC (.int 2))) aNil)))) (aCons (oVal (dC (.int 1))) aNil))))) (aCons (oVal (dTup (aCons (oVal (dTup (aCons (oVal (dC (.int 5))) aNil))) (aCons (oVal (dTup aNil)) (aCons (oVal (dC (.int 0))) aNil))))) aNil))))))) aNil))))) (sRet (dC (.bool false))) sNext)
  (sSeq (sFor (itA rng1 (aCons (oVal (dC (.int 5))) aNil)) (tgN 3) (sSeq (sPar 4 5 (dCall 1 F__law_votes (aCons (oVar 1) aNil)) (dCall 2 F__law_any (aCons (oVar 1) (aCons (oVal (dFrz (dLst (aCons (oVal (rvE (dCall 2 F__law_draw (aCons (oVar 1) (aCons (oVal (dC (.int 30))) aNil))))) (aCons (oVal (rvE (dCall 2 F__law_draw (aCons (oVar 1) (aCons (oVal (dC (.int 2000))) aNil))))) (aCons (oVal (d2 pPow (oVal (dC (.int 10))) (oVal (dC (.int 20))))) aNil)))))) aNil))))
  (sIf (dOr (dNot (dB (rvE (dCall 3 F__law_votes_right (aCons (oVar 1) (aCons (oVal (dVar 4)) (aCons (oVal (dVar 5)) aNil))))))) (dNot (dB (rvE (dCall 2 F__law_refused_right (aCons (oVar 1) (aCons (oVal (dVar 4)) aNil))))))) (sRet (dC (.bool false))) sNext)))
  (sRet (dC (.bool true)))))))
def F_law : Fn := runF N_law.length B_law
theorem ok_law (t : Tx K mg) (tb : ∀ p ∈ t.cs, LamX.TabB base mg p.1 p.2) : FnG P w K mg base (L2.CX P w) 10 t.a_law t.d_law ["script"] (spD K t.T t.ca 1 F_law) :=
  fn_DG (k := 9) t.F_law sc_law (by decide) fun cdv A outer s H E hr gd =>
    (ds_cons (ds_own (i := 1) sc_law.nd rfl (by first | exact .inl rfl | exact .inr rfl) (dn_ofV (dv_call (ok__law_hand t) (hr.mono (by decide)) rfl t.g__law_hand t.F__law_hand.kp (b__law_hand t) (passes_call (takes_of rfl rfl rfl rfl) fun _ _ _ _ h => h) (da_cons (do_val (de_var (pe_var (i := 0) rfl (by first | exact .inl rfl | exact .inr (.inl rfl) | exact .inr (.inr rfl))))) da_nil))))
    (ds_cons (ds_set (i := 2) sc_law.nd rfl (by first | exact .inl rfl | exact .inr rfl) (de_frz (dn_lst (da_cons (do_val (de_ofV (dv_call (ok_deal_rests t) (hr.mono (by decide)) rfl t.g_deal_rests t.F_deal_rests.kp (b_deal_rests t) (passes_call (takes_of rfl rfl rfl rfl) fun _ _ _ _ h => h) (da_cons (do_val (de_tup (da_cons (do_val de_int) (da_cons (do_val de_int) (da_cons (do_val de_int) da_nil))))) (da_cons (do_val de_int) da_nil))))) (da_cons (do_val (de_ofV (dv_call (ok_deal_rests t) (hr.mono (by decide)) rfl t.g_deal_rests t.F_deal_rests.kp (b_deal_rests t) (passes_call (takes_of rfl rfl rfl rfl) fun _ _ _ _ h => h) (da_cons (do_val (de_tup (da_cons (do_val de_int) (da_cons (do_val de_int) da_nil)))) (da_cons (do_val de_int) da_nil))))) (da_cons (do_val (de_ofV (dv_call (ok_deal_rests t) (hr.mono (by decide)) rfl t.g_deal_rests t.F_deal_rests.kp (b_deal_rests t) (passes_call (takes_of rfl rfl rfl rfl) fun _ _ _ _ h => h) (da_cons (do_val (de_tup (da_cons (do_val de_int) (da_cons (do_val de_int) (da_cons (do_val de_int) da_nil))))) (da_cons (do_val de_int) da_nil))))) (da_cons (do_val (de_ofV (dv_call (ok_deal_rests t) (hr.mono (by decide)) rfl t.g_deal_rests t.F_deal_rests.kp (b_deal_rests t) (passes_call (takes_of rfl rfl rfl rfl) fun _ _ _ _ h => h) (da_cons (do_val (de_tup (da_cons (do_val de_int) da_nil))) (da_cons (do_val de_int) da_nil))))) da_nil)))))))
    (ds_cons (ds_if (dt_cmp (op_neD hr.units) r_ne (do_val (de_callB (cr_repr gd (hu65 hr)) r_repr rfl t.n_repr rfl (da_cons (do_val (de_var (pe_var (i := 2) rfl (by first | exact .inl rfl | exact .inr (.inl rfl) | exact .inr (.inr rfl))))) da_nil))) (do_val (de_callB (cr_repr gd (hu65 hr)) r_repr rfl t.n_repr rfl (da_cons (do_val (de_frz (dn_lst (da_cons (do_val (de_tup (da_cons (do_val (de_tup (da_cons (do_val de_int) (da_cons (do_val de_int) (da_cons (do_val de_int) da_nil))))) (da_cons (do_val (de_tup da_nil)) (da_cons (do_val de_int) da_nil))))) (da_cons (do_val (de_tup (da_cons (do_val (de_tup (da_cons (do_val de_int) (da_cons (do_val de_int) da_nil)))) (da_cons (do_val (de_tup (da_cons (do_val de_int) (da_cons (do_val de_int) da_nil)))) (da_cons (do_val de_int) da_nil))))) (da_cons (do_val (de_tup (da_cons (do_val (de_tup (da_cons (do_val de_int) (da_cons (do_val de_int) (da_cons (do_val de_int) da_nil))))) (da_cons (do_val (de_tup (da_cons (do_val de_int) (da_cons (do_val de_int) da_nil)))) (da_cons (do_val de_int) da_nil))))) (da_cons (do_val (de_tup (da_cons (do_val (de_tup (da_cons (do_val de_int) da_nil))) (da_cons (do_val (de_tup da_nil)) (da_cons (do_val de_int) da_nil))))) da_nil))))))) da_nil))) (nomark _)) (ds_one (ds_ret de_bl)) ds_nil)
    (ds_cons (ds_for (passes_of rfl) rfl (di_range1 rfl t.n_range (da_cons (do_val de_int) da_nil)) (dg_name (pg_name (i := 3) sc_law.nd rfl (by first | exact .inl rfl | exact .inr rfl))) (ds_cons (ds_par (i := 4) (j := 5) rfl sc_law.nd rfl rfl (by decide) rfl rfl (dv_call (ok__law_votes t) (hr.mono (by decide)) rfl t.g__law_votes t.F__law_votes.kp (b__law_votes t) (passes_call (takes_of rfl rfl rfl rfl) fun _ _ _ _ h => h) (da_cons (do_var (pe_var (i := 1) rfl (by first | exact .inl rfl | exact .inr (.inl rfl) | exact .inr (.inr rfl)))) da_nil)) (dv_call (ok__law_any t) (hr.mono (by decide)) rfl t.g__law_any t.F__law_any.kp (b__law_any t) (passes_call (takes_of rfl rfl rfl rfl) fun _ _ _ _ h => h) (da_cons (do_var (pe_var (i := 1) rfl (by first | exact .inl rfl | exact .inr (.inl rfl) | exact .inr (.inr rfl)))) (da_cons (do_val (de_frz (dn_lst (da_cons (do_val (de_ofV (dv_call (ok__law_draw t) (hr.mono (by decide)) rfl t.g__law_draw t.F__law_draw.kp (b__law_draw t) (passes_call (takes_of rfl rfl rfl rfl) fun _ _ _ _ h => h) (da_cons (do_var (pe_var (i := 1) rfl (by first | exact .inl rfl | exact .inr (.inl rfl) | exact .inr (.inr rfl)))) (da_cons (do_val de_int) da_nil))))) (da_cons (do_val (de_ofV (dv_call (ok__law_draw t) (hr.mono (by decide)) rfl t.g__law_draw t.F__law_draw.kp (b__law_draw t) (passes_call (takes_of rfl rfl rfl rfl) fun _ _ _ _ h => h) (da_cons (do_var (pe_var (i := 1) rfl (by first | exact .inl rfl | exact .inr (.inl rfl) | exact .inr (.inr rfl)))) (da_cons (do_val de_int) da_nil))))) (da_cons (do_val (de_op op_pow r_pow (do_val de_int) (do_val de_int))) da_nil)))))) da_nil))) rfl)
    (ds_one (ds_if (PW.pt (dw_or (dt_not (dt_val (de_ofV (dv_callG (ok__law_votes_right t) (hr.mono (by decide)) gd rfl t.g__law_votes_right t.F__law_votes_right.kp (b__law_votes_right t) (passes_call (takes_of rfl rfl rfl rfl) fun _ _ _ _ h => h) (da_cons (do_var (pe_var (i := 1) rfl (by first | exact .inl rfl | exact .inr (.inl rfl) | exact .inr (.inr rfl)))) (da_cons (do_val (de_var (pe_var (i := 4) rfl (by first | exact .inl rfl | exact .inr (.inl rfl) | exact .inr (.inr rfl))))) (da_cons (do_val (de_var (pe_var (i := 5) rfl (by first | exact .inl rfl | exact .inr (.inl rfl) | exact .inr (.inr rfl))))) da_nil))))))) (dw_1or (dt_not (dt_val (de_ofV (dv_call (ok__law_refused_right t tb) (hr.mono (by decide)) rfl t.g__law_refused_right t.F__law_refused_right.kp (b__law_refused_right t) (passes_call (takes_of rfl rfl rfl rfl) fun _ _ _ _ h => h) (da_cons (do_var (pe_var (i := 1) rfl (by first | exact .inl rfl | exact .inr (.inl rfl) | exact .inr (.inr rfl)))) (da_cons (do_val (de_var (pe_var (i := 4) rfl (by first | exact .inl rfl | exact .inr (.inl rfl) | exact .inr (.inr rfl))))) da_nil))))))))) (ds_one (ds_ret de_bl)) ds_nil))))
    (ds_one (ds_ret de_bl))))))
end
end G
end
section
namespace G
open PySem PySem.Spec PD L2 Evl
abbrev lI (ns : List Int) : PyData := .list (ns.map PyData.int)
/-- the hand that draws -/
structure Hd where
  cells : List Int
  at_ : Int
  big : Int
  mix : Int
  turn : Int
abbrev Hd.ds (h : Hd) : List PyData := [lI h.cells, .int h.at_, .int h.big, .int h.mix, .int h.turn]
abbrev Hd.sl (h : Hd) (io : Bool) : Sl := .own io h.ds
/-- what a draw leaves: first a cell is taken where there is one -/
def Hd.take (h : Hd) (c : Int) : Hd := { h with at_ := h.at_ + 1, mix := (h.mix * 69621 + c * 40692 + 37) % 2147483629, big := if 10 ^ 18 ≤ c then c else h.big }
def Hd.low (h : Hd) : Hd := if h.big = 0 ∧ h.at_ < h.cells.length then (match h.cells[h.at_.toNat]? with
  | some c => h.take c
  | none => h) else h
def Hd.num (h : Hd) : Int :=
  let a := ((h.mix + 7919 * (h.turn + 1)) * 48271) % 2147483647
  let b := (a * (a / 1009 + 69621)) % 2147483647
  (b * (b / 2003 + 40014)) % 2147483563
def Hd.draw (h : Hd) (n : Int) : Int × Hd :=
  let g := h.low
  if 0 < g.big then (g.big % n, { g with big := g.big / n }) else ((g.num / 16) % n, { g with turn := g.turn + 1 })
section
variable {α : Type} {a b c d e : α}
theorem at50 : atI [a, b, c, d, e] 0 = some a := rfl
theorem at51 : atI [a, b, c, d, e] 1 = some b := rfl
theorem at52 : atI [a, b, c, d, e] 2 = some c := rfl
theorem at53 : atI [a, b, c, d, e] 3 = some d := rfl
theorem at54 : atI [a, b, c, d, e] 4 = some e := rfl
end
theorem ix51 : ixN 5 1 = some 1 := rfl
theorem ix52 : ixN 5 2 = some 2 := rfl
theorem ix53 : ixN 5 3 = some 3 := rfl
theorem ix54 : ixN 5 4 = some 4 := rfl
theorem f_draw {h : Hd} (h0 : 0 ≤ h.at_) {n : Int} (hn : 0 < n) (hn2 : n < 1000000000000000000000000000000) : F__law_draw [h.sl true, .dat (.int n)] = .ok (.dat (.int (h.draw n).1), [(h.draw n).2.sl true, .dat (.int n)]) := by
  have n8 : n.natAbs < 2 ^ 8000 := lt8000 (m := 100) (by decide) (Nat.lt_trans (show n.natAbs < 1000000000000000000000000000000 by omega) (by decide))
  obtain ⟨cells, at_, big, mix, turn⟩ := h
  by_cases c1 : big = 0 ∧ at_ < cells.length
  · obtain ⟨b0, al⟩ := c1
    have h0 : 0 ≤ at_ := h0
    obtain ⟨j, hj⟩ : ∃ j : Nat, at_ = j := ⟨at_.toNat, by omega⟩
    have jl : j < cells.length := by omega
    have ej : cells[at_.toNat]? = some cells[j] := by rw [hj]; simp [jl]
    have lw : (Hd.mk cells at_ big mix turn).low = (Hd.mk cells at_ big mix turn).take cells[j] := by unfold Hd.low; rw [if_pos ⟨b0, al⟩, ej]
    have cj : atI (cells.map PyData.int) at_ = some (.int cells[j]) := by rw [hj]; exact atI_nat' (by simp [jl])
    unfold Hd.draw
    rw [lw]
    generalize cells[j] = c at *
    by_cases c2 : (10 : Int) ^ 18 ≤ c
    · have c3 : (1000000000000000000 : Int) ≤ c := c2
      have cp : 0 < c := by omega
      simp [F__law_draw, runF, B__law_draw, N__law_draw, sSeq, sThen, sIf, sAsg, sSetIx, sRet, sNext, dAnd, dOr, dNot, dB, d1, d2, dA, dC, oAny, oVal, oVar, aCons, aNil, resAll, Op.res, dVar, ownAt, ixR, tgN, ioAt, backArgs, pIx, pEq, pLt, pGe, pGt, pLen, pInt, pAddA, pPow, plainD, nd, SeqAt.shaped, PyData.canLay0, PyData.depth, PyData.eqv, pMod_ok, pFdiv_ok, pMulA_r, pMulA_l, pFdiv_s, pMulA_m, at50, at51, at52, at53, at54, ix51, ix52, ix53, ix54, cj, b0, al, c3, cp, hn, n8, Hd.take, Hd.sl, Hd.ds]
    · have c3 : ¬ (1000000000000000000 : Int) ≤ c := c2
      simp [F__law_draw, runF, B__law_draw, N__law_draw, sSeq, sThen, sIf, sAsg, sSetIx, sRet, sNext, dAnd, dOr, dNot, dB, d1, d2, dA, dC, oAny, oVal, oVar, aCons, aNil, resAll, Op.res, dVar, ownAt, ixR, tgN, ioAt, backArgs, pIx, pEq, pLt, pGe, pGt, pLen, pInt, pAddA, pPow, plainD, nd, SeqAt.shaped, PyData.canLay0, PyData.depth, PyData.eqv, pMod_ok, pFdiv_ok, pMulA_r, pMulA_l, pFdiv_s, pMulA_m, at50, at51, at52, at53, at54, ix51, ix52, ix53, ix54, cj, b0, al, c3, hn, n8, Hd.take, Hd.sl, Hd.ds, Hd.num]
  · have lw : (Hd.mk cells at_ big mix turn).low = Hd.mk cells at_ big mix turn := by unfold Hd.low; rw [if_neg c1]
    unfold Hd.draw
    rw [lw]
    have c2 : big = 0 → ¬ at_ < cells.length := fun a b => c1 ⟨a, b⟩
    by_cases b0 : big = 0
    · have al := c2 b0
      simp [F__law_draw, runF, B__law_draw, N__law_draw, sSeq, sThen, sIf, sAsg, sSetIx, sRet, sNext, dAnd, dOr, dNot, dB, d1, d2, dA, dC, oAny, oVal, oVar, aCons, aNil, resAll, Op.res, dVar, ownAt, ixR, tgN, ioAt, backArgs, pIx, pEq, pLt, pGe, pGt, pLen, pInt, pAddA, pPow, plainD, nd, SeqAt.shaped, PyData.canLay0, PyData.depth, PyData.eqv, pMod_ok, pFdiv_ok, pMulA_r, pMulA_l, pFdiv_s, pMulA_m, at50, at51, at52, at53, at54, ix51, ix52, ix53, ix54, b0, al, hn, n8, Hd.take, Hd.sl, Hd.ds, Hd.num]
    · by_cases b1 : 0 < big
      · simp [F__law_draw, runF, B__law_draw, N__law_draw, sSeq, sThen, sIf, sAsg, sSetIx, sRet, sNext, dAnd, dOr, dNot, dB, d1, d2, dA, dC, oAny, oVal, oVar, aCons, aNil, resAll, Op.res, dVar, ownAt, ixR, tgN, ioAt, backArgs, pIx, pEq, pLt, pGe, pGt, pLen, pInt, pAddA, pPow, plainD, nd, SeqAt.shaped, PyData.canLay0, PyData.depth, PyData.eqv, pMod_ok, pFdiv_ok, pMulA_r, pMulA_l, pFdiv_s, pMulA_m, at50, at51, at52, at53, at54, ix51, ix52, ix53, ix54, b0, b1, hn, n8, Hd.take, Hd.sl, Hd.ds]
      · simp [F__law_draw, runF, B__law_draw, N__law_draw, sSeq, sThen, sIf, sAsg, sSetIx, sRet, sNext, dAnd, dOr, dNot, dB, d1, d2, dA, dC, oAny, oVal, oVar, aCons, aNil, resAll, Op.res, dVar, ownAt, ixR, tgN, ioAt, backArgs, pIx, pEq, pLt, pGe, pGt, pLen, pInt, pAddA, pPow, plainD, nd, SeqAt.shaped, PyData.canLay0, PyData.depth, PyData.eqv, pMod_ok, pFdiv_ok, pMulA_r, pMulA_l, pFdiv_s, pMulA_m, at50, at51, at52, at53, at54, ix51, ix52, ix53, ix54, b0, b1, hn, n8, Hd.take, Hd.sl, Hd.ds, Hd.num]
theorem draw_in (h : Hd) {n : Int} (hn : 0 < n) : 0 ≤ (h.draw n).1 ∧ (h.draw n).1 < n := by
  unfold Hd.draw
  dsimp only
  split
  · exact ⟨Int.emod_nonneg _ (by omega), Int.emod_lt_of_pos _ hn⟩
  · exact ⟨Int.emod_nonneg _ (by omega), Int.emod_lt_of_pos _ hn⟩
theorem draw_at {h : Hd} (h0 : 0 ≤ h.at_) (n : Int) : 0 ≤ (h.draw n).2.at_ := by
  have : 0 ≤ h.low.at_ := by
    unfold Hd.low
    split
    · split
      · show 0 ≤ h.at_ + 1
        omega
      · exact h0
    · exact h0
  unfold Hd.draw
  dsimp only
  split <;> exact this
end G
end
section
namespace G
open PySem PySem.Spec PD L2 Evl
theorem f_any {h : Hd} (h0 : 0 ≤ h.at_) {ds : List PyData} (hd : 0 < ds.length) (hd2 : ds.length ≤ 100000) : ∃ d h', d ∈ ds ∧ 0 ≤ h'.at_ ∧ F__law_any [h.sl true, .dat (.list ds)] = .ok (.dat d, [Hd.sl h' true, .dat (.list ds)]) := by
  have hn : (0 : Int) < ds.length := by omega
  have hn2 : (ds.length : Int) < 1000000000000000000000000000000 := by omega
  obtain ⟨g1, g2⟩ := draw_in h hn
  obtain ⟨j, hj⟩ : ∃ j : Nat, (h.draw ds.length).1 = j := ⟨_, (Int.toNat_of_nonneg g1).symm⟩
  have jl : j < ds.length := by omega
  refine ⟨ds[j], (h.draw ds.length).2, List.getElem_mem _, draw_at h0 _, ?_⟩
  have e := f_draw h0 hn hn2
  have ei : atI ds (j : Int) = some ds[j] := atI_nat' (by simp [jl])
  rw [hj] at e
  simp [F__law_any, runF, B__law_any, N__law_any, sRet, d2, oVal, dVar, rvE, dCall, aCons, aNil, oVar, dA, resAll, Op.res, pLen, argsOf, argOf, ownsOf, callEn, e, backArgs, pIx, ei]
theorem f_hand (ns : List Int) : ∃ h : Hd, 0 ≤ h.at_ ∧ F__law_hand [.dat (lI ns)] = .ok (.new h.ds, [.dat (lI ns)]) := by
  refine ⟨⟨(ns.take 63).map fun c => (if c < 0 then -c else c) % 10 ^ 36, 0, 0, 16 + 5 * ((ns.take 63).length : Nat), 0⟩, Int.le_refl _, ?_⟩
  have ec : cutD (ns.map PyData.int) none (some 63) = (ns.take 63).map PyData.int := by
    unfold cutD
    simp only [HT.sIx_none, List.drop_zero, Nat.sub_zero, List.length_map]
    rw [show ((63 : Int)) = ((63 : Nat) : Int) from rfl, HT.sIx_nat, List.map_take]
    rw [show min 63 ns.length = min 63 (ns.map PyData.int).length by simp]
    simp
  have lc : lcLoop [] [.dat (lI ns), .no, .no] [2] (tgN 2) dYes (d2 pMod (oVal (dA pInt (aCons (oVal (dA pAbs (aCons (oVal (dA pInt (aCons (oVal (dVar 2)) aNil))) aNil))) aNil))) (oVal (d2 pPow (oVal (dC (.int 10))) (oVal (dC (.int 36)))))) ((ns.take 63).map PyData.int) [.dat (lI ns), .no, .no] =
      .ok ((ns.take 63).map fun c => .int ((if c < 0 then -c else c) % 10 ^ 36), [.dat (lI ns), .no, .no]) := by
    refine lc_map PyData.int _ _ fun x hx => ⟨[.dat (lI ns), .no, .dat (.int x)], [.dat (lI ns), .no, .dat (.int x)], by simp [tgN, ioAt], ?_, by simp [wipeE]⟩
    simp [d2, oVal, dA, aCons, aNil, dVar, resAll, Op.res, pInt, pAbs, dC, pPow, pMod_ok]
  have hl : (ns.take 63).length ≤ 63 := by rw [List.length_take]; omega
  have e : dLc (itA seq1 (it1 (oVal (dSl (oVal (dVar 0)) pNo (pSome (dC (.int 63))))))) ([2] : List Nat) (tgN 2) dYes (d2 pMod (oVal (dA pInt (aCons (oVal (dA pAbs (aCons (oVal (dA pInt (aCons (oVal (dVar 2)) aNil))) aNil))) aNil))) (oVal (d2 pPow (oVal (dC (.int 10))) (oVal (dC (.int 36)))))) [.dat (lI ns), .no, .no] =
      .ok ((ns.take 63).map fun c => .int ((if c < 0 then -c else c) % 10 ^ 36), [.dat (lI ns), .no, .no]) := by
    have := dLc_ok (it := itA seq1 (it1 (oVal (dSl (oVal (dVar 0)) pNo (pSome (dC (.int 63))))))) (vs := [2]) (tg := tgN 2) (tst := dYes) (elt := d2 pMod (oVal (dA pInt (aCons (oVal (dA pAbs (aCons (oVal (dA pInt (aCons (oVal (dVar 2)) aNil))) aNil))) aNil))) (oVal (d2 pPow (oVal (dC (.int 10))) (oVal (dC (.int 36)))))) (en := [.dat (lI ns), .no, .no]) (en1 := [.dat (lI ns), .no, .no]) (ws := []) (xs := (ns.take 63).map PyData.int)
      (by simp [itA, it1, oVal, dSl, dVar, pNo, pSome, dC, asPart, Op.res, cutP, ec, resAll, seq1, seqOf, ownIx]) (by simp [PD.freeOf, slFree]) (by rw [List.length_map]; omega) (by simp) (by simpa [wipeE] using lc)
    simpa [restE] using this
  simp [F__law_hand, runF, B__law_hand, N__law_hand, sSeq, sThen, sAsg, dFrz, e, tgN, ioAt, sRetL, dLst, aCons, aNil, oVal, dVar, dC, vals, few, d2, dA, resAll, Op.res, pLen, pMulA_l, pAddA, backArgs, Hd.ds]
  rfl
end G
end
section
namespace G
open PySem PySem.Spec PD L2 Evl
abbrev nI (ns : List Int) : PyData := .tuple (ns.map PyData.int)
theorem ints_of {P : Int → Prop} : ∀ {ys : List PyData}, (∀ y ∈ ys, ∃ i, y = PyData.int i ∧ P i) → ∃ is : List Int, ys = is.map PyData.int ∧ ∀ i ∈ is, P i
  | [], _ => ⟨[], rfl, fun i h => by cases h⟩
  | y :: ys, h => by
    obtain ⟨i, rfl, hi⟩ := h y List.mem_cons_self
    obtain ⟨is, rfl, his⟩ := ints_of fun z hz => h z (List.mem_cons_of_mem _ hz)
    exact ⟨i :: is, rfl, fun j hj => by
      rcases List.mem_cons.mp hj with rfl | hj
      · exact hi
      · exact his j hj⟩
theorem ixN_last (n : Nat) : ixN (n + 1) (-1) = some n := by
  unfold ixN
  rw [if_neg (by decide), if_pos (by omega)]
  congr 1
  omega
theorem sum_nn : ∀ (l : List Int), (∀ i ∈ l, 0 ≤ i) → 0 ≤ l.sum
  | [], _ => by simp
  | x :: l, h => by
    have h1 := sum_nn l fun i hi => h i (List.mem_cons_of_mem _ hi)
    have h2 := h x List.mem_cons_self
    rw [List.sum_cons]
    omega
theorem numsFrom_len (lo : Int) (n : Nat) : (numsFrom lo n).length = n := by simp [numsFrom]
theorem f_lvotes {h : Hd} (h0 : 0 ≤ h.at_) : ∃ (vs : List Int) (h' : Hd), 0 ≤ h'.at_ ∧ F__law_votes [h.sl true] = .ok (.dat (nI vs), [Hd.sl h' true]) ∧ 1 ≤ vs.length ∧ vs.length ≤ 6 ∧ (∀ v ∈ vs, 0 ≤ v ∧ v ≤ 10 ^ 9) ∧ 0 < vs.sum := by
  obtain ⟨d, h1, hd, a1, e1⟩ := f_any h0 (ds := [.int 4, .int 20, .int 1000, .int 1000000000]) (by simp) (by simp)
  obtain ⟨top, rfl, t1, t2⟩ : ∃ top : Int, d = .int top ∧ 0 < top ∧ top ≤ 1000000000 := by
    simp only [List.mem_cons, List.not_mem_nil, or_false] at hd
    rcases hd with rfl | rfl | rfl | rfl <;> exact ⟨_, rfl, by decide, by decide⟩
  have s1 : sAsg (rvE (dCall 2 F__law_any (aCons (oVar 0) (aCons (oVal (dFrz (dLst (aCons (oVal (dC (.int 4))) (aCons (oVal (dC (.int 20))) (aCons (oVal (dC (.int 1000))) (aCons (oVal (d2 pPow (oVal (dC (.int 10))) (oVal (dC (.int 9))))) aNil))))))) aNil)))) (tgN 1) [h.sl true, .no, .no, .no] = .next [h1.sl true, .dat (.int top), .no, .no] := by
    simp [sAsg, rvE, dCall, aCons, aNil, oVar, oVal, dFrz, dLst, dC, d2, pPow, Op.res, vals, few, argsOf, argOf, ownsOf, callEn, e1, tgN, ioAt]
  have tb : top < 1000000000000000000000000000000 := by omega
  obtain ⟨g1, g2⟩ := draw_in h1 (n := 6) (by decide)
  have a2 := draw_at a1 6
  have e2 := f_draw a1 (n := 6) (by decide) (by decide)
  generalize hk : (h1.draw 6).1 = k at *
  generalize (h1.draw 6).2 = h2 at *
  obtain ⟨ys, h3, e3, a3, l3, q3⟩ := lc_state (ws := []) (e := fun s : Hd => [s.sl true, .dat (.int top), .no, .no]) (vs := [3]) (tg := tgN 3) (elt := rvE (dCall 2 F__law_draw (aCons (oVar 0) (aCons (oVal (dVar 1)) aNil))))
    (fun s : Hd => 0 ≤ s.at_) (fun y => ∃ i, y = .int i ∧ 0 ≤ i ∧ i < top) [h2.sl true, .dat (.int top), .no, .no] (fun s hs i hi => by cases hi) (numsFrom 0 (1 + k).toNat)
    (fun x hx s hs => by
      have ed := f_draw hs t1 tb
      refine ⟨[s.sl true, .dat (.int top), .no, .dat x], .int (s.draw top).1, (s.draw top).2, [(s.draw top).2.sl true, .dat (.int top), .no, .dat x], by simp [tgN, ioAt], ?_, by simp [wipeE], draw_at hs _, _, rfl, draw_in s t1⟩
      simp [rvE, dCall, aCons, aNil, oVar, oVal, dVar, argsOf, argOf, ownsOf, callEn, ed]) h2 a2
  obtain ⟨is, rfl, his⟩ := ints_of q3
  rw [List.length_map, numsFrom_len] at l3
  have il : 1 ≤ is.length ∧ is.length ≤ 6 := by omega
  have s2 : sOwn (dLc (itA rng1 (aCons (oVal (d2 pAddA (oVal (dC (.int 1))) (oVal (rvE (dCall 2 F__law_draw (aCons (oVar 0) (aCons (oVal (dC (.int 6))) aNil))))))) aNil)) ([3] : List Nat) (tgN 3) dYes (rvE (dCall 2 F__law_draw (aCons (oVar 0) (aCons (oVal (dVar 1)) aNil))))) 2 [h1.sl true, .dat (.int top), .no, .no] =
      .next [h3.sl true, .dat (.int top), .own false (is.map PyData.int), .no] := by
    have := dLc_ok (it := itA rng1 (aCons (oVal (d2 pAddA (oVal (dC (.int 1))) (oVal (rvE (dCall 2 F__law_draw (aCons (oVar 0) (aCons (oVal (dC (.int 6))) aNil))))))) aNil)) (vs := [3]) (tg := tgN 3) (tst := dYes) (elt := rvE (dCall 2 F__law_draw (aCons (oVar 0) (aCons (oVal (dVar 1)) aNil))))
      (en := [h1.sl true, .dat (.int top), .no, .no]) (en1 := [h2.sl true, .dat (.int top), .no, .no]) (ws := []) (xs := numsFrom 0 (1 + k).toNat)
      (by
        have kb : -(4611686018427387904 : Int) ≤ 1 + k ∧ 1 + k < 4611686018427387904 := by omega
        simp [itA, aCons, aNil, oVal, d2, dC, rvE, dCall, oVar, argsOf, argOf, ownsOf, callEn, e2, pAddA, Op.res, resAll, rng1, in62, kb, ownIx])
      (by simp [PD.freeOf, slFree]) (by rw [numsFrom_len]; omega) (by simp) (by simpa [wipeE] using e3)
    simp [sOwn, this, restE, ioAt]
  obtain ⟨g3, g4⟩ := draw_in h3 (n := 3) (by decide)
  have a4 := draw_at a3 3
  have e4 := f_draw a3 (n := 3) (by decide) (by decide)
  generalize hk3 : (h3.draw 3).1 = k3 at *
  generalize (h3.draw 3).2 = h4 at *
  obtain ⟨i0, ir, rfl⟩ : ∃ a b, is = a :: b := by
    cases is with
    | nil => simp at il
    | cons a b => exact ⟨a, b, rfl⟩
  -- the last one may be made the first
  obtain ⟨js, s3, jl, hj⟩ : ∃ js : List Int, sIf (dB (d2 pEq (oVal (rvE (dCall 2 F__law_draw (aCons (oVar 0) (aCons (oVal (dC (.int 3))) aNil))))) (oVal (dC (.int 0))))) (sSetIx 2 (d1 pNeg (oVal (dC (.int 1)))) (d2 pIx (oAny 2) (oVal (dC (.int 0))))) sNext [h3.sl true, .dat (.int top), .own false ((i0 :: ir).map PyData.int), .no] =
      .next [h4.sl true, .dat (.int top), .own false (js.map PyData.int), .no] ∧ js.length = (i0 :: ir).length ∧ ∀ i ∈ js, 0 ≤ i ∧ i < top := by
    by_cases z : k3 = 0
    · refine ⟨(i0 :: ir).set ir.length i0, ?_, by simp, fun i hi => ?_⟩
      · have ix : ixN (ir.length + 1) (-1) = some ir.length := ixN_last _
        have a0 : atI (PyData.int i0 :: ir.map PyData.int) 0 = some (.int i0) := atI_nat' (j := 0) rfl
        simp [sIf, dB, d2, oVal, rvE, dCall, aCons, aNil, oVar, dC, argsOf, argOf, ownsOf, callEn, e4, z, Op.res, pEq, plainD, nd, SeqAt.shaped, PyData.canLay0, PyData.depth, PyData.eqv, sSetIx, d1, pNeg, oAny, pIx, a0, ownAt, ixR, ix, List.map_set]
      · rcases List.mem_or_eq_of_mem_set hi with hi | rfl
        · exact his i hi
        · exact his _ List.mem_cons_self
    · refine ⟨i0 :: ir, ?_, rfl, his⟩
      simp [sIf, dB, d2, oVal, rvE, dCall, aCons, aNil, oVar, dC, argsOf, argOf, ownsOf, callEn, e4, z, Op.res, pEq, plainD, nd, SeqAt.shaped, PyData.canLay0, PyData.depth, PyData.eqv, sNext]
  obtain ⟨j0, jr, rfl⟩ : ∃ a b, js = a :: b := by
    cases js with
    | nil => simp at jl
    | cons a b => exact ⟨a, b, rfl⟩
  have ij : intsD (PyData.int j0 :: jr.map PyData.int) = some (j0 :: jr) := intsD_map (j0 :: jr)
  obtain ⟨ls, h5, a5, s4, ll, hl, hsum⟩ : ∃ (ls : List Int) (h5 : Hd), 0 ≤ h5.at_ ∧ sIf (dB (d2 pEq (oVal (dA pSum (aCons (oAny 2) aNil))) (oVal (dC (.int 0))))) (sSetIx 2 (dC (.int 0)) (d2 pAddA (oVal (dC (.int 1))) (oVal (rvE (dCall 2 F__law_draw (aCons (oVar 0) (aCons (oVal (dVar 1)) aNil))))))) sNext [h4.sl true, .dat (.int top), .own false ((j0 :: jr).map PyData.int), .no] =
      .next [h5.sl true, .dat (.int top), .own false (ls.map PyData.int), .no] ∧ ls.length = (j0 :: jr).length ∧ (∀ i ∈ ls, 0 ≤ i ∧ i ≤ top) ∧ 0 < ls.sum := by
    have jn := sum_nn (j0 :: jr) fun i hi => (hj i hi).1
    have e5 := f_draw a4 t1 tb
    obtain ⟨g5, g6⟩ := draw_in h4 t1
    by_cases z : (j0 :: jr).sum = 0
    · have z' : j0 + jr.sum = 0 := z
      refine ⟨(1 + (h4.draw top).1) :: jr, (h4.draw top).2, draw_at a4 _, ?_, by simp, fun i hi => ?_, ?_⟩
      · simp [sIf, dB, d2, oVal, dA, aCons, aNil, oAny, resAll, Op.res, pSum, ij, z', dC, pEq, plainD, nd, SeqAt.shaped, PyData.canLay0, PyData.depth, PyData.eqv, sSetIx, rvE, dCall, oVar, dVar, argsOf, argOf, ownsOf, callEn, e5, pAddA, ownAt, ixR, ixN]
      · rcases List.mem_cons.mp hi with rfl | hi
        · omega
        · have := hj i (List.mem_cons_of_mem _ hi)
          omega
      · have := sum_nn jr fun i hi => (hj i (List.mem_cons_of_mem _ hi)).1
        rw [List.sum_cons]
        omega
    · have z' : ¬ j0 + jr.sum = 0 := z
      refine ⟨j0 :: jr, h4, a4, ?_, rfl, fun i hi => ?_, by omega⟩
      · simp [sIf, dB, d2, oVal, dA, aCons, aNil, oAny, resAll, Op.res, pSum, ij, z', dC, pEq, plainD, nd, SeqAt.shaped, PyData.canLay0, PyData.depth, PyData.eqv, sNext]
      · have := hj i hi
        omega
  refine ⟨ls, h5, a5, ?_, by rw [ll, jl]; exact il.1, by rw [ll, jl]; exact il.2, fun v hv => ?_, hsum⟩
  · unfold F__law_votes runF B__law_votes
    simp only [N__law_votes, List.length_cons, List.length_nil, List.replicate, List.cons_append, List.nil_append]
    rw [seq_next s1, seq_next s2, seq_next s3, seq_next s4]
    simp [sRet, dA, aCons, aNil, oAny, resAll, Op.res, pTuple, backArgs]
  · have := hl v hv
    omega
end G
end
section
namespace G
open PySem PySem.Spec PD L2 Evl
/-- an int that is no truth value -/
def isI : PyData → Bool
  | .int _ => true
  | _ => false
theorem f_is_int {d : PyData} (h : plainK d = true) : F_is_int [.dat d] = .ok (.dat (.bool (isI d)), [.dat d]) := by
  simp [F_is_int, runF, B_is_int, N_is_int, sRet, dAndV, dNotV, d1, oVal, Op.res, isD_int h, isD_bool h, backArgs]
  cases d <;> simp [isIntB, isBoolB, isI]
def isW (d : PyData) (lo hi : Int) : Bool := match d with
  | .int i => decide (lo ≤ i) && decide (i ≤ hi)
  | _ => false
theorem f_is_within {d : PyData} (h : plainK d = true) (lo hi : Int) : F_is_within [.dat d, .dat (.int lo), .dat (.int hi)] = .ok (.dat (.bool (isW d lo hi)), [.dat d, .dat (.int lo), .dat (.int hi)]) := by
  simp [F_is_within, runF, B_is_within, N_is_within, sRet, dAndV, rvE, dCall, aCons, aNil, oVal, argsOf, argOf, ownsOf, callEn, f_is_int h, dChain, Op.res, backArgs]
  cases d <;> simp [isI, isW, pLe]
  rename_i i
  by_cases h1 : lo ≤ i <;> by_cases h2 : i ≤ hi <;> simp [h1, h2]
theorem f_check_size {d : PyData} (h : plainK d = true) : F_check_size [.dat d] = if isW d 0 1000000000000000000000000000000 then .ok (.dat .none, [.dat d]) else .exc 1 := by
  simp [F_check_size, runF, B_check_size, N_check_size, sIf, sExc, sNext, dNot, dB, rvE, dCall, aCons, aNil, oVal, dC, argsOf, argOf, ownsOf, callEn, f_is_within h, backArgs]
  by_cases q : isW d 0 1000000000000000000000000000000 = true
  · simp [q]
  · simp [q]
def gtZ (d : PyData) : Bool := match d with
  | .int i => decide (0 < i)
  | _ => false
/-- votes that may be dealt for -/
def okV (d : PyData) : Bool := match d with
  | .tuple ds => decide (1 ≤ ds.length) && decide (ds.length ≤ 200) && (ds.all fun x => isW x 0 1000000000000000) && (ds.any gtZ)
  | _ => false
theorem boolsD_of {α : Type} (l : List α) (p : α → Bool) : boolsD (l.map fun x => PyData.bool (p x)) = some (l.map p) := by
  have := boolsD_map (l.map p)
  rwa [List.map_map] at this
theorem isW_int {d : PyData} {lo hi : Int} (h : isW d lo hi = true) : ∃ i, d = .int i ∧ lo ≤ i ∧ i ≤ hi := by
  cases d <;> simp [isW] at h
  exact ⟨_, rfl, h⟩
theorem f_is_votes {d : PyData} (h : plainK d = true) (hk : ∀ ds, d = .tuple ds → ∀ x ∈ ds, plainK x = true) : F_is_votes [.dat d] = .ok (.dat (.bool (okV d)), [.dat d]) := by
  by_cases c1 : isTupB d = true
  · obtain ⟨ds, rfl⟩ : ∃ ds, d = .tuple ds := by
      cases d <;> simp [isTupB] at c1
      exact ⟨_, rfl⟩
    by_cases c2 : 1 ≤ ds.length ∧ ds.length ≤ 200
    · have e1 : dLc (itA seq1 (it1 (oVal (dVar 0)))) ([1] : List Nat) (tgN 1) dYes (rvE (dCall 3 F_is_within (aCons (oVal (dVar 1)) (aCons (oVal (dC (.int 0))) (aCons (oVal (dC (.int 1000000000000000))) aNil))))) [.dat (.tuple ds), .no] = .ok (ds.map fun x => .bool (isW x 0 1000000000000000), [.dat (.tuple ds), .no]) := by
        have lc := lc_map (ws := []) (e := [.dat (.tuple ds), .no]) (vs := [1]) (tg := tgN 1) (elt := rvE (dCall 3 F_is_within (aCons (oVal (dVar 1)) (aCons (oVal (dC (.int 0))) (aCons (oVal (dC (.int 1000000000000000))) aNil))))) id (fun x => .bool (isW x 0 1000000000000000)) ds
          fun x hx => ⟨[.dat (.tuple ds), .dat x], [.dat (.tuple ds), .dat x], by simp [tgN, ioAt], by simp [rvE, dCall, aCons, aNil, oVal, dC, argsOf, argOf, ownsOf, callEn, f_is_within (hk ds rfl x hx)], by simp [wipeE]⟩
        rw [List.map_id] at lc
        have := dLc_ok (it := itA seq1 (it1 (oVal (dVar 0)))) (vs := [1]) (tg := tgN 1) (tst := dYes) (elt := rvE (dCall 3 F_is_within (aCons (oVal (dVar 1)) (aCons (oVal (dC (.int 0))) (aCons (oVal (dC (.int 1000000000000000))) aNil))))) (en := [.dat (.tuple ds), .no]) (en1 := [.dat (.tuple ds), .no]) (ws := []) (xs := ds)
          (by simp [itA, it1, oVal, Op.res, resAll, seq1, seqOf, ownIx]) (by simp [PD.freeOf, slFree]) (by omega) (by simp) (by simpa [wipeE] using lc)
        simpa [restE] using this
      have a1 : boolsD (ds.map fun x => PyData.bool (isW x 0 1000000000000000)) = some (ds.map fun x => isW x 0 1000000000000000) := boolsD_of _ _
      have c2a : (1 : Int) ≤ ds.length := by omega
      have c2b : (ds.length : Int) ≤ 200 := by omega
      by_cases c3 : (ds.all fun x => isW x 0 1000000000000000) = true
      · have e2 : dLc (itA seq1 (it1 (oVal (dVar 0)))) ([1] : List Nat) (tgN 1) dYes (d2 pGt (oVal (dVar 1)) (oVal (dC (.int 0)))) [.dat (.tuple ds), .no] = .ok (ds.map fun x => .bool (gtZ x), [.dat (.tuple ds), .no]) := by
          have lc := lc_map (ws := []) (e := [.dat (.tuple ds), .no]) (vs := [1]) (tg := tgN 1) (elt := d2 pGt (oVal (dVar 1)) (oVal (dC (.int 0)))) id (fun x => .bool (gtZ x)) ds
            fun x hx => ⟨[.dat (.tuple ds), .dat x], [.dat (.tuple ds), .dat x], by simp [tgN, ioAt], by
              obtain ⟨i, rfl, _⟩ := isW_int (List.all_eq_true.mp c3 x hx)
              simp [d2, oVal, dC, Op.res, pGt, gtZ], by simp [wipeE]⟩
          rw [List.map_id] at lc
          have := dLc_ok (it := itA seq1 (it1 (oVal (dVar 0)))) (vs := [1]) (tg := tgN 1) (tst := dYes) (elt := d2 pGt (oVal (dVar 1)) (oVal (dC (.int 0)))) (en := [.dat (.tuple ds), .no]) (en1 := [.dat (.tuple ds), .no]) (ws := []) (xs := ds)
            (by simp [itA, it1, oVal, Op.res, resAll, seq1, seqOf, ownIx]) (by simp [PD.freeOf, slFree]) (by omega) (by simp) (by simpa [wipeE] using lc)
          simpa [restE] using this
        have a2 : boolsD (ds.map fun x => PyData.bool (gtZ x)) = some (ds.map gtZ) := boolsD_of _ _
        have a3 : ((ds.map fun x => isW x 0 1000000000000000).all id) = true := by rw [List.all_map]; exact c3
        have a4 : ((ds.map gtZ).any id) = ds.any gtZ := by rw [List.any_map]; rfl
        have a5 : okV (.tuple ds) = ds.any gtZ := by simp only [okV, c2.1, c2.2, decide_true, c3, Bool.and_true, Bool.true_and]
        rw [a5]
        simp only [F_is_votes, runF, B_is_votes, N_is_votes, List.length_cons, List.length_nil, List.replicate, List.cons_append, List.nil_append]
        rw [seq_next (e := [.dat (.tuple ds), .no]) (by simp [sIf, dOr, dNot, dB, d1, oVal, Op.res, isD_tuple h, isTupB, dChain, dC, dA, aCons, aNil, resAll, pLen, pLe, c2a, c2b, sNext])]
        simp [sRet, dAndV, dA, aCons, aNil, oVal, dFrz, e1, e2, resAll, Op.res, pAll, pAny, a1, a2, a3, a4, backArgs]
      · have a3 : ((ds.map fun x => isW x 0 1000000000000000).all id) = false := by rw [List.all_map]; simpa using c3
        have a5 : okV (.tuple ds) = false := by simp only [okV, Bool.eq_false_iff.mpr c3, Bool.and_false, Bool.false_and]
        rw [a5]
        simp only [F_is_votes, runF, B_is_votes, N_is_votes, List.length_cons, List.length_nil, List.replicate, List.cons_append, List.nil_append]
        rw [seq_next (e := [.dat (.tuple ds), .no]) (by simp [sIf, dOr, dNot, dB, d1, oVal, Op.res, isD_tuple h, isTupB, dChain, dC, dA, aCons, aNil, resAll, pLen, pLe, c2a, c2b, sNext])]
        simp [sRet, dAndV, dA, aCons, aNil, oVal, dFrz, e1, resAll, Op.res, pAll, a1, a3, backArgs]
    · have a5 : okV (.tuple ds) = false := by
        by_cases q : 1 ≤ ds.length
        · have q2 : ¬ ds.length ≤ 200 := fun z => c2 ⟨q, z⟩
          simp only [okV, q2, decide_false, Bool.and_false, Bool.false_and]
        · simp only [okV, q, decide_false, Bool.false_and]
      rw [a5]
      simp only [F_is_votes, runF, B_is_votes, N_is_votes, List.length_cons, List.length_nil, List.replicate, List.cons_append, List.nil_append]
      by_cases q : (1 : Int) ≤ ds.length
      · have q2 : ¬ (ds.length : Int) ≤ 200 := fun z => c2 ⟨by omega, by omega⟩
        rw [seq_ret (r := .dat (.bool false)) (e := [.dat (.tuple ds), .no]) (by simp [sIf, dOr, dNot, dB, d1, oVal, Op.res, isD_tuple h, isTupB, dChain, dC, dA, aCons, aNil, resAll, pLen, pLe, q, q2, sRet])]
        simp [backArgs]
      · rw [seq_ret (r := .dat (.bool false)) (e := [.dat (.tuple ds), .no]) (by simp [sIf, dOr, dNot, dB, d1, oVal, Op.res, isD_tuple h, isTupB, dChain, dC, dA, aCons, aNil, resAll, pLen, pLe, q, sRet])]
        simp [backArgs]
  · have a5 : okV d = false := by cases d <;> simp [isTupB] at c1 <;> rfl
    rw [a5]
    simp only [F_is_votes, runF, B_is_votes, N_is_votes, List.length_cons, List.length_nil, List.replicate, List.cons_append, List.nil_append]
    rw [seq_ret (r := .dat (.bool false)) (e := [.dat d, .no]) (by simp [sIf, dOr, dNot, dB, d1, oVal, Op.res, isD_tuple h, c1, sRet, dC])]
    simp [backArgs]
theorem f_check_votes {d : PyData} (h : plainK d = true) (hk : ∀ ds, d = .tuple ds → ∀ x ∈ ds, plainK x = true) : F_check_votes [.dat d] = if okV d then .ok (.dat .none, [.dat d]) else .exc 0 := by
  simp [F_check_votes, runF, B_check_votes, N_check_votes, sIf, sExc, sNext, dNot, dB, rvE, dCall, aCons, aNil, oVal, argsOf, argOf, ownsOf, callEn, f_is_votes h hk, backArgs]
  by_cases q : okV d = true
  · simp [q]
  · simp [q]
end G
end
section
/-! the plain deal by greatest rests -/
namespace G
open PySem PySem.Spec PD L2 Evl
/-- places at which p holds -/
def idxs (p : Int → Bool) (vs : List Int) : List Int := (vs.zipIdx.filter fun q => p q.1).map fun q => (q.2 : Int)
def seatOf (size w v : Int) : Int := v * size / w
def restOf (size w v : Int) : Int := v * size % w
def leftOf (vs : List Int) (size : Int) : Int := size - (vs.map (seatOf size vs.sum)).sum
def lastOf (vs : List Int) (size : Int) : Int := ((srtI (vs.map (restOf size vs.sum)))[vs.length - (leftOf vs size).toNat]?).getD 0
def aboveN (vs : List Int) (size : Int) : Nat := vs.countP fun v => decide (lastOf vs size < restOf size vs.sum v)
def tiedN (vs : List Int) (size : Int) : Nat := vs.countP fun v => decide (restOf size vs.sum v = lastOf vs size)
def dealT (vs : List Int) (size : Int) : List Int × List Int × Int :=
  if leftOf vs size = 0 then (vs.map (seatOf size vs.sum), [], 0)
  else if (aboveN vs size : Int) + tiedN vs size = leftOf vs size then (vs.map (fun v => seatOf size vs.sum v + if lastOf vs size ≤ restOf size vs.sum v then 1 else 0), [], 0)
  else (vs.map (fun v => seatOf size vs.sum v + if lastOf vs size < restOf size vs.sum v then 1 else 0), idxs (fun v => decide (restOf size vs.sum v = lastOf vs size)) vs, leftOf vs size - aboveN vs size)
/-- votes and sizes that the law makes -/
structure Fair (vs : List Int) (size : Int) : Prop where
  nn : ∀ v ∈ vs, 0 ≤ v
  pos : 0 < vs.sum
  size0 : 0 ≤ size
theorem sum_map_add (f g : Int → Int) : ∀ l : List Int, (l.map fun x => f x + g x).sum = (l.map f).sum + (l.map g).sum
  | [] => by simp
  | x :: l => by
    have := sum_map_add f g l
    simp only [List.map_cons, List.sum_cons]
    omega
theorem sum_map_mul (c : Int) : ∀ l : List Int, (l.map fun x => x * c).sum = l.sum * c
  | [] => by simp
  | x :: l => by
    have := sum_map_mul c l
    simp only [List.map_cons, List.sum_cons, this, Int.add_mul]
theorem sum_le_of {f g : Int → Int} : ∀ {l : List Int}, (∀ x ∈ l, f x ≤ g x) → (l.map f).sum ≤ (l.map g).sum
  | [], _ => by simp
  | x :: l, h => by
    have h1 := sum_le_of (l := l) fun y hy => h y (List.mem_cons_of_mem _ hy)
    have h2 := h x List.mem_cons_self
    simp only [List.map_cons, List.sum_cons]
    omega
theorem sum_const (c : Int) : ∀ l : List Int, (l.map fun _ => c).sum = l.length * c
  | [] => by simp
  | x :: l => by
    have := sum_const c l
    simp only [List.map_cons, List.sum_cons, this, List.length_cons]
    rw [show (((l.length + 1 : Nat) : Int)) = l.length + 1 by omega, Int.add_mul, Int.one_mul]
    omega
/-- what is left, times the votes, is what the rests come to -/
theorem left_mul (vs : List Int) (size : Int) : leftOf vs size * vs.sum = (vs.map (restOf size vs.sum)).sum := by
  have h1 : (vs.map fun v => v * size).sum = vs.sum * size := sum_map_mul size vs
  have h2 : (vs.map fun v => seatOf size vs.sum v * vs.sum + restOf size vs.sum v).sum = (vs.map fun v => v * size).sum := by
    congr 1
    refine List.map_congr_left fun v _ => ?_
    unfold seatOf restOf
    rw [Int.mul_comm]
    exact Int.mul_ediv_add_emod _ _
  rw [sum_map_add (fun v => seatOf size vs.sum v * vs.sum) (restOf size vs.sum)] at h2
  have h3 : (vs.map fun v => seatOf size vs.sum v * vs.sum).sum = (vs.map (seatOf size vs.sum)).sum * vs.sum := by
    have := sum_map_mul vs.sum (vs.map (seatOf size vs.sum))
    rwa [List.map_map] at this
  unfold leftOf
  rw [Int.sub_mul, Int.mul_comm size]
  omega
theorem rest_in {vs : List Int} {size : Int} (h : 0 < vs.sum) (v : Int) : 0 ≤ restOf size vs.sum v ∧ restOf size vs.sum v < vs.sum := ⟨Int.emod_nonneg _ (by omega), Int.emod_lt_of_pos _ h⟩
theorem left_nn {vs : List Int} {size : Int} (h : 0 < vs.sum) : 0 ≤ leftOf vs size := by
  have e := left_mul vs size
  have h1 : (vs.map fun _ => (0 : Int)).sum ≤ (vs.map (restOf size vs.sum)).sum := sum_le_of fun v _ => (rest_in h v).1
  rw [sum_const] at h1
  refine Int.not_lt.mp fun z => ?_
  have : leftOf vs size * vs.sum < 0 := Int.mul_neg_of_neg_of_pos z h
  omega
theorem len_pos {vs : List Int} (h : 0 < vs.sum) : 0 < vs.length := by
  cases vs with
  | nil => simp at h
  | cons x l => simp
theorem left_lt {vs : List Int} {size : Int} (h : 0 < vs.sum) : leftOf vs size < vs.length := by
  have e := left_mul vs size
  have h1 : (vs.map (restOf size vs.sum)).sum ≤ (vs.map fun _ => vs.sum - 1).sum := sum_le_of fun v _ => by have := (rest_in (size := size) h v).2; omega
  rw [sum_const] at h1
  have hl := len_pos h
  refine Int.not_le.mp fun z => ?_
  have h2 : (vs.length : Int) * vs.sum ≤ leftOf vs size * vs.sum := Int.mul_le_mul_of_nonneg_right z (by omega)
  have h3 : (vs.length : Int) * (vs.sum - 1) = vs.length * vs.sum - vs.length := by rw [Int.mul_sub, Int.mul_one]
  omega
end G
end
section
namespace G
open PySem PySem.Spec PD L2 Evl
abbrev triD (d : List Int × List Int × Int) : PyData := .tuple [nI d.1, nI d.2.1, .int d.2.2]
structure Fair2 (vs : List Int) (size : Int) : Prop extends Fair vs size where
  vb : ∀ v ∈ vs, v < 4611686018427387904
  len : vs.length ≤ 200
  wb : vs.sum < 4611686018427387904
theorem srtI_len (l : List Int) : (srtI l).length = l.length := (srtI_perm l).length_eq
section
variable {vs : List Int} {size : Int} (h : Fair2 vs size)
include h
theorem v63 {v : Int} (hv : v ∈ vs) : v.natAbs < 2 ^ 63 := by
  have h1 := h.nn v hv
  have h2 := h.vb v hv
  omega
theorem w8000 : vs.sum.natAbs < 2 ^ 8000 := lt8000 (m := 100) (by decide) (Nat.lt_trans (show vs.sum.natAbs < 1000000000000000000000000000000 by have := h.pos; have := h.wb; omega) (by decide))
theorem l_lt : leftOf vs size < vs.length := left_lt h.pos
theorem l_nn : 0 ≤ leftOf vs size := left_nn h.pos
theorem last_at (hl : leftOf vs size ≠ 0) : atI ((srtI (vs.map (restOf size vs.sum))).map PyData.int) ((vs.length : Int) - leftOf vs size) = some (.int (lastOf vs size)) := by
  have h1 := l_lt h
  have h2 := l_nn h
  obtain ⟨l, e⟩ : ∃ l : Nat, leftOf vs size = l := ⟨(leftOf vs size).toNat, by omega⟩
  have e2 : (vs.length : Int) - leftOf vs size = ((vs.length - l : Nat) : Int) := by omega
  have hlt : vs.length - l < (srtI (vs.map (restOf size vs.sum))).length := by rw [srtI_len, List.length_map]; omega
  rw [e2]
  refine atI_nat' ?_
  have e3 : lastOf vs size = (srtI (vs.map (restOf size vs.sum)))[vs.length - l] := by
    unfold lastOf
    have : (leftOf vs size).toNat = l := by omega
    rw [this, List.getElem?_eq_getElem hlt]
    rfl
  rw [List.getElem?_map, List.getElem?_eq_getElem hlt, e3]
  rfl
end
theorem idxs_filter (p : Int → Bool) (f : Int → Int) (vs : List Int) : ((vs.map f).zipIdx.filter fun q => p q.1).map (fun q => (q.2 : Int)) = idxs (fun v => p (f v)) vs := by
  unfold idxs
  rw [List.zipIdx_map, List.filter_map, List.map_map]
  rfl
theorem fil_eq (p : Int → Bool) (f : Int → Int) (vs : List Int) : ((vs.map f).zipIdx.filter fun q => p q.1).map (fun q => PyData.int (q.2 : Int)) = (idxs (fun v => p (f v)) vs).map PyData.int := by
  rw [← idxs_filter, List.map_map]
  rfl
theorem idxs_len (p : Int → Bool) (vs : List Int) : (idxs p vs).length = vs.countP p := by
  unfold idxs
  rw [List.length_map, ← List.countP_eq_length_filter]
  have : ∀ (n : Nat) (l : List Int), (l.zipIdx n).countP (fun q => p q.1) = l.countP p := by
    intro n l
    induction l generalizing n with
    | nil => rfl
    | cons x l ih => rw [List.zipIdx_cons, List.countP_cons, List.countP_cons, ih]
  exact this 0 vs
theorem mem_idxs {p : Int → Bool} {vs : List Int} {k : Nat} {v : Int} (h : vs[k]? = some v) : decide ((k : Int) ∈ idxs p vs) = p v := by
  have key : ((k : Int) ∈ idxs p vs) ↔ p v = true := by
    unfold idxs
    rw [List.mem_map]
    constructor
    · rintro ⟨⟨x, j⟩, hj, e⟩
      rw [List.mem_filter] at hj
      have ej : j = k := by have : (j : Int) = k := e; omega
      subst ej
      have := List.mem_zipIdx_iff_getElem?.mp hj.1
      rw [h] at this
      cases this
      exact hj.2
    · intro hp
      exact ⟨(v, k), List.mem_filter.mpr ⟨List.mem_zipIdx_iff_getElem?.mpr h, hp⟩, rfl⟩
  by_cases z : p v = true
  · rw [z]; exact decide_eq_true (key.mpr z)
  · rw [Bool.not_eq_true] at z
    rw [z]
    exact decide_eq_false fun q => by rw [key.mp q] at z; cases z
/-- f of the items, with a bit more where the place is told -/
theorem zipIdx_map_at {β : Type} (f : Int → Int) (g : Int → Nat → β) (k : Int → β) (vs : List Int) (h : ∀ j v, vs[j]? = some v → g (f v) j = k v) : ((vs.map f).zipIdx.map fun q => g q.1 q.2) = vs.map k := by
  refine List.ext_getElem? fun j => ?_
  rw [List.getElem?_map, List.getElem?_zipIdx, List.getElem?_map, List.getElem?_map]
  cases e : vs[j]? with
  | none => rfl
  | some v =>
    have := h j v e
    simp only [Option.map_some, Nat.zero_add, this]
/-- the end of the law's deal: A those that have one more, D those tied -/
theorem deal_end {vs : List Int} {size : Int} (hlen : vs.length ≤ 200) (A D : List Int) (b : Int → Bool) (hA : ∀ (j : Nat) (v : Int), vs[j]? = some v → decide ((j : Int) ∈ A) = b v) (hD : D.length ≤ 200) :
    sSeq (sAsg (dA pTuple (aCons (oVal (dFrz (dLc (itA enum1 (aCons (oVal (dVar 3)) aNil)) ([11, 13] : List Nat) (tgT 2 (tgCons (tgN 11) (tgCons (tgN 13) tgNil))) dYes (d2 pAddA (oVal (dVar 13)) (oVal (dA pInt (aCons (oVal (d2 pIn (oVal (dVar 11)) (oVal (dVar 7)))) aNil))))))) aNil)) (tgN 9))
      (sRet (dTup (aCons (oVal (dVar 9)) (aCons (oVal (dA pTuple (aCons (oVal (dVar 8)) aNil))) (aCons (oVal (d2 pSub (oVal (dVar 5)) (oVal (dA pLen (aCons (oVal (dVar 7)) aNil))))) aNil)))))
      [.dat (nI vs), .dat (.int size), .dat (.int vs.sum), .dat (lI (vs.map (seatOf size vs.sum))), .dat (lI (vs.map (restOf size vs.sum))), .dat (.int (leftOf vs size)), .dat (.int (lastOf vs size)), .dat (lI A), .dat (lI D), .no, .no, .no, .no, .no] = .ret (.dat (triD (vs.map (fun v => seatOf size vs.sum v + if b v then 1 else 0), D, leftOf vs size - A.length))) [.dat (nI vs), .dat (.int size), .dat (.int vs.sum), .dat (lI (vs.map (seatOf size vs.sum))), .dat (lI (vs.map (restOf size vs.sum))), .dat (.int (leftOf vs size)), .dat (.int (lastOf vs size)), .dat (lI A), .dat (lI D), .dat (nI (vs.map (fun v => seatOf size vs.sum v + if b v then 1 else 0))), .no, .no, .no, .no] := by
  have e1 : dA pTuple (aCons (oVal (dFrz (dLc (itA enum1 (aCons (oVal (dVar 3)) aNil)) ([11, 13] : List Nat) (tgT 2 (tgCons (tgN 11) (tgCons (tgN 13) tgNil))) dYes (d2 pAddA (oVal (dVar 13)) (oVal (dA pInt (aCons (oVal (d2 pIn (oVal (dVar 11)) (oVal (dVar 7)))) aNil))))))) aNil) [.dat (nI vs), .dat (.int size), .dat (.int vs.sum), .dat (lI (vs.map (seatOf size vs.sum))), .dat (lI (vs.map (restOf size vs.sum))), .dat (.int (leftOf vs size)), .dat (.int (lastOf vs size)), .dat (lI A), .dat (lI D), .no, .no, .no, .no, .no] = .ok (nI (vs.map (fun v => seatOf size vs.sum v + if b v then 1 else 0)), [.dat (nI vs), .dat (.int size), .dat (.int vs.sum), .dat (lI (vs.map (seatOf size vs.sum))), .dat (lI (vs.map (restOf size vs.sum))), .dat (.int (leftOf vs size)), .dat (.int (lastOf vs size)), .dat (lI A), .dat (lI D), .no, .no, .no, .no, .no]) := by
    have := tup_map (it := itA enum1 (aCons (oVal (dVar 3)) aNil)) (vs := [11, 13]) (tg := tgT 2 (tgCons (tgN 11) (tgCons (tgN 13) tgNil))) (elt := d2 pAddA (oVal (dVar 13)) (oVal (dA pInt (aCons (oVal (d2 pIn (oVal (dVar 11)) (oVal (dVar 7)))) aNil)))) (en := [.dat (nI vs), .dat (.int size), .dat (.int vs.sum), .dat (lI (vs.map (seatOf size vs.sum))), .dat (lI (vs.map (restOf size vs.sum))), .dat (.int (leftOf vs size)), .dat (.int (lastOf vs size)), .dat (lI A), .dat (lI D), .no, .no, .no, .no, .no]) (e' := [.dat (nI vs), .dat (.int size), .dat (.int vs.sum), .dat (lI (vs.map (seatOf size vs.sum))), .dat (lI (vs.map (restOf size vs.sum))), .dat (.int (leftOf vs size)), .dat (.int (lastOf vs size)), .dat (lI A), .dat (lI D), .no, .no, .no, .no, .no]) (ws := []) qE (fun q => .int (q.1 + if decide ((q.2 : Int) ∈ A) = true then 1 else 0)) (vs.map (seatOf size vs.sum)).zipIdx
      (by simp [itA, aCons, aNil, oVal, Op.res, resAll, enum1, seqOf, ownIx, enum_ints, -List.map_map]) (by simp [PD.freeOf, slFree]) (by simp; omega) (by simp)
      (fun q hq => ⟨[.dat (nI vs), .dat (.int size), .dat (.int vs.sum), .dat (lI (vs.map (seatOf size vs.sum))), .dat (lI (vs.map (restOf size vs.sum))), .dat (.int (leftOf vs size)), .dat (.int (lastOf vs size)), .dat (lI A), .dat (lI D), .no, .no, .dat (.int q.2), .no, .dat (.int q.1)], [.dat (nI vs), .dat (.int size), .dat (.int vs.sum), .dat (lI (vs.map (seatOf size vs.sum))), .dat (lI (vs.map (restOf size vs.sum))), .dat (.int (leftOf vs size)), .dat (.int (lastOf vs size)), .dat (lI A), .dat (lI D), .no, .no, .dat (.int q.2), .no, .dat (.int q.1)], by simp [tgT, tgCons, tgNil, tgN, ioAt, wipeE], by simp [d2, dA, aCons, aNil, oVal, Op.res, resAll, pIn_list, pInt, pAddA], by simp [wipeE]⟩) (by simp [restE, wipeE])
    rw [this]
    have e2 := zipIdx_map_at (seatOf size vs.sum) (fun s j => PyData.int (s + if decide ((j : Int) ∈ A) = true then 1 else 0)) (fun v => PyData.int (seatOf size vs.sum v + if b v = true then 1 else 0)) vs fun j v hv => by rw [hA j v hv]
    rw [e2]
    unfold nI
    rw [List.map_map]
    rfl
  rw [seq_next (e := [.dat (nI vs), .dat (.int size), .dat (.int vs.sum), .dat (lI (vs.map (seatOf size vs.sum))), .dat (lI (vs.map (restOf size vs.sum))), .dat (.int (leftOf vs size)), .dat (.int (lastOf vs size)), .dat (lI A), .dat (lI D), .dat (nI (vs.map (fun v => seatOf size vs.sum v + if b v then 1 else 0))), .no, .no, .no, .no]) (by unfold sAsg; rw [e1]; simp [tgN, ioAt])]
  simp [sRet, dTup, aCons, aNil, oVal, dA, resAll, Op.res, pTuple, pLen, d2, pSub, vals, few, -List.map_map]
theorem f_law_deal {vs : List Int} {size : Int} (h : Fair2 vs size) : F__law_deal [.dat (nI vs), .dat (.int size)] = .ok (.dat (triD (dealT vs size)), [.dat (nI vs), .dat (.int size)]) := by
  have hw := h.pos
  have w8 := w8000 h
  have hlen := h.len
  simp only [F__law_deal, runF, B__law_deal, N__law_deal, List.length_cons, List.length_nil, List.replicate, List.cons_append, List.nil_append]
  rw [seq_next (e := [.dat (nI vs), .dat (.int size), .dat (.int vs.sum), .no, .no, .no, .no, .no, .no, .no, .no, .no, .no, .no]) (by
    simp [sAsg, dA, aCons, aNil, oVal, resAll, Op.res, pSum, tgN, ioAt])]
  rw [seq_next (e := [.dat (nI vs), .dat (.int size), .dat (.int vs.sum), .dat (lI (vs.map (seatOf size vs.sum))), .no, .no, .no, .no, .no, .no, .no, .no, .no, .no]) (by
    refine asg_map (ws := []) PyData.int (fun v => .int (seatOf size vs.sum v)) vs (by simp [itA, it1, oVal, Op.res, resAll, seq1, seqOf, ownIx]) (by simp [PD.freeOf, slFree]) (by omega) (by simp) (fun v hv => ⟨[.dat (nI vs), .dat (.int size), .dat (.int vs.sum), .no, .no, .no, .no, .no, .no, .no, .dat (.int v), .no, .no, .no], [.dat (nI vs), .dat (.int size), .dat (.int vs.sum), .no, .no, .no, .no, .no, .no, .no, .dat (.int v), .no, .no, .no], by simp [tgN, ioAt, wipeE], by simp [d2, oVal, Op.res, pMulA_l (v63 h hv), pFdiv_ok hw w8, seatOf], by simp [wipeE]⟩) (by simp [restE, ioAt, wipeE]) (by simp [restE, wipeE]))]
  rw [seq_next (e := [.dat (nI vs), .dat (.int size), .dat (.int vs.sum), .dat (lI (vs.map (seatOf size vs.sum))), .dat (lI (vs.map (restOf size vs.sum))), .no, .no, .no, .no, .no, .no, .no, .no, .no]) (by
    refine asg_map (ws := []) PyData.int (fun v => .int (restOf size vs.sum v)) vs (by simp [itA, it1, oVal, Op.res, resAll, seq1, seqOf, ownIx]) (by simp [PD.freeOf, slFree]) (by omega) (by simp) (fun v hv => ⟨[.dat (nI vs), .dat (.int size), .dat (.int vs.sum), .dat (lI (vs.map (seatOf size vs.sum))), .no, .no, .no, .no, .no, .no, .dat (.int v), .no, .no, .no], [.dat (nI vs), .dat (.int size), .dat (.int vs.sum), .dat (lI (vs.map (seatOf size vs.sum))), .no, .no, .no, .no, .no, .no, .dat (.int v), .no, .no, .no], by simp [tgN, ioAt, wipeE], by simp [d2, dA, aCons, aNil, resAll, pInt, oVal, Op.res, pMulA_l (v63 h hv), pMod_ok hw, restOf], by simp [wipeE]⟩) (by simp [restE, ioAt, wipeE]) (by simp [restE, wipeE]))]
  rw [seq_next (e := [.dat (nI vs), .dat (.int size), .dat (.int vs.sum), .dat (lI (vs.map (seatOf size vs.sum))), .dat (lI (vs.map (restOf size vs.sum))), .dat (.int (leftOf vs size)), .no, .no, .no, .no, .no, .no, .no, .no]) (by
    simp [sAsg, dA, d2, aCons, aNil, oVal, resAll, Op.res, pSum, tgN, ioAt, pSub, leftOf, -List.map_map])]
  by_cases l0 : leftOf vs size = 0
  · rw [seq_ret (r := .dat (triD (dealT vs size))) (e := [.dat (nI vs), .dat (.int size), .dat (.int vs.sum), .dat (lI (vs.map (seatOf size vs.sum))), .dat (lI (vs.map (restOf size vs.sum))), .dat (.int (leftOf vs size)), .no, .no, .no, .no, .no, .no, .no, .no]) (by
      have e : dealT vs size = (vs.map (seatOf size vs.sum), [], 0) := by unfold dealT; rw [if_pos l0]
      simp [e, sIf, dB, d2, oVal, dC, Op.res, pEq_int, l0, sRet, dTup, dA, aCons, aNil, resAll, pTuple, vals, few])]
    simp [backArgs]
  · have hlast := last_at h l0
    have is : intsD ((vs.map (restOf size vs.sum)).map PyData.int) = some (vs.map (restOf size vs.sum)) := intsD_map _
    rw [seq_next (e := [.dat (nI vs), .dat (.int size), .dat (.int vs.sum), .dat (lI (vs.map (seatOf size vs.sum))), .dat (lI (vs.map (restOf size vs.sum))), .dat (.int (leftOf vs size)), .no, .no, .no, .no, .no, .no, .no, .no]) (by simp [sIf, dB, d2, oVal, dC, Op.res, pEq_int, l0, sNext])]
    rw [seq_next (e := [.dat (nI vs), .dat (.int size), .dat (.int vs.sum), .dat (lI (vs.map (seatOf size vs.sum))), .dat (lI (vs.map (restOf size vs.sum))), .dat (.int (leftOf vs size)), .dat (.int (lastOf vs size)), .no, .no, .no, .no, .no, .no, .no]) (by
      simp [sAsg, d2, oVal, dFrz, dA, aCons, aNil, resAll, Op.res, pSorted, is, pLen, pSub, pIx_list hlast, tgN, ioAt, -List.map_map])]
    rw [seq_next (e := [.dat (nI vs), .dat (.int size), .dat (.int vs.sum), .dat (lI (vs.map (seatOf size vs.sum))), .dat (lI (vs.map (restOf size vs.sum))), .dat (.int (leftOf vs size)), .dat (.int (lastOf vs size)), .dat (lI (idxs (fun v => decide (lastOf vs size < restOf size vs.sum v)) vs)), .no, .no, .no, .no, .no, .no]) (by
      refine asg_filter (ws := []) qE (fun q => decide (lastOf vs size < q.1)) (fun q => .int (q.2 : Int)) (vs.map (restOf size vs.sum)).zipIdx (by simp [itA, aCons, aNil, oVal, Op.res, resAll, enum1, seqOf, ownIx, enum_ints, -List.map_map]) (by simp [PD.freeOf, slFree]) (by simp; omega) (by simp)
        (fun q hq => ⟨[.dat (nI vs), .dat (.int size), .dat (.int vs.sum), .dat (lI (vs.map (seatOf size vs.sum))), .dat (lI (vs.map (restOf size vs.sum))), .dat (.int (leftOf vs size)), .dat (.int (lastOf vs size)), .no, .no, .no, .no, .dat (.int q.2), .dat (.int q.1), .no], [.dat (nI vs), .dat (.int size), .dat (.int vs.sum), .dat (lI (vs.map (seatOf size vs.sum))), .dat (lI (vs.map (restOf size vs.sum))), .dat (.int (leftOf vs size)), .dat (.int (lastOf vs size)), .no, .no, .no, .no, .dat (.int q.2), .dat (.int q.1), .no], by simp [tgT, tgCons, tgNil, tgN, ioAt, wipeE], by simp [dB, d2, oVal, Op.res, pGt], fun _ => ⟨[.dat (nI vs), .dat (.int size), .dat (.int vs.sum), .dat (lI (vs.map (seatOf size vs.sum))), .dat (lI (vs.map (restOf size vs.sum))), .dat (.int (leftOf vs size)), .dat (.int (lastOf vs size)), .no, .no, .no, .no, .dat (.int q.2), .dat (.int q.1), .no], by simp, by simp [wipeE]⟩, fun _ => by simp [wipeE]⟩) (by simp [restE, ioAt, wipeE]) (by simp [restE, wipeE, fil_eq (fun x => decide (lastOf vs size < x)), -List.map_map]))]
    rw [seq_next (e := [.dat (nI vs), .dat (.int size), .dat (.int vs.sum), .dat (lI (vs.map (seatOf size vs.sum))), .dat (lI (vs.map (restOf size vs.sum))), .dat (.int (leftOf vs size)), .dat (.int (lastOf vs size)), .dat (lI (idxs (fun v => decide (lastOf vs size < restOf size vs.sum v)) vs)), .dat (lI (idxs (fun v => decide (restOf size vs.sum v = lastOf vs size)) vs)), .no, .no, .no, .no, .no]) (by
      refine asg_filter (ws := []) qE (fun q => decide (q.1 = lastOf vs size)) (fun q => .int (q.2 : Int)) (vs.map (restOf size vs.sum)).zipIdx (by simp [itA, aCons, aNil, oVal, Op.res, resAll, enum1, seqOf, ownIx, enum_ints, -List.map_map]) (by simp [PD.freeOf, slFree]) (by simp; omega) (by simp)
        (fun q hq => ⟨[.dat (nI vs), .dat (.int size), .dat (.int vs.sum), .dat (lI (vs.map (seatOf size vs.sum))), .dat (lI (vs.map (restOf size vs.sum))), .dat (.int (leftOf vs size)), .dat (.int (lastOf vs size)), .dat (lI (idxs (fun v => decide (lastOf vs size < restOf size vs.sum v)) vs)), .no, .no, .no, .dat (.int q.2), .dat (.int q.1), .no], [.dat (nI vs), .dat (.int size), .dat (.int vs.sum), .dat (lI (vs.map (seatOf size vs.sum))), .dat (lI (vs.map (restOf size vs.sum))), .dat (.int (leftOf vs size)), .dat (.int (lastOf vs size)), .dat (lI (idxs (fun v => decide (lastOf vs size < restOf size vs.sum v)) vs)), .no, .no, .no, .dat (.int q.2), .dat (.int q.1), .no], by simp [tgT, tgCons, tgNil, tgN, ioAt, wipeE], by simp [dB, d2, oVal, Op.res, pEq_int], fun _ => ⟨[.dat (nI vs), .dat (.int size), .dat (.int vs.sum), .dat (lI (vs.map (seatOf size vs.sum))), .dat (lI (vs.map (restOf size vs.sum))), .dat (.int (leftOf vs size)), .dat (.int (lastOf vs size)), .dat (lI (idxs (fun v => decide (lastOf vs size < restOf size vs.sum v)) vs)), .no, .no, .no, .dat (.int q.2), .dat (.int q.1), .no], by simp, by simp [wipeE]⟩, fun _ => by simp [wipeE]⟩) (by simp [restE, ioAt, wipeE]) (by simp [restE, wipeE, fil_eq (fun x => decide (x = lastOf vs size)), -List.map_map]))]
    have la : (idxs (fun v => decide (lastOf vs size < restOf size vs.sum v)) vs).length = aboveN vs size := idxs_len _ _
    have ld : (idxs (fun v => decide (restOf size vs.sum v = lastOf vs size)) vs).length = tiedN vs size := idxs_len _ _
    have la2 : aboveN vs size ≤ 200 := Nat.le_trans List.countP_le_length hlen
    have ld2 : tiedN vs size ≤ 200 := Nat.le_trans List.countP_le_length hlen
    by_cases hc : (aboveN vs size : Int) + tiedN vs size = leftOf vs size
    · rw [seq_next (e := [.dat (nI vs), .dat (.int size), .dat (.int vs.sum), .dat (lI (vs.map (seatOf size vs.sum))), .dat (lI (vs.map (restOf size vs.sum))), .dat (.int (leftOf vs size)), .dat (.int (lastOf vs size)), .dat (lI ((idxs (fun v => decide (lastOf vs size < restOf size vs.sum v)) vs) ++ (idxs (fun v => decide (restOf size vs.sum v = lastOf vs size)) vs))), .dat (lI []), .no, .no, .no, .no, .no]) (by
        have hf : aboveN vs size + tiedN vs size ≤ 100000 := by omega
        simp [sIf, dB, d2, dA, aCons, aNil, oVal, resAll, Op.res, pLen, pAddA, pEq_int, la, ld, hc, sAsg, dTup, dFrz, dLst, vals, few, few2, hf, tgT, tgCons, tgNil, tgN, ioAt, -List.map_map])]
      rw [deal_end hlen _ _ (fun v => decide (lastOf vs size ≤ restOf size vs.sum v)) (fun j v hv => ?_) (by simp)]
      · have e : dealT vs size = (vs.map (fun v => seatOf size vs.sum v + if lastOf vs size ≤ restOf size vs.sum v then 1 else 0), [], 0) := by unfold dealT; rw [if_neg l0, if_pos hc]
        have e2 : leftOf vs size - (((idxs (fun v => decide (lastOf vs size < restOf size vs.sum v)) vs) ++ (idxs (fun v => decide (restOf size vs.sum v = lastOf vs size)) vs)).length : Int) = 0 := by rw [List.length_append, la, ld]; omega
        simp [e, backArgs, la, ld]
        omega
      · have m1 := mem_idxs (p := fun v => decide (lastOf vs size < restOf size vs.sum v)) hv
        have m2 := mem_idxs (p := fun v => decide (restOf size vs.sum v = lastOf vs size)) hv
        rw [show (decide ((j : Int) ∈ (idxs (fun v => decide (lastOf vs size < restOf size vs.sum v)) vs) ++ (idxs (fun v => decide (restOf size vs.sum v = lastOf vs size)) vs))) = (decide ((j : Int) ∈ (idxs (fun v => decide (lastOf vs size < restOf size vs.sum v)) vs)) || decide ((j : Int) ∈ (idxs (fun v => decide (restOf size vs.sum v = lastOf vs size)) vs))) by simp [List.mem_append], m1, m2]
        by_cases z : lastOf vs size < restOf size vs.sum v
        · have : lastOf vs size ≤ restOf size vs.sum v := by omega
          simp [z, this]
        · by_cases y : restOf size vs.sum v = lastOf vs size
          · simp [y]
          · have : ¬ lastOf vs size ≤ restOf size vs.sum v := by omega
            simp [z, y, this]
    · rw [seq_next (e := [.dat (nI vs), .dat (.int size), .dat (.int vs.sum), .dat (lI (vs.map (seatOf size vs.sum))), .dat (lI (vs.map (restOf size vs.sum))), .dat (.int (leftOf vs size)), .dat (.int (lastOf vs size)), .dat (lI (idxs (fun v => decide (lastOf vs size < restOf size vs.sum v)) vs)), .dat (lI (idxs (fun v => decide (restOf size vs.sum v = lastOf vs size)) vs)), .no, .no, .no, .no, .no]) (by
        simp [sIf, dB, d2, dA, aCons, aNil, oVal, resAll, Op.res, pLen, pAddA, pEq_int, la, ld, hc, sNext, -List.map_map])]
      rw [deal_end hlen _ _ (fun v => decide (lastOf vs size < restOf size vs.sum v)) (fun j v hv => mem_idxs hv) (by omega)]
      have e : dealT vs size = (vs.map (fun v => seatOf size vs.sum v + if lastOf vs size < restOf size vs.sum v then 1 else 0), idxs (fun v => decide (restOf size vs.sum v = lastOf vs size)) vs, leftOf vs size - aboveN vs size) := by unfold dealT; rw [if_neg l0, if_neg hc]
      simp [e, la, backArgs]
end G
end
section
namespace G
open PySem PySem.Spec PD L2 Evl
/-- the seats, one more for the first i that lie above -/
def bumpL (vs : List Int) (size : Int) (i : Nat) : List Int := vs.zipIdx.map fun q => seatOf size vs.sum q.1 + if q.2 < i ∧ lastOf vs size < restOf size vs.sum q.1 then 1 else 0
def cntL (vs : List Int) (size : Int) (i : Nat) : Nat := (vs.take i).countP fun v => decide (lastOf vs size < restOf size vs.sum v)
theorem bumpL_get (vs : List Int) (size : Int) (i j : Nat) : (bumpL vs size i)[j]? = (vs[j]?).map fun v => seatOf size vs.sum v + if j < i ∧ lastOf vs size < restOf size vs.sum v then 1 else 0 := by
  unfold bumpL
  rw [List.getElem?_map, List.getElem?_zipIdx]
  cases vs[j]? with
  | none => rfl
  | some v => simp
theorem bumpL_len (vs : List Int) (size : Int) (i : Nat) : (bumpL vs size i).length = vs.length := by simp [bumpL]
theorem bumpL_0 (vs : List Int) (size : Int) : bumpL vs size 0 = vs.map (seatOf size vs.sum) := by
  refine List.ext_getElem? fun j => ?_
  rw [bumpL_get, List.getElem?_map]
  cases vs[j]? <;> simp
theorem bumpL_n (vs : List Int) (size : Int) : bumpL vs size vs.length = vs.map fun v => seatOf size vs.sum v + if lastOf vs size < restOf size vs.sum v then 1 else 0 := by
  refine List.ext_getElem? fun j => ?_
  rw [bumpL_get, List.getElem?_map]
  cases e : vs[j]? with
  | none => rfl
  | some v =>
    have := (List.getElem?_eq_some_iff.mp e).1
    simp [this]
theorem bumpL_up {vs : List Int} {size : Int} {i : Nat} {v : Int} (e : vs[i]? = some v) (h : lastOf vs size < restOf size vs.sum v) : (bumpL vs size i).set i (seatOf size vs.sum v + 1) = bumpL vs size (i + 1) := by
  refine List.ext_getElem? fun j => ?_
  by_cases z : i = j
  · subst z
    have hl : i < (bumpL vs size i).length := by rw [bumpL_len]; exact (List.getElem?_eq_some_iff.mp e).1
    rw [List.getElem?_set_self hl, bumpL_get, e]
    simp [h]
  · rw [List.getElem?_set_ne z, bumpL_get, bumpL_get]
    cases vs[j]? with
    | none => rfl
    | some u =>
      have : (j < i + 1) ↔ (j < i) := by omega
      simp [this]
theorem bumpL_stay {vs : List Int} {size : Int} {i : Nat} {v : Int} (e : vs[i]? = some v) (h : ¬ lastOf vs size < restOf size vs.sum v) : bumpL vs size (i + 1) = bumpL vs size i := by
  refine List.ext_getElem? fun j => ?_
  rw [bumpL_get, bumpL_get]
  by_cases z : i = j
  · subst z
    rw [e]
    simp [h]
  · cases vs[j]? with
    | none => rfl
    | some u =>
      have : (j < i + 1) ↔ (j < i) := by omega
      simp [this]
theorem cntL_up {vs : List Int} {size : Int} {i : Nat} {v : Int} (e : vs[i]? = some v) : cntL vs size (i + 1) = cntL vs size i + if lastOf vs size < restOf size vs.sum v then 1 else 0 := by
  unfold cntL
  rw [List.take_succ, e, List.countP_append]
  simp [List.countP_cons]
theorem cntL_n (vs : List Int) (size : Int) : cntL vs size vs.length = aboveN vs size := by simp [cntL, aboveN]
theorem count_split (vs : List Int) (p q r : Int → Bool) (h : ∀ v, r v = (p v || q v)) (d : ∀ v, ¬ (p v = true ∧ q v = true)) : vs.countP r = vs.countP p + vs.countP q := by
  induction vs with
  | nil => rfl
  | cons v vs ih =>
    rw [List.countP_cons, List.countP_cons, List.countP_cons, ih, h v]
    have := d v
    cases hp : p v <;> cases hq : q v <;> simp [hp, hq] at this ⊢ <;> omega
/-- those at the last one given and above it are enough -/
theorem left_le {vs : List Int} {size : Int} (hw : 0 < vs.sum) : leftOf vs size ≤ (aboveN vs size : Int) + tiedN vs size := by
  have h1 := left_nn (size := size) hw
  have h2 := left_lt (size := size) hw
  obtain ⟨l, e⟩ : ∃ l : Nat, leftOf vs size = l := ⟨(leftOf vs size).toNat, by omega⟩
  by_cases l0 : l = 0
  · omega
  have e1 := count_split vs (fun v => decide (lastOf vs size < restOf size vs.sum v)) (fun v => decide (restOf size vs.sum v = lastOf vs size)) (fun v => decide (lastOf vs size ≤ restOf size vs.sum v))
    (fun v => by
      by_cases a : lastOf vs size < restOf size vs.sum v
      · have : lastOf vs size ≤ restOf size vs.sum v := by omega
        simp [a, this]
      · by_cases b : restOf size vs.sum v = lastOf vs size
        · simp [b]
        · have : ¬ lastOf vs size ≤ restOf size vs.sum v := by omega
          simp [a, b, this]) (fun v ⟨a, b⟩ => by simp at a b; omega)
  have e2 : vs.countP (fun v => decide (lastOf vs size ≤ restOf size vs.sum v)) = (srtI (vs.map (restOf size vs.sum))).countP (fun r => decide (lastOf vs size ≤ r)) := by
    rw [(srtI_perm _).countP_eq, List.countP_map]
    rfl
  have hlt : vs.length - l < (srtI (vs.map (restOf size vs.sum))).length := by rw [srtI_len, List.length_map]; omega
  have e3 : lastOf vs size = (srtI (vs.map (restOf size vs.sum)))[vs.length - l] := by
    unfold lastOf
    have : (leftOf vs size).toNat = l := by omega
    rw [this, List.getElem?_eq_getElem hlt]
    rfl
  have e4 : l ≤ (srtI (vs.map (restOf size vs.sum))).countP (fun r => decide (lastOf vs size ≤ r)) := by
    have hs := srtI_sorted (vs.map (restOf size vs.sum))
    have hd : ∀ r ∈ (srtI (vs.map (restOf size vs.sum))).drop (vs.length - l), lastOf vs size ≤ r := by
      rw [List.drop_eq_getElem_cons hlt, e3]
      intro r hr
      have hp := hs.sublist (List.drop_sublist (vs.length - l) _)
      rw [List.drop_eq_getElem_cons hlt] at hp
      rcases List.mem_cons.mp hr with rfl | hr
      · exact Int.le_refl _
      · exact (List.pairwise_cons.mp hp).1 r hr
    have hc : ((srtI (vs.map (restOf size vs.sum))).drop (vs.length - l)).countP (fun r => decide (lastOf vs size ≤ r)) = l := by
      rw [List.countP_eq_length.mpr fun r hr => decide_eq_true (hd r hr), List.length_drop, srtI_len, List.length_map]
      omega
    have := (List.drop_sublist (vs.length - l) (srtI (vs.map (restOf size vs.sum)))).countP_le (p := fun r => decide (lastOf vs size ≤ r))
    omega
  unfold aboveN tiedN
  omega
end G
end
section
namespace G
open PySem PySem.Spec PD L2 Evl
theorem zip_self (vs : List Int) (f : Int → Int) : zipD (vs.map PyData.int) ((vs.map f).map PyData.int) = vs.map fun v => .tuple [.int v, .int (f v)] := by
  unfold zipD
  rw [List.map_map, List.zip_map', List.map_map]
  rfl
theorem ixR_at {n i : Nat} (h : i < n) : ixR n (.int (i : Int)) = .ok i := by
  unfold ixR ixN
  simp only []
  rw [if_pos (by omega), if_pos (by omega)]
  simp
def os : Option PyData → Sl
  | none => .no
  | some d => .dat d
theorem last_rev {vs : List Int} {size : Int} (h : Fair2 vs size) (hl : leftOf vs size ≠ 0) : atI ((srtI (vs.map (restOf size vs.sum))).map PyData.int).reverse (leftOf vs size - 1) = some (.int (lastOf vs size)) := by
  have h1 := l_lt h
  have h2 := l_nn h
  obtain ⟨l, e⟩ : ∃ l : Nat, leftOf vs size = l := ⟨(leftOf vs size).toNat, by omega⟩
  have e0 : leftOf vs size - 1 = ((l - 1 : Nat) : Int) := by omega
  rw [e0]
  refine atI_nat' ?_
  have hlt : vs.length - l < (srtI (vs.map (restOf size vs.sum))).length := by rw [srtI_len, List.length_map]; omega
  have e3 : lastOf vs size = (srtI (vs.map (restOf size vs.sum)))[vs.length - l] := by
    unfold lastOf
    have : (leftOf vs size).toNat = l := by omega
    rw [this, List.getElem?_eq_getElem hlt]
    rfl
  have hr : l - 1 < ((srtI (vs.map (restOf size vs.sum))).map PyData.int).length := by rw [List.length_map, srtI_len, List.length_map]; omega
  rw [List.getElem?_reverse hr, List.getElem?_map]
  have e5 : ((srtI (vs.map (restOf size vs.sum))).map PyData.int).length - 1 - (l - 1) = vs.length - l := by rw [List.length_map, srtI_len, List.length_map]; omega
  rw [e5, List.getElem?_eq_getElem hlt, e3]
  rfl
theorem f_rests_deal {vs : List Int} {size : Int} (h : Fair2 vs size) : F_rests_deal [.dat (nI vs), .dat (.int size)] = .ok (.dat (triD (dealT vs size)), [.dat (nI vs), .dat (.int size)]) := by
  have hw := h.pos
  have w8 := w8000 h
  have w63 : vs.sum.natAbs < 2 ^ 63 := by have := h.wb; omega
  have hlen := h.len
  simp only [F_rests_deal, runF, B_rests_deal, N_rests_deal, List.length_cons, List.length_nil, List.replicate, List.cons_append, List.nil_append]
  rw [seq_next (e := [.dat (nI vs), .dat (.int size), .dat (.int vs.sum), .no, .no, .no, .no, .no, .no, .no, .no, .no]) (by
    simp [sAsg, dA, aCons, aNil, oVal, resAll, Op.res, pSum, tgN, ioAt])]
  rw [seq_next (e := [.dat (nI vs), .dat (.int size), .dat (.int vs.sum), .own false ((vs.map (seatOf size vs.sum)).map PyData.int), .no, .no, .no, .no, .no, .no, .no, .no]) (by
    refine own_map (ws := []) PyData.int (fun v => .int (seatOf size vs.sum v)) vs (by simp [itA, it1, oVal, Op.res, resAll, seq1, seqOf, ownIx]) (by simp [PD.freeOf, slFree]) (by omega) (by simp) (fun v hv => ⟨[.dat (nI vs), .dat (.int size), .dat (.int vs.sum), .no, .no, .no, .no, .no, .no, .no, .dat (.int v), .no], [.dat (nI vs), .dat (.int size), .dat (.int vs.sum), .no, .no, .no, .no, .no, .no, .no, .dat (.int v), .no], by simp [tgN, ioAt, wipeE], by simp [d2, oVal, Op.res, pMulA_l (v63 h hv), pFdiv_ok hw w8, seatOf], by simp [wipeE]⟩) (by simp [restE, ioAt, wipeE]) (by simp [restE, wipeE]))]
  have i3 : intsD ((vs.map (seatOf size vs.sum)).map PyData.int) = some (vs.map (seatOf size vs.sum)) := intsD_map _
  have iR : intsD ((vs.map (restOf size vs.sum)).map PyData.int) = some (vs.map (restOf size vs.sum)) := intsD_map _
  rw [seq_next (e := [.dat (nI vs), .dat (.int size), .dat (.int vs.sum), .own false ((vs.map (seatOf size vs.sum)).map PyData.int), .dat (lI (vs.map (restOf size vs.sum))), .no, .no, .no, .no, .no, .no, .no]) (by
    refine asg_map (ws := [3]) (fun v => .tuple [.int v, .int (seatOf size vs.sum v)]) (fun v => .int (restOf size vs.sum v)) vs (by simp [itA, aCons, aNil, oVal, oAny, Op.res, resAll, zip2, seqOf, ownIx, zip_self, -List.map_map]) (by simp [PD.freeOf, slFree]) (by omega) (by simp) (fun v hv => ⟨[.dat (nI vs), .dat (.int size), .dat (.int vs.sum), .own false ((vs.map (seatOf size vs.sum)).map PyData.int), .no, .no, .no, .no, .no, .no, .dat (.int v), .dat (.int (seatOf size vs.sum v))], [.dat (nI vs), .dat (.int size), .dat (.int vs.sum), .own false ((vs.map (seatOf size vs.sum)).map PyData.int), .no, .no, .no, .no, .no, .no, .dat (.int v), .dat (.int (seatOf size vs.sum v))], by simp [tgT, tgCons, tgNil, tgN, ioAt, wipeE], by
        have e : v * size - seatOf size vs.sum v * vs.sum = restOf size vs.sum v := by
          unfold seatOf restOf
          rw [Int.emod_def, Int.mul_comm vs.sum]
        simp [d2, oVal, Op.res, pMulA_l (v63 h hv), pMulA_r w63, pSub, e], by simp [wipeE]⟩) (by simp [restE, ioAt, wipeE]) (by simp [restE, wipeE]))]
  rw [seq_next (e := [.dat (nI vs), .dat (.int size), .dat (.int vs.sum), .own false ((vs.map (seatOf size vs.sum)).map PyData.int), .dat (lI (vs.map (restOf size vs.sum))), .dat (.int (leftOf vs size)), .no, .no, .no, .no, .no, .no]) (by
    simp [sAsg, dA, d2, aCons, aNil, oVal, oAny, resAll, Op.res, pSum, i3, tgN, ioAt, pSub, leftOf, -List.map_map])]
  by_cases l0 : leftOf vs size = 0
  · rw [seq_ret (r := .dat (triD (dealT vs size))) (e := [.dat (nI vs), .dat (.int size), .dat (.int vs.sum), .own false ((vs.map (seatOf size vs.sum)).map PyData.int), .dat (lI (vs.map (restOf size vs.sum))), .dat (.int (leftOf vs size)), .no, .no, .no, .no, .no, .no]) (by
      have e : dealT vs size = (vs.map (seatOf size vs.sum), [], 0) := by unfold dealT; rw [if_pos l0]
      simp [e, sIf, dB, d2, oVal, oAny, dC, Op.res, pEq_int, l0, sRet, dTup, dA, aCons, aNil, resAll, pTuple, vals, few])]
    simp [backArgs]
  · have hlast := last_rev h l0
    rw [seq_next (e := [.dat (nI vs), .dat (.int size), .dat (.int vs.sum), .own false ((vs.map (seatOf size vs.sum)).map PyData.int), .dat (lI (vs.map (restOf size vs.sum))), .dat (.int (leftOf vs size)), .no, .no, .no, .no, .no, .no]) (by simp [sIf, dB, d2, oVal, dC, Op.res, pEq_int, l0, sNext])]
    rw [seq_next (e := [.dat (nI vs), .dat (.int size), .dat (.int vs.sum), .own false ((vs.map (seatOf size vs.sum)).map PyData.int), .dat (lI (vs.map (restOf size vs.sum))), .dat (.int (leftOf vs size)), .dat (.int (lastOf vs size)), .no, .no, .no, .no, .no]) (by
      simp [sAsg, d1, d2, oVal, dFrz, dA, aCons, aNil, resAll, Op.res, pSorted, iR, revP, pSub, dC, pIx_list hlast, tgN, ioAt, -List.map_map, -List.map_reverse])]
    rw [seq_next (e := [.dat (nI vs), .dat (.int size), .dat (.int vs.sum), .own false ((vs.map (seatOf size vs.sum)).map PyData.int), .dat (lI (vs.map (restOf size vs.sum))), .dat (.int (leftOf vs size)), .dat (.int (lastOf vs size)), .dat (nI (idxs (fun v => decide (restOf size vs.sum v = lastOf vs size)) vs)), .no, .no, .no, .no]) (by
      unfold sAsg
      rw [tup_filter (e' := [.dat (nI vs), .dat (.int size), .dat (.int vs.sum), .own false ((vs.map (seatOf size vs.sum)).map PyData.int), .dat (lI (vs.map (restOf size vs.sum))), .dat (.int (leftOf vs size)), .dat (.int (lastOf vs size)), .no, .no, .no, .no, .no]) (ws := []) qE (fun q => decide (q.1 = lastOf vs size)) (fun q => .int (q.2 : Int)) (vs.map (restOf size vs.sum)).zipIdx (by simp [itA, aCons, aNil, oVal, Op.res, resAll, enum1, seqOf, ownIx, enum_ints, -List.map_map]) (by simp [PD.freeOf, slFree]) (by simp; omega) (by simp)
        (fun q hq => ⟨[.dat (nI vs), .dat (.int size), .dat (.int vs.sum), .own false ((vs.map (seatOf size vs.sum)).map PyData.int), .dat (lI (vs.map (restOf size vs.sum))), .dat (.int (leftOf vs size)), .dat (.int (lastOf vs size)), .no, .dat (.int q.2), .dat (.int q.1), .no, .no], [.dat (nI vs), .dat (.int size), .dat (.int vs.sum), .own false ((vs.map (seatOf size vs.sum)).map PyData.int), .dat (lI (vs.map (restOf size vs.sum))), .dat (.int (leftOf vs size)), .dat (.int (lastOf vs size)), .no, .dat (.int q.2), .dat (.int q.1), .no, .no], by simp [tgT, tgCons, tgNil, tgN, ioAt, wipeE], by simp [dB, d2, oVal, Op.res, pEq_int], fun _ => ⟨[.dat (nI vs), .dat (.int size), .dat (.int vs.sum), .own false ((vs.map (seatOf size vs.sum)).map PyData.int), .dat (lI (vs.map (restOf size vs.sum))), .dat (.int (leftOf vs size)), .dat (.int (lastOf vs size)), .no, .dat (.int q.2), .dat (.int q.1), .no, .no], by simp, by simp [wipeE]⟩, fun _ => by simp [wipeE]⟩) (by simp [restE, wipeE])]
      simp [tgN, ioAt, fil_eq (fun x => decide (x = lastOf vs size)), -List.map_map])]
    -- the loop
    obtain ⟨⟨su, le, o8, o9⟩, e8, p1, p2⟩ := for_state (S := List Int × Int × Option PyData × Option PyData)
      (fun s => [.dat (nI vs), .dat (.int size), .dat (.int vs.sum), .own false (s.1.map PyData.int), .dat (lI (vs.map (restOf size vs.sum))), .dat (.int s.2.1), .dat (.int (lastOf vs size)), .dat (nI (idxs (fun v => decide (restOf size vs.sum v = lastOf vs size)) vs)), os s.2.2.1, os s.2.2.2, .no, .no])
      (g := tgT 2 (tgCons (tgN 8) (tgCons (tgN 9) tgNil))) (B := sIf (dB (d2 pGt (oVal (dVar 9)) (oVal (dVar 6)))) (sSeq (sAugIx 3 pAdd (dVar 8) (dC (.int 1))) (sAug 5 pSub (dC (.int 1)))) sNext)
      (fun i s => s.1 = bumpL vs size i ∧ s.2.1 = leftOf vs size - cntL vs size i) ((vs.map (restOf size vs.sum)).zipIdx.map qE)
      (fun i x hx s hs => by
        obtain ⟨su, le, o8, o9⟩ := s
        obtain ⟨q1, q2⟩ := hs
        simp only at q1 q2
        subst q1 q2
        rw [List.getElem?_map, List.getElem?_zipIdx, List.getElem?_map] at hx
        cases ev : vs[i]? with
        | none => rw [ev] at hx; cases hx
        | some v =>
          rw [ev] at hx
          have hx : x = qE (restOf size vs.sum v, 0 + i) := (Option.some.inj hx).symm
          rw [Nat.zero_add] at hx
          subst hx
          have hi := (List.getElem?_eq_some_iff.mp ev).1
          have hg : (bumpL vs size i)[i]? = some (seatOf size vs.sum v) := by rw [bumpL_get, ev]; simp
          have hg2 : ((bumpL vs size i).map PyData.int)[i]? = some (.int (seatOf size vs.sum v)) := by rw [List.getElem?_map, hg]; rfl
          have hix : ixR ((bumpL vs size i).map PyData.int).length (.int (i : Int)) = .ok i := ixR_at (by rw [List.length_map, bumpL_len]; exact hi)
          refine ⟨[.dat (nI vs), .dat (.int size), .dat (.int vs.sum), .own false ((bumpL vs size i).map PyData.int), .dat (lI (vs.map (restOf size vs.sum))), .dat (.int (leftOf vs size - cntL vs size i)), .dat (.int (lastOf vs size)), .dat (nI (idxs (fun v => decide (restOf size vs.sum v = lastOf vs size)) vs)), .dat (.int (i : Int)), .dat (.int (restOf size vs.sum v)), .no, .no], (bumpL vs size (i + 1), leftOf vs size - cntL vs size (i + 1), some (.int (i : Int)), some (.int (restOf size vs.sum v))), ?_, .inl ?_, rfl, rfl⟩
          · cases o8 <;> cases o9 <;> simp [os, tgT, tgCons, tgNil, tgN, ioAt]
          · by_cases z : lastOf vs size < restOf size vs.sum v
            · have c := cntL_up (size := size) ev
              rw [if_pos z] at c
              rw [← bumpL_up ev z]
              have e : leftOf vs size - (cntL vs size (i + 1) : Int) = leftOf vs size - cntL vs size i - 1 := by omega
              rw [e]
              simp [sIf, dB, d2, oVal, Op.res, pGt, z, sSeq, sThen, sAugIx, ownAt, hix, hg2, dC, pAdd, sAug, pSub, tgN, ioAt, os, List.map_set, -List.map_map, -List.length_map, -List.getElem?_map]
            · have c := cntL_up (size := size) ev
              rw [if_neg z] at c
              rw [bumpL_stay ev z]
              have e : leftOf vs size - (cntL vs size (i + 1) : Int) = leftOf vs size - cntL vs size i := by omega
              rw [e]
              simp [sIf, dB, d2, oVal, Op.res, pGt, z, sNext, os, -List.map_map]) (vs.map (seatOf size vs.sum), leftOf vs size, none, none) ⟨(bumpL_0 vs size).symm, by simp [cntL]⟩
    have hl : ((vs.map (restOf size vs.sum)).zipIdx.map qE).length = vs.length := by simp
    rw [hl] at p1 p2
    rw [bumpL_n] at p1
    rw [cntL_n] at p2
    simp only at p1 p2
    subst p1 p2
    rw [seq_next (e := [.dat (nI vs), .dat (.int size), .dat (.int vs.sum), .own false ((vs.map fun v => seatOf size vs.sum v + if lastOf vs size < restOf size vs.sum v then 1 else 0).map PyData.int), .dat (lI (vs.map (restOf size vs.sum))), .dat (.int (leftOf vs size - aboveN vs size)), .dat (.int (lastOf vs size)), .dat (nI (idxs (fun v => decide (restOf size vs.sum v = lastOf vs size)) vs)), os o8, os o9, .no, .no]) (by
      refine for_next (xs := (vs.map (restOf size vs.sum)).zipIdx.map qE) (by simp [itA, aCons, aNil, oVal, Op.res, resAll, enum1, seqOf, ownIx, enum_ints, -List.map_map]; rfl) (e8.trans ?_)
      rfl)]
    have ld : (idxs (fun v => decide (restOf size vs.sum v = lastOf vs size)) vs).length = tiedN vs size := idxs_len _ _
    have ld2 : tiedN vs size ≤ 200 := Nat.le_trans List.countP_le_length hlen
    have lle := left_le (size := size) hw
    by_cases hc : leftOf vs size - (aboveN vs size : Int) < tiedN vs size
    · rw [seq_ret (r := .dat (triD (dealT vs size))) (e := [.dat (nI vs), .dat (.int size), .dat (.int vs.sum), .own false ((vs.map fun v => seatOf size vs.sum v + if lastOf vs size < restOf size vs.sum v then 1 else 0).map PyData.int), .dat (lI (vs.map (restOf size vs.sum))), .dat (.int (leftOf vs size - aboveN vs size)), .dat (.int (lastOf vs size)), .dat (nI (idxs (fun v => decide (restOf size vs.sum v = lastOf vs size)) vs)), os o8, os o9, .no, .no]) (by
        have e : dealT vs size = ((vs.map fun v => seatOf size vs.sum v + if lastOf vs size < restOf size vs.sum v then 1 else 0), (idxs (fun v => decide (restOf size vs.sum v = lastOf vs size)) vs), leftOf vs size - aboveN vs size) := by unfold dealT; rw [if_neg l0, if_neg (by omega)]
        simp [e, sIf, dB, d2, dA, aCons, aNil, oVal, oAny, resAll, Op.res, pLen, pLt, ld, hc, sRet, dTup, pTuple, vals, few, -List.map_map])]
      simp [backArgs]
    · rw [seq_next (e := [.dat (nI vs), .dat (.int size), .dat (.int vs.sum), .own false ((vs.map fun v => seatOf size vs.sum v + if lastOf vs size < restOf size vs.sum v then 1 else 0).map PyData.int), .dat (lI (vs.map (restOf size vs.sum))), .dat (.int (leftOf vs size - aboveN vs size)), .dat (.int (lastOf vs size)), .dat (nI (idxs (fun v => decide (restOf size vs.sum v = lastOf vs size)) vs)), os o8, os o9, .no, .no]) (by
        simp [sIf, dB, d2, dA, aCons, aNil, oVal, oAny, resAll, Op.res, pLen, pLt, ld, hc, sNext, -List.map_map])]
      have e1 : dA pTuple (aCons (oVal (dFrz (dLc (itA enum1 (aCons (oAny 3) aNil)) ([8, 11] : List Nat) (tgT 2 (tgCons (tgN 8) (tgCons (tgN 11) tgNil))) dYes (d2 pAddA (oVal (dVar 11)) (oVal (dIf (dB (d2 pIn (oVal (dVar 8)) (oVal (dVar 7)))) (dC (.int 1)) (dC (.int 0)))))))) aNil) [.dat (nI vs), .dat (.int size), .dat (.int vs.sum), .own false ((vs.map fun v => seatOf size vs.sum v + if lastOf vs size < restOf size vs.sum v then 1 else 0).map PyData.int), .dat (lI (vs.map (restOf size vs.sum))), .dat (.int (leftOf vs size - aboveN vs size)), .dat (.int (lastOf vs size)), .dat (nI (idxs (fun v => decide (restOf size vs.sum v = lastOf vs size)) vs)), os o8, os o9, .no, .no] = .ok (nI (vs.map fun v => seatOf size vs.sum v + if lastOf vs size ≤ restOf size vs.sum v then 1 else 0), [.dat (nI vs), .dat (.int size), .dat (.int vs.sum), .own false ((vs.map fun v => seatOf size vs.sum v + if lastOf vs size < restOf size vs.sum v then 1 else 0).map PyData.int), .dat (lI (vs.map (restOf size vs.sum))), .dat (.int (leftOf vs size - aboveN vs size)), .dat (.int (lastOf vs size)), .dat (nI (idxs (fun v => decide (restOf size vs.sum v = lastOf vs size)) vs)), os o8, os o9, .no, .no]) := by
        have := tup_map (it := itA enum1 (aCons (oAny 3) aNil)) (vs := [8, 11]) (tg := tgT 2 (tgCons (tgN 8) (tgCons (tgN 11) tgNil))) (elt := d2 pAddA (oVal (dVar 11)) (oVal (dIf (dB (d2 pIn (oVal (dVar 8)) (oVal (dVar 7)))) (dC (.int 1)) (dC (.int 0))))) (en := [.dat (nI vs), .dat (.int size), .dat (.int vs.sum), .own false ((vs.map fun v => seatOf size vs.sum v + if lastOf vs size < restOf size vs.sum v then 1 else 0).map PyData.int), .dat (lI (vs.map (restOf size vs.sum))), .dat (.int (leftOf vs size - aboveN vs size)), .dat (.int (lastOf vs size)), .dat (nI (idxs (fun v => decide (restOf size vs.sum v = lastOf vs size)) vs)), os o8, os o9, .no, .no]) (e' := [.dat (nI vs), .dat (.int size), .dat (.int vs.sum), .own false ((vs.map fun v => seatOf size vs.sum v + if lastOf vs size < restOf size vs.sum v then 1 else 0).map PyData.int), .dat (lI (vs.map (restOf size vs.sum))), .dat (.int (leftOf vs size - aboveN vs size)), .dat (.int (lastOf vs size)), .dat (nI (idxs (fun v => decide (restOf size vs.sum v = lastOf vs size)) vs)), os o8, os o9, .no, .no]) (ws := [3]) qE (fun q => .int (q.1 + if decide ((q.2 : Int) ∈ (idxs (fun v => decide (restOf size vs.sum v = lastOf vs size)) vs)) = true then 1 else 0)) (vs.map fun v => seatOf size vs.sum v + if lastOf vs size < restOf size vs.sum v then 1 else 0).zipIdx
          (by simp [itA, aCons, aNil, oAny, Op.res, resAll, enum1, seqOf, ownIx, enum_ints, -List.map_map]) (by cases o8 <;> simp [PD.freeOf, slFree, os]) (by simp; omega) (by simp)
          (fun q hq => ⟨[.dat (nI vs), .dat (.int size), .dat (.int vs.sum), .own false ((vs.map fun v => seatOf size vs.sum v + if lastOf vs size < restOf size vs.sum v then 1 else 0).map PyData.int), .dat (lI (vs.map (restOf size vs.sum))), .dat (.int (leftOf vs size - aboveN vs size)), .dat (.int (lastOf vs size)), .dat (nI (idxs (fun v => decide (restOf size vs.sum v = lastOf vs size)) vs)), .dat (.int q.2), os o9, .no, .dat (.int q.1)], [.dat (nI vs), .dat (.int size), .dat (.int vs.sum), .own false ((vs.map fun v => seatOf size vs.sum v + if lastOf vs size < restOf size vs.sum v then 1 else 0).map PyData.int), .dat (lI (vs.map (restOf size vs.sum))), .dat (.int (leftOf vs size - aboveN vs size)), .dat (.int (lastOf vs size)), .dat (nI (idxs (fun v => decide (restOf size vs.sum v = lastOf vs size)) vs)), .dat (.int q.2), os o9, .no, .dat (.int q.1)], by simp [tgT, tgCons, tgNil, tgN, ioAt, wipeE], by
            by_cases z : (q.2 : Int) ∈ (idxs (fun v => decide (restOf size vs.sum v = lastOf vs size)) vs)
            · simp [d2, dIf, dB, oVal, Op.res, pIn_tuple, z, dC, pAddA]
            · simp [d2, dIf, dB, oVal, Op.res, pIn_tuple, z, dC, pAddA], by simp [wipeE]⟩) (by simp [restE, wipeE])
        rw [this]
        have e2 := zipIdx_map_at (fun v => seatOf size vs.sum v + if lastOf vs size < restOf size vs.sum v then 1 else 0) (fun s j => PyData.int (s + if decide ((j : Int) ∈ (idxs (fun v => decide (restOf size vs.sum v = lastOf vs size)) vs)) = true then 1 else 0)) (fun v => PyData.int (seatOf size vs.sum v + if lastOf vs size ≤ restOf size vs.sum v then 1 else 0)) vs fun j v hv => by
          rw [mem_idxs (p := fun v => decide (restOf size vs.sum v = lastOf vs size)) hv]
          by_cases a : lastOf vs size < restOf size vs.sum v
          · have b : ¬ restOf size vs.sum v = lastOf vs size := by omega
            have c : lastOf vs size ≤ restOf size vs.sum v := by omega
            simp [a, b, c]
          · by_cases b : restOf size vs.sum v = lastOf vs size
            · simp [b]
            · have c : ¬ lastOf vs size ≤ restOf size vs.sum v := by omega
              simp [a, b, c]
        have e3 : (vs.map fun v => PyData.int (seatOf size vs.sum v + if lastOf vs size ≤ restOf size vs.sum v then 1 else 0)) = (vs.map fun v => seatOf size vs.sum v + if lastOf vs size ≤ restOf size vs.sum v then 1 else 0).map PyData.int := by
          rw [List.map_map]
          rfl
        rw [e2, e3]
      have e : dealT vs size = (vs.map (fun v => seatOf size vs.sum v + if lastOf vs size ≤ restOf size vs.sum v then 1 else 0), [], 0) := by unfold dealT; rw [if_neg l0, if_pos (by omega)]
      rw [e]
      unfold sRet dTup
      simp only [aCons, oVal, e1, R.bind_ok]
      simp [aNil, vals, few, dC, backArgs, -List.map_map]
end G
end
section
namespace G
open PySem PySem.Spec PD L2 Evl
structure Fair3 (vs : List Int) (size : Int) : Prop extends Fair vs size where
  vb : ∀ v ∈ vs, v ≤ 1000000000000000
  len : vs.length ≤ 200
  sb : size ≤ 1000000000000000000000000000000
theorem sum_le_len (c : Int) (vs : List Int) (h : ∀ v ∈ vs, v ≤ c) : vs.sum ≤ vs.length * c := by
  have := sum_le_of (f := id) (g := fun _ => c) h
  rwa [List.map_id, sum_const] at this
theorem Fair3.two {vs : List Int} {size : Int} (h : Fair3 vs size) : Fair2 vs size where
  toFair := h.toFair
  vb := fun v hv => by have := h.vb v hv; omega
  len := h.len
  wb := by
    have h1 := sum_le_len _ _ h.vb
    have h2 := h.len
    have h3 : (vs.length : Int) * 1000000000000000 ≤ 200 * 1000000000000000 := Int.mul_le_mul_of_nonneg_right (by omega) (by decide)
    omega
theorem plain_tup {d : PyData} {ds : List PyData} (h : d = .tuple ds) : plainK d = true := by subst h; rfl
theorem okV_fair {vs : List Int} {size : Int} (h : Fair3 vs size) : okV (nI vs) = true := by
  have hp : 0 < vs.length := len_pos h.pos
  have h1 : (1 ≤ (vs.map PyData.int).length) := by rw [List.length_map]; omega
  have h2 : ((vs.map PyData.int).length ≤ 200) := by rw [List.length_map]; exact h.len
  have h3 : ((vs.map PyData.int).all fun x => isW x 0 1000000000000000) = true := by
    rw [List.all_map]
    exact List.all_eq_true.mpr fun v hv => by simp [isW, h.nn v hv, h.vb v hv]
  have h4 : ((vs.map PyData.int).any gtZ) = true := by
    rw [List.any_map]
    refine Classical.byContradiction fun z => ?_
    have z := List.any_eq_false.mp (Bool.not_eq_true _ ▸ z)
    have : vs.sum ≤ vs.length * 0 := sum_le_len 0 vs fun v hv => by
      have := z v hv
      simp [gtZ] at this
      exact this
    have := h.pos
    omega
  unfold okV
  simp only [h1, h2, h3, h4, decide_true, Bool.and_self]
theorem f_deal_rests {vs : List Int} {size : Int} (h : Fair3 vs size) : F_deal_rests [.dat (nI vs), .dat (.int size)] = .ok (.dat (triD (dealT vs size)), [.dat (nI vs), .dat (.int size)]) := by
  have hk : ∀ ds, nI vs = .tuple ds → ∀ x ∈ ds, plainK x = true := fun ds e x hx => by
    cases e
    obtain ⟨i, _, rfl⟩ := List.mem_map.mp hx
    rfl
  have c1 : F_check_votes [.dat (nI vs)] = .ok (.dat .none, [.dat (nI vs)]) := by rw [f_check_votes rfl hk, if_pos (okV_fair h)]
  have c2 : F_check_size [.dat (.int size)] = .ok (.dat .none, [.dat (.int size)]) := by
    rw [f_check_size rfl, if_pos (by simp [isW, h.size0, h.sb])]
  have c3 := f_rests_deal h.two
  simp [F_deal_rests, runF, B_deal_rests, N_deal_rests, sSeq, sThen, sDrop, rvE, dCall, aCons, aNil, oVal, argsOf, argOf, ownsOf, callEn, c1, c2, c3, sRetV, backArgs, -List.map_map]
theorem f_refuse1 {d e : PyData} (hd : plainK d = true) (hk : ∀ ds, d = .tuple ds → ∀ x ∈ ds, plainK x = true) (h : okV d = false) : F_deal_rests [.dat d, .dat e] = .exc 0 := by
  have c1 : F_check_votes [.dat d] = .exc 0 := by rw [f_check_votes hd hk, h]; rfl
  simp [F_deal_rests, runF, B_deal_rests, N_deal_rests, sSeq, sThen, sDrop, rvE, dCall, aCons, aNil, oVal, argsOf, argOf, ownsOf, callEn, c1]
theorem f_refuse2 {d e : PyData} (hd : plainK d = true) (hk : ∀ ds, d = .tuple ds → ∀ x ∈ ds, plainK x = true) (h : okV d = true) (he : plainK e = true) (hs : isW e 0 1000000000000000000000000000000 = false) : F_deal_rests [.dat d, .dat e] = .exc 1 := by
  have c1 : F_check_votes [.dat d] = .ok (.dat .none, [.dat d]) := by rw [f_check_votes hd hk, if_pos h]
  have c2 : F_check_size [.dat e] = .exc 1 := by rw [f_check_size he, hs]; rfl
  simp [F_deal_rests, runF, B_deal_rests, N_deal_rests, sSeq, sThen, sDrop, rvE, dCall, aCons, aNil, oVal, argsOf, argOf, ownsOf, callEn, c1, c2]
/-! ### the text of a deal -/
theorem shown_int {i : Int} (h0 : 0 ≤ i) (h : i < 10 ^ 40) : (PyData.shown (.int i)).length ≤ 40 := by
  have e : PyData.shown (.int i) = Str.ofString (toString i) := by simp only [PyData.shown]
  rw [e]
  exact PyProof.Rows.toString_length_le h0 (by decide) h
theorem shownAll_len (c : Nat) : ∀ (ds : List PyData), (∀ d ∈ ds, d.shown.length ≤ c) → ((PyData.shownAll ds).map (·.length)).sum ≤ c * ds.length ∧ (PyData.shownAll ds).length = ds.length
  | [], _ => by simp [PyData.shownAll]
  | d :: ds, h => by
    obtain ⟨h1, h2⟩ := shownAll_len c ds fun x hx => h x (List.mem_cons_of_mem _ hx)
    have h3 := h d List.mem_cons_self
    simp only [PyData.shownAll, List.map_cons, List.sum_cons, List.length_cons, h2, Nat.mul_add, Nat.mul_one, and_true]
    omega
theorem shown_tup (c : Nat) (ds : List PyData) (h : ∀ d ∈ ds, d.shown.length ≤ c) : (PyData.shown (.tuple ds)).length ≤ c * ds.length + 2 * ds.length + 3 := by
  obtain ⟨h1, h2⟩ := shownAll_len c ds h
  have := tupleText_len_le (PyData.shownAll ds)
  rw [h2] at this
  simp only [PyData.shown]
  omega
end G
end
section
namespace G
open PySem PySem.Spec PD L2 Evl
def rangeI (n : Nat) : List Int := (List.range n).map fun (k : Nat) => (k : Int)
theorem numsFrom_0 (n : Nat) : numsFrom 0 n = (rangeI n).map PyData.int := by
  unfold numsFrom rangeI
  rw [List.map_map]
  refine List.map_congr_left fun k _ => ?_
  simp
theorem rangeI_len (n : Nat) : (rangeI n).length = n := by simp [rangeI]
theorem erase_map {α β : Type} (f : α → β) : ∀ (l : List α) (j : Nat), (l.map f).eraseIdx j = (l.eraseIdx j).map f
  | [], _ => rfl
  | _ :: _, 0 => rfl
  | x :: l, j + 1 => by simp [erase_map f l j]
theorem erase_perm : ∀ (l : List Int) (j : Nat) (h : j < l.length), (l[j] :: l.eraseIdx j).Perm l
  | [], _, h => by simp at h
  | x :: l, 0, _ => .refl _
  | x :: l, j + 1, h => by
    have := erase_perm l j (by simpa using h)
    simp only [List.getElem_cons_succ, List.eraseIdx_cons_succ]
    exact (List.Perm.swap x _ _).trans (this.cons x)
theorem ixN_at {n j : Nat} (h : j < n) : ixN n (j : Int) = some j := by
  unfold ixN
  rw [if_pos (by omega), if_pos (by omega)]
  simp
abbrev mixE (m : Int) (h : Hd) (rest found : List Int) (o : Option PyData) : En := [h.sl true, .dat (.int m), .own false (rest.map PyData.int), .own false (found.map PyData.int), os o, .no]
theorem mix_step {m : Int} {hd : Hd} {rest found : List Int} (q1 : 0 ≤ hd.at_) (x : PyData) (rl : 0 < rest.length) (rl2 : rest.length ≤ 200) (fl : found.length ≤ 200) : ∃ (j : Nat) (jl : j < rest.length) (h3 : Hd), 0 ≤ h3.at_ ∧
    sAppend 3 (dPop 2 (rvE (dCall 2 F__law_draw (aCons (oVar 0) (aCons (oVal (dA pLen (aCons (oAny 2) aNil))) aNil))))) (mixE m hd rest found (some x)) = .next (mixE m h3 (rest.eraseIdx j) (found ++ [rest[j]]) (some x)) := by
  have r0 : (0 : Int) < rest.length := by omega
  have rb : (rest.length : Int) < 1000000000000000000000000000000 := by omega
  obtain ⟨g1, g2⟩ := draw_in hd r0
  have ed := f_draw q1 r0 rb
  have a3 := draw_at q1 (rest.length : Int)
  obtain ⟨j, hj⟩ : ∃ j : Nat, (hd.draw rest.length).1 = j := ⟨_, (Int.toNat_of_nonneg g1).symm⟩
  have jl : j < rest.length := by omega
  have ij := ixN_at jl
  have fb : found.length < 100000 := by omega
  have er := erase_map PyData.int rest j
  refine ⟨j, jl, (hd.draw rest.length).2, a3, ?_⟩
  rw [← hj] at ij
  have jb : -(4611686018427387904 : Int) ≤ (hd.draw rest.length).1 ∧ (hd.draw rest.length).1 < 4611686018427387904 := by omega
  clear hj g1 g2 a3
  generalize (hd.draw rest.length).2 = h3 at *
  generalize (hd.draw rest.length).1 = k at *
  simp [sAppend, sApp, ownAt, dPop, dPopAt, rvE, dCall, aCons, aNil, oVar, oVal, oAny, dA, resAll, Op.res, pLen, argsOf, argOf, ownsOf, callEn, ed, jb, ij, jl, er, fb, os]
theorem f_mixed {h : Hd} (h0 : 0 ≤ h.at_) {n : Nat} {m : Int} (hm : m = (n : Int)) (hn : n ≤ 200) : ∃ (line : List Int) (h' : Hd), 0 ≤ h'.at_ ∧ F__law_mixed [h.sl true, .dat (.int m)] = .ok (.dat (lI line), [Hd.sl h' true, .dat (.int m)]) ∧ line.Perm (rangeI n) := by
  have nb : -(4611686018427387904 : Int) ≤ m ∧ m < 4611686018427387904 := by omega
  have mn : m.toNat = n := by omega
  have it0 : ∀ (e : En), e[1]? = some (.dat (.int m)) → itA rng1 (aCons (oVal (dVar 1)) aNil) e = .ok ((numsFrom 0 n, []), e) := fun e he => by
    simp [itA, aCons, aNil, oVal, dVar_dat he, Op.res, resAll, rng1, in62, nb, mn, ownIx]
  have s1 : sPar 2 3 (rvW (dLc (itA rng1 (aCons (oVal (dVar 1)) aNil)) ([5] : List Nat) (tgN 5) dYes (dVar 5))) (rvW (dLst aNil)) [h.sl true, .dat (.int m), .no, .no, .no, .no] =
      .next (mixE m h (rangeI n) [] none) := by
    have lc := lc_map (ws := []) (e := [h.sl true, .dat (.int m), .no, .no, .no, .no]) (vs := [5]) (tg := tgN 5) (elt := dVar 5) PyData.int PyData.int (rangeI n)
      fun x hx => ⟨[h.sl true, .dat (.int m), .no, .no, .no, .dat (.int x)], [h.sl true, .dat (.int m), .no, .no, .no, .dat (.int x)], by simp [tgN, ioAt], by simp, by simp [wipeE]⟩
    have e := dLc_ok (it := itA rng1 (aCons (oVal (dVar 1)) aNil)) (vs := [5]) (tg := tgN 5) (tst := dYes) (elt := dVar 5) (en := [h.sl true, .dat (.int m), .no, .no, .no, .no]) (it0 _ rfl) (by simp [PD.freeOf, slFree]) (by rw [numsFrom_len]; omega) (by simp) (by rw [numsFrom_0]; simpa [wipeE] using lc)
    simp [sPar, rvW, e, restE, dLst, aNil, vals, few, putE, ioAt, slOf, os]
  obtain ⟨s, e2, a2, pm, fl⟩ := for_state (S := Hd × List Int × List Int × Option PyData) (fun s => mixE m s.1 s.2.1 s.2.2.1 s.2.2.2)
    (g := tgN 4) (B := sAppend 3 (dPop 2 (rvE (dCall 2 F__law_draw (aCons (oVar 0) (aCons (oVal (dA pLen (aCons (oAny 2) aNil))) aNil))))))
    (fun i s => 0 ≤ s.1.at_ ∧ (s.2.2.1 ++ s.2.1).Perm (rangeI n) ∧ s.2.2.1.length = i) (numsFrom 0 n)
    (fun i x hx s hs => by
      have hi : i < n := by
        have := (List.getElem?_eq_some_iff.mp hx).1
        rwa [numsFrom_len] at this
      have hl := hs.2.1.length_eq
      rw [List.length_append, rangeI_len, hs.2.2] at hl
      obtain ⟨j, jl, h3, b1, b2⟩ := mix_step (m := m) (hd := s.1) (rest := s.2.1) (found := s.2.2.1) hs.1 x (by omega) (by omega) (by rw [hs.2.2]; omega)
      refine ⟨mixE m s.1 s.2.1 s.2.2.1 (some x), (h3, s.2.1.eraseIdx j, s.2.2.1 ++ [s.2.1[j]], some x), ?_, .inl b2, b1, ?_, ?_⟩
      · cases s.2.2.2 <;> simp [tgN, ioAt, os]
      · refine List.Perm.trans ?_ hs.2.1
        rw [List.append_assoc]
        exact List.Perm.append_left _ (erase_perm _ j jl)
      · rw [List.length_append, hs.2.2]; rfl) (h, rangeI n, [], none) ⟨h0, by simp, rfl⟩
  rw [numsFrom_len] at fl
  have r0 : s.2.1 = [] := by
    have := pm.length_eq
    rw [List.length_append, rangeI_len, fl] at this
    exact List.eq_nil_of_length_eq_zero (by omega)
  rw [r0, List.append_nil] at pm
  refine ⟨s.2.2.1, s.1, a2, ?_, pm⟩
  simp only [F__law_mixed, runF, B__law_mixed, N__law_mixed, List.length_cons, List.length_nil, List.replicate, List.cons_append, List.nil_append]
  rw [seq_next s1, seq_next (for_next (it0 (mixE m h (rangeI n) [] none) rfl) e2)]
  simp [sRet, dVarF, backArgs]
end G
end
section
/-! what is asked of the plain deal -/
namespace G
open PySem PySem.Spec PD L2 Evl
theorem sum_ite (p : Int → Bool) (f : Int → Int) : ∀ vs : List Int, (vs.map fun v => f v + if p v = true then 1 else 0).sum = (vs.map f).sum + vs.countP p
  | [] => by simp
  | v :: vs => by
    have := sum_ite p f vs
    simp only [List.map_cons, List.sum_cons, List.countP_cons, this]
    by_cases h : p v = true <;> simp [h] <;> omega
/-- what is told of the place of the last one given -/
theorem last_facts {vs : List Int} {size : Int} (hw : 0 < vs.sum) (l0 : leftOf vs size ≠ 0) : (aboveN vs size : Int) < leftOf vs size ∧ 0 < lastOf vs size := by
  have h1 := left_nn (size := size) hw
  have h2 := left_lt (size := size) hw
  obtain ⟨l, e⟩ : ∃ l : Nat, leftOf vs size = l := ⟨(leftOf vs size).toNat, by omega⟩
  have hl : l ≠ 0 := by omega
  have hlen : (srtI (vs.map (restOf size vs.sum))).length = vs.length := by rw [srtI_len, List.length_map]
  have hlt : vs.length - l < (srtI (vs.map (restOf size vs.sum))).length := by omega
  have e3 : lastOf vs size = (srtI (vs.map (restOf size vs.sum)))[vs.length - l] := by
    unfold lastOf
    have : (leftOf vs size).toNat = l := by omega
    rw [this, List.getElem?_eq_getElem hlt]
    rfl
  have hs := srtI_sorted (vs.map (restOf size vs.sum))
  have e2 : aboveN vs size = (srtI (vs.map (restOf size vs.sum))).countP (fun r => decide (lastOf vs size < r)) := by
    unfold aboveN
    rw [(srtI_perm _).countP_eq, List.countP_map]
    rfl
  have c1 : aboveN vs size < l := by
    rw [e2]
    have sp := List.take_append_drop (vs.length - l + 1) (srtI (vs.map (restOf size vs.sum)))
    rw [← sp, List.countP_append]
    have z : ((srtI (vs.map (restOf size vs.sum))).take (vs.length - l + 1)).countP (fun r => decide (lastOf vs size < r)) = 0 := by
      rw [List.countP_eq_zero]
      intro r hr hc
      have hc : lastOf vs size < r := of_decide_eq_true hc
      obtain ⟨i, hi, rfl⟩ := List.mem_iff_getElem.mp hr
      rw [List.getElem_take] at hc
      rw [List.length_take] at hi
      have : (srtI (vs.map (restOf size vs.sum)))[i] ≤ (srtI (vs.map (restOf size vs.sum)))[vs.length - l] := by
        by_cases q : i = vs.length - l
        · subst q; exact Int.le_refl _
        · exact List.pairwise_iff_getElem.mp hs i (vs.length - l) (by omega) hlt (by omega)
      rw [e3] at hc
      omega
    have y : ((srtI (vs.map (restOf size vs.sum))).drop (vs.length - l + 1)).countP (fun r => decide (lastOf vs size < r)) ≤ l - 1 := by
      refine Nat.le_trans List.countP_le_length ?_
      rw [List.length_drop, hlen]
      omega
    omega
  refine ⟨by omega, ?_⟩
  have nn : 0 ≤ lastOf vs size := by
    rw [e3]
    have hm := List.getElem_mem hlt
    have hm := (srtI_perm _).mem_iff.mp hm
    obtain ⟨v, _, hv⟩ := List.mem_map.mp hm
    rw [← hv]
    exact (rest_in hw v).1
  refine Int.lt_iff_le_and_ne.mpr ⟨nn, fun z => ?_⟩
  have k1 := left_mul vs size
  have k2 : (vs.map (restOf size vs.sum)).sum ≤ (vs.map fun v => (0 : Int) + if decide (lastOf vs size < restOf size vs.sum v) = true then 1 else 0).sum * vs.sum := by
    have : (vs.map fun v => ((0 : Int) + if decide (lastOf vs size < restOf size vs.sum v) = true then 1 else 0) * vs.sum).sum = (vs.map fun v => (0 : Int) + if decide (lastOf vs size < restOf size vs.sum v) = true then 1 else 0).sum * vs.sum := by
      have := sum_map_mul vs.sum (vs.map fun v => (0 : Int) + if decide (lastOf vs size < restOf size vs.sum v) = true then 1 else 0)
      rwa [List.map_map] at this
    rw [← this]
    refine sum_le_of fun v _ => ?_
    have hr := rest_in (size := size) hw v
    by_cases q : lastOf vs size < restOf size vs.sum v
    · simp only [q, decide_true, if_true]
      omega
    · simp only [q, decide_false, Bool.false_eq_true, if_false]
      omega
  rw [sum_ite (fun v => decide (lastOf vs size < restOf size vs.sum v)) (fun _ => 0), sum_const] at k2
  have k3 : ((vs.length : Int) * 0 + (vs.countP fun v => decide (lastOf vs size < restOf size vs.sum v) : Nat)) * vs.sum ≤ (leftOf vs size - 1) * vs.sum := by
    refine Int.mul_le_mul_of_nonneg_right ?_ (by omega)
    have : (vs.countP fun v => decide (lastOf vs size < restOf size vs.sum v)) < l := c1
    omega
  rw [Int.sub_mul, Int.one_mul] at k3
  omega
/-- the seats and those tied come to the size -/
theorem deal_sum {vs : List Int} {size : Int} : (dealT vs size).1.sum + (dealT vs size).2.2 = size := by
  have hl : (vs.map (seatOf size vs.sum)).sum + leftOf vs size = size := by unfold leftOf; omega
  unfold dealT
  split
  · show (vs.map (seatOf size vs.sum)).sum + 0 = size
    omega
  · split
    · rename_i l0 hc
      have e1 := count_split vs (fun v => decide (lastOf vs size < restOf size vs.sum v)) (fun v => decide (restOf size vs.sum v = lastOf vs size)) (fun v => decide (lastOf vs size ≤ restOf size vs.sum v))
        (fun v => by
          by_cases a : lastOf vs size < restOf size vs.sum v
          · have : lastOf vs size ≤ restOf size vs.sum v := by omega
            simp [a, this]
          · by_cases b : restOf size vs.sum v = lastOf vs size
            · simp [b]
            · have : ¬ lastOf vs size ≤ restOf size vs.sum v := by omega
              simp [a, b, this]) (fun v ⟨a, b⟩ => by simp at a b; omega)
      have e2 := sum_ite (fun v => decide (lastOf vs size ≤ restOf size vs.sum v)) (seatOf size vs.sum) vs
      simp only [decide_eq_true_eq] at e2
      show (vs.map fun v => seatOf size vs.sum v + if lastOf vs size ≤ restOf size vs.sum v then 1 else 0).sum + 0 = size
      unfold aboveN tiedN at hc
      omega
    · have e2 := sum_ite (fun v => decide (lastOf vs size < restOf size vs.sum v)) (seatOf size vs.sum) vs
      simp only [decide_eq_true_eq] at e2
      show (vs.map fun v => seatOf size vs.sum v + if lastOf vs size < restOf size vs.sum v then 1 else 0).sum + (leftOf vs size - aboveN vs size) = size
      unfold aboveN
      omega
theorem deal_tied {vs : List Int} {size : Int} (hw : 0 < vs.sum) (h : 0 < (dealT vs size).2.2) : (dealT vs size).2.2 < (dealT vs size).2.1.length := by
  have lle := left_le (size := size) hw
  unfold dealT at h ⊢
  split
  · rename_i l0; rw [if_pos l0] at h; simp at h
  · rename_i l0
    rw [if_neg l0] at h
    split
    · rename_i hc; rw [if_pos hc] at h; simp at h
    · rename_i hc
      show leftOf vs size - (aboveN vs size : Int) < ((idxs (fun v => decide (restOf size vs.sum v = lastOf vs size)) vs).length : Nat)
      rw [idxs_len]
      unfold tiedN at lle hc
      omega
end G
end
section
/-! the plain deal by each party alone; turned, scaled, one round more -/
namespace G
open PySem PySem.Spec PD L2 Evl
def moreOf (vs : List Int) (size v : Int) : Int :=
  if leftOf vs size = 0 then 0 else if (aboveN vs size : Int) + tiedN vs size = leftOf vs size then (if lastOf vs size ≤ restOf size vs.sum v then 1 else 0) else if lastOf vs size < restOf size vs.sum v then 1 else 0
def tiedB (vs : List Int) (size v : Int) : Bool := !decide (leftOf vs size = 0) && !decide ((aboveN vs size : Int) + tiedN vs size = leftOf vs size) && decide (restOf size vs.sum v = lastOf vs size)
def leftL (vs : List Int) (size : Int) : Int := if leftOf vs size = 0 then 0 else if (aboveN vs size : Int) + tiedN vs size = leftOf vs size then 0 else leftOf vs size - aboveN vs size
theorem idxs_none (vs : List Int) : idxs (fun _ => false) vs = [] := by
  unfold idxs
  rw [List.filter_eq_nil_iff.mpr fun q _ => by simp]
  rfl
theorem deal_form (vs : List Int) (size : Int) : dealT vs size = (vs.map fun v => seatOf size vs.sum v + moreOf vs size v, idxs (tiedB vs size) vs, leftL vs size) := by
  unfold dealT moreOf leftL
  by_cases l0 : leftOf vs size = 0
  · have e : tiedB vs size = fun _ => false := by funext v; simp [tiedB, l0]
    rw [if_pos l0, e, idxs_none]
    simp only [l0, if_true, Int.add_zero]
  · by_cases hc : (aboveN vs size : Int) + tiedN vs size = leftOf vs size
    · have e : tiedB vs size = fun _ => false := by funext v; simp [tiedB, hc]
      rw [if_neg l0, if_pos hc, e, idxs_none]
      simp only [l0, hc, if_true, if_false]
    · have e : tiedB vs size = fun v => decide (restOf size vs.sum v = lastOf vs size) := by funext v; simp [tiedB, hc, l0]
      rw [if_neg l0, if_neg hc, e]
      simp only [l0, hc, if_false]
theorem ceil_is {a w : Int} (hw : 0 < w) : 0 - (0 - a) / w = a / w + if 0 < a % w then 1 else 0 := by
  have h1 := Int.mul_ediv_add_emod a w
  have h2 := Int.emod_nonneg a (show w ≠ 0 by omega)
  have h3 := Int.emod_lt_of_pos a hw
  by_cases z : 0 < a % w
  · rw [if_pos z]
    have e : 0 - a = (w - a % w) + w * (-(a / w) - 1) := by rw [Int.mul_sub, Int.mul_neg, Int.mul_one]; omega
    rw [e, Int.add_mul_ediv_left _ _ (show w ≠ 0 by omega), Int.ediv_eq_zero_of_lt (by omega) (by omega)]
    omega
  · rw [if_neg z]
    have r0 : a % w = 0 := by omega
    have e : 0 - a = 0 + w * (-(a / w)) := by rw [Int.mul_neg]; omega
    rw [e, Int.add_mul_ediv_left _ _ (show w ≠ 0 by omega)]
    simp
theorem more_in {vs : List Int} {size : Int} (hw : 0 < vs.sum) (v : Int) : 0 ≤ moreOf vs size v ∧ moreOf vs size v ≤ if 0 < restOf size vs.sum v then 1 else 0 := by
  unfold moreOf
  by_cases l0 : leftOf vs size = 0
  · simp only [l0, if_true]
    split <;> omega
  · have hp := (last_facts hw l0).2
    simp only [l0, if_false]
    split <;> split <;> split <;> omega
theorem tied_in {vs : List Int} {size : Int} (hw : 0 < vs.sum) {v : Int} (h : tiedB vs size v = true) : moreOf vs size v = 0 ∧ 0 < restOf size vs.sum v := by
  simp only [tiedB, Bool.and_eq_true, Bool.not_eq_true', decide_eq_false_iff_not, decide_eq_true_eq] at h
  have hp := (last_facts hw h.1.1).2
  refine ⟨?_, by omega⟩
  unfold moreOf
  rw [if_neg h.1.1, if_neg h.1.2, if_neg (by omega)]
/-! ### turned about -/
theorem perm_sum {a b : List Int} (p : a.Perm b) : a.sum = b.sum := by
  induction p with
  | nil => rfl
  | cons x _ ih => simp [ih]
  | swap x y l => simp only [List.sum_cons]; omega
  | trans _ _ i1 i2 => exact i1.trans i2
theorem srtI_perm_eq {a b : List Int} (p : a.Perm b) : srtI a = srtI b := srtI_uniq ((srtI_perm a).trans p) (srtI_sorted a)
section
variable {vs us : List Int} {size : Int} (p : us.Perm vs)
include p
theorem left_perm : leftOf us size = leftOf vs size := by
  unfold leftOf
  rw [perm_sum p, perm_sum (p.map _)]
theorem last_perm : lastOf us size = lastOf vs size := by
  unfold lastOf
  rw [left_perm p, perm_sum p, p.length_eq, srtI_perm_eq (p.map _)]
theorem above_perm : aboveN us size = aboveN vs size := by
  unfold aboveN
  rw [last_perm p, perm_sum p, p.countP_eq]
theorem tiedN_perm : tiedN us size = tiedN vs size := by
  unfold tiedN
  rw [last_perm p, perm_sum p, p.countP_eq]
theorem more_perm : moreOf us size = moreOf vs size := by
  funext v
  unfold moreOf
  rw [left_perm p, last_perm p, above_perm p, tiedN_perm p, perm_sum p]
theorem tiedB_perm : tiedB us size = tiedB vs size := by
  funext v
  unfold tiedB
  rw [left_perm p, last_perm p, above_perm p, tiedN_perm p, perm_sum p]
end
/-! ### one round more -/
section
variable {vs : List Int} {size : Int} (hw : 0 < vs.sum)
include hw
theorem seat_later (v : Int) : seatOf (size + vs.sum) vs.sum v = seatOf size vs.sum v + v := by
  unfold seatOf
  rw [Int.mul_add, Int.mul_comm v vs.sum, Int.add_mul_ediv_left _ _ (show vs.sum ≠ 0 by omega)]
theorem rest_later (v : Int) : restOf (size + vs.sum) vs.sum v = restOf size vs.sum v := by
  unfold restOf
  rw [Int.mul_add, Int.mul_comm v vs.sum, Int.add_mul_emod_self_left]
theorem left_later : leftOf vs (size + vs.sum) = leftOf vs size := by
  unfold leftOf
  have e : vs.map (seatOf (size + vs.sum) vs.sum) = vs.map fun v => seatOf size vs.sum v + id v := List.map_congr_left fun v _ => seat_later hw v
  rw [e, sum_map_add (seatOf size vs.sum) id, List.map_id]
  omega
theorem deal_later : dealT vs (size + vs.sum) = (vs.map fun v => seatOf size vs.sum v + moreOf vs size v + v, idxs (tiedB vs size) vs, leftL vs size) := by
  have er : restOf (size + vs.sum) vs.sum = restOf size vs.sum := funext (rest_later hw)
  have e1 : lastOf vs (size + vs.sum) = lastOf vs size := by unfold lastOf; rw [left_later hw, er]
  have e2 : aboveN vs (size + vs.sum) = aboveN vs size := by unfold aboveN; rw [e1, er]
  have e3 : tiedN vs (size + vs.sum) = tiedN vs size := by unfold tiedN; rw [e1, er]
  have e4 : moreOf vs (size + vs.sum) = moreOf vs size := by funext v; unfold moreOf; rw [left_later hw, e1, e2, e3, er]
  have e5 : tiedB vs (size + vs.sum) = tiedB vs size := by funext v; unfold tiedB; rw [left_later hw, e1, e2, e3, er]
  have e6 : leftL vs (size + vs.sum) = leftL vs size := by unfold leftL; rw [left_later hw, e2, e3]
  rw [deal_form, e4, e5, e6]
  congr 1
  refine List.map_congr_left fun v _ => ?_
  rw [seat_later hw]
  omega
end
/-! ### votes times a number -/
section
variable {vs : List Int} {size f : Int} (hf : 0 < f) (hw : 0 < vs.sum)
include hf hw
omit hw in
theorem sum_scale : (vs.map fun v => f * v).sum = f * vs.sum := by
  have := sum_map_mul f vs
  rw [Int.mul_comm f]
  rw [← this]
  congr 1
  exact List.map_congr_left fun v _ => Int.mul_comm _ _
theorem seat_scale (v : Int) : seatOf size (f * vs.sum) (f * v) = seatOf size vs.sum v := by
  unfold seatOf
  rw [Int.mul_assoc, Int.mul_ediv_mul_of_pos _ _ hf]
theorem rest_scale (v : Int) : restOf size (f * vs.sum) (f * v) = f * restOf size vs.sum v := by
  unfold restOf
  rw [Int.mul_assoc, Int.mul_emod_mul_of_pos _ _ hf]
theorem left_scale : leftOf (vs.map fun v => f * v) size = leftOf vs size := by
  unfold leftOf
  rw [sum_scale hf, List.map_map]
  congr 2
  exact List.map_congr_left fun v _ => seat_scale hf hw v
omit hw in
theorem srt_scale (l : List Int) : srtI (l.map fun v => f * v) = (srtI l).map fun v => f * v := by
  refine (srtI_uniq ((srtI_perm l).map _) ?_).symm
  exact List.pairwise_map.mpr ((srtI_sorted l).imp fun {a b} h => Int.mul_le_mul_of_nonneg_left h (by omega))
theorem rests_scale : (vs.map fun v => f * v).map (restOf size (f * vs.sum)) = (vs.map (restOf size vs.sum)).map fun v => f * v := by
  rw [List.map_map, List.map_map]
  exact List.map_congr_left fun v _ => rest_scale hf hw v
theorem last_scale : lastOf (vs.map fun v => f * v) size = f * lastOf vs size := by
  unfold lastOf
  rw [left_scale hf hw, sum_scale hf, rests_scale hf hw, srt_scale hf, List.length_map, List.getElem?_map]
  cases (srtI (vs.map (restOf size vs.sum)))[vs.length - (leftOf vs size).toNat]? <;> simp
theorem lt_scale (v : Int) : (f * lastOf vs size < f * restOf size vs.sum v) ↔ lastOf vs size < restOf size vs.sum v := Int.mul_lt_mul_left hf
theorem deal_scale : dealT (vs.map fun v => f * v) size = dealT vs size := by
  have e0 := left_scale (size := size) hf hw
  have e1 := last_scale (size := size) hf hw
  have es := sum_scale (vs := vs) hf
  have e2 : aboveN (vs.map fun v => f * v) size = aboveN vs size := by
    unfold aboveN
    rw [e1, es, List.countP_map]
    refine List.countP_congr fun v _ => ?_
    simp only [Function.comp, rest_scale hf hw, decide_eq_true_eq]
    exact lt_scale hf hw v
  have e3 : tiedN (vs.map fun v => f * v) size = tiedN vs size := by
    unfold tiedN
    rw [e1, es, List.countP_map]
    refine List.countP_congr fun v _ => ?_
    simp only [Function.comp, rest_scale hf hw, decide_eq_true_eq]
    exact ⟨fun h => Int.eq_of_mul_eq_mul_left (by omega) h, fun h => by rw [h]⟩
  rw [deal_form, deal_form]
  have e4 : ∀ v, moreOf (vs.map fun v => f * v) size (f * v) = moreOf vs size v := fun v => by
    unfold moreOf
    rw [e0, e1, e2, e3, es, rest_scale hf hw]
    have a1 : (f * lastOf vs size ≤ f * restOf size vs.sum v) ↔ lastOf vs size ≤ restOf size vs.sum v := Int.mul_le_mul_left hf
    have a2 := lt_scale (size := size) hf hw v
    simp only [a1, a2]
  have e5 : ∀ v, tiedB (vs.map fun v => f * v) size (f * v) = tiedB vs size v := fun v => by
    unfold tiedB
    rw [e0, e1, e2, e3, es, rest_scale hf hw]
    congr 1
    by_cases z : restOf size vs.sum v = lastOf vs size
    · simp [z]
    · have : ¬ f * restOf size vs.sum v = f * lastOf vs size := fun h => z (Int.eq_of_mul_eq_mul_left (by omega) h)
      simp [z, this]
  have e6 : leftL (vs.map fun v => f * v) size = leftL vs size := by unfold leftL; rw [e0, e2, e3]
  rw [e6]
  congr 1
  · rw [List.map_map]
    refine List.map_congr_left fun v _ => ?_
    simp only [Function.comp, e4, es, seat_scale hf hw]
  · congr 1
    unfold idxs
    rw [List.zipIdx_map, List.filter_map, List.map_map]
    have : ((fun q : Int × Nat => tiedB (vs.map fun v => f * v) size q.1) ∘ Prod.map (fun v => f * v) id) = fun q => tiedB vs size q.1 := by
      funext q
      exact e5 q.1
    rw [this]
    rfl
end
end G
end
section
/-! what is refused -/
namespace G
open PySem PySem.Spec PD L2 Evl
theorem two_votes {d e : PyData} (hd : plainK d = true) (hk : ∀ ds, d = .tuple ds → ∀ x ∈ ds, plainK x = true) (h : okV d = false) : F__law_two_said [.dat d, .dat e] = .ok (.dat (.str "votes"), [.dat d, .dat e]) := by
  have c := f_refuse1 (e := e) hd hk h
  simp [F__law_two_said, runF, B__law_two_said, N__law_two_said, sRet, dSaid, dropO, rvE, dCall, aCons, aNil, oVal, argsOf, argOf, ownsOf, callEn, c, exF__law_said, lift, backArgs]
theorem two_size {d e : PyData} (hd : plainK d = true) (hk : ∀ ds, d = .tuple ds → ∀ x ∈ ds, plainK x = true) (h : okV d = true) (he : plainK e = true) (hs : isW e 0 1000000000000000000000000000000 = false) : F__law_two_said [.dat d, .dat e] = .ok (.dat (.str "size"), [.dat d, .dat e]) := by
  have c := f_refuse2 (e := e) hd hk h he hs
  simp [F__law_two_said, runF, B__law_two_said, N__law_two_said, sRet, dSaid, dropO, rvE, dCall, aCons, aNil, oVal, argsOf, argOf, ownsOf, callEn, c, exF__law_said, lift, backArgs]
abbrev badL : List PyData := [.none, .int 0, .tuple [], .tuple [.int 0, .int 0], .list [.int 1, .int 2], .tuple [.int (-1), .int 2], .tuple [.bool true, .int 1], .tuple [.int 1, .none], .tuple [.int 1000000000000001], .tuple (List.replicate 201 [PyData.int 1]).flatten, .str "x", .dict [], .tuple [.str "1"]]
abbrev noneL : List PyData := [.int (-1), .int 1000000000000000000000000000001, .none, .bool true, .str "1", .tuple [.int 1], .list [.int 1], .dict []]
theorem bad_no : ∀ d ∈ badL, plainK d = true ∧ (∀ ds, d = .tuple ds → ∀ x ∈ ds, plainK x = true) ∧ okV d = false := by
  intro d hd
  have rep : ∀ x ∈ (List.replicate 201 [PyData.int 1]).flatten, x = PyData.int 1 := by
    intro x hx
    obtain ⟨l, hl, hx⟩ := List.mem_flatten.mp hx
    rw [(List.mem_replicate.mp hl).2] at hx
    exact List.mem_singleton.mp hx
  have rl : (List.replicate 201 [PyData.int 1]).flatten.length = 201 := by simp
  generalize hr : (List.replicate 201 [PyData.int 1]).flatten = r at *
  simp only [badL, hr, List.mem_cons, List.not_mem_nil, or_false] at hd
  rcases hd with rfl | rfl | rfl | rfl | rfl | rfl | rfl | rfl | rfl | rfl | rfl | rfl | rfl
  case inr.inr.inr.inr.inr.inr.inr.inr.inr.inl =>
    refine ⟨rfl, fun ds e x hx => ?_, by simp [okV, rl]⟩
    cases e
    rw [rep x hx]
    rfl
  all_goals
    refine ⟨rfl, fun ds e x hx => ?_, by simp [okV, isW, gtZ]⟩
    first
    | cases e; done
    | (cases e; simp at hx; done)
    | (cases e; simp at hx; subst hx; rfl)
    | (cases e; simp at hx; rcases hx with rfl | rfl <;> rfl)
theorem none_no : ∀ d ∈ noneL, plainK d = true ∧ isW d 0 1000000000000000000000000000000 = false := by
  intro d hd
  simp only [noneL, List.mem_cons, List.not_mem_nil, or_false] at hd
  rcases hd with rfl | rfl | rfl | rfl | rfl | rfl | rfl | rfl <;> exact ⟨rfl, by simp [isW]⟩
theorem nI_kinds (vs : List Int) : ∀ ds, nI vs = .tuple ds → ∀ x ∈ ds, plainK x = true := fun ds e x hx => by
  cases e
  obtain ⟨i, _, rfl⟩ := List.mem_map.mp hx
  rfl
theorem eq_vs : pEq (.list [.str "votes", .str "size"]) (.list [.str "votes", .str "size"]) = .ok (.bool true) := by
  simp [pEq, plainD, nd, nd.ndAll, SeqAt.shaped, PyData.canLay0, PyData.canLayAll0, PyData.depth, PyData.depthAll, PyData.eqv, PyData.eqvAll]
  exact ⟨by decide +kernel, by decide +kernel⟩
theorem f_refused {h : Hd} (h0 : 0 ≤ h.at_) {vs : List Int} (hv : okV (nI vs) = true) : ∃ h', 0 ≤ Hd.at_ h' ∧ F__law_refused_right [h.sl true, .dat (nI vs)] = .ok (.dat (.bool true), [h'.sl true, .dat (nI vs)]) := by
  obtain ⟨d, h1, dm, a1, e1⟩ := f_any h0 (ds := badL) (by simp) (by simp)
  obtain ⟨n, h2, nm, a2, e2⟩ := f_any a1 (ds := noneL) (by simp) (by simp)
  obtain ⟨q1, q2, q3⟩ := bad_no d dm
  obtain ⟨n1, n2⟩ := none_no n nm
  have c1 := two_votes (e := n) q1 q2 q3
  have c2 := two_size (e := n) rfl (nI_kinds vs) hv n1 n2
  refine ⟨h2, a2, ?_⟩
  simp only [F__law_refused_right, runF, B__law_refused_right, N__law_refused_right, List.length_cons, List.length_nil, List.replicate, List.cons_append, List.nil_append]
  have s1 : sAsg (dFrz (dLst (aCons (oVal (dC .none)) (aCons (oVal (dC (.int 0))) (aCons (oVal (dTup aNil)) (aCons (oVal (dTup (aCons (oVal (dC (.int 0))) (aCons (oVal (dC (.int 0))) aNil)))) (aCons (oVal (dFrz (dLst (aCons (oVal (dC (.int 1))) (aCons (oVal (dC (.int 2))) aNil))))) (aCons (oVal (dTup (aCons (oVal (d1 pNeg (oVal (dC (.int 1))))) (aCons (oVal (dC (.int 2))) aNil)))) (aCons (oVal (dTup (aCons (oVal (dC (.bool true))) (aCons (oVal (dC (.int 1))) aNil)))) (aCons (oVal (dTup (aCons (oVal (dC (.int 1))) (aCons (oVal (dC .none)) aNil)))) (aCons (oVal (dTup (aCons (oVal (d2 pAddA (oVal (d2 pPow (oVal (dC (.int 10))) (oVal (dC (.int 15))))) (oVal (dC (.int 1))))) aNil))) (aCons (oVal (d2 pMulA (oVal (dTup (aCons (oVal (dC (.int 1))) aNil))) (oVal (dC (.int 201))))) (aCons (oVal (dC (.str "x"))) (aCons (oVal (dC (.dict []))) (aCons (oVal (dTup (aCons (oVal (dC (.str "1"))) aNil))) aNil))))))))))))))) (tgN 2) [h.sl true, .dat (nI vs), .no, .no] = .next [h.sl true, .dat (nI vs), .dat (.list badL), .no] := by
    simp [sAsg, dFrz, dLst, dTup, aCons, aNil, oVal, dC, d1, d2, resAll, Op.res, vals, few, pNeg, pPow, pAddA, pMulA, few2, tgN, ioAt, -List.flatten_replicate_singleton, badL]
  rw [seq_next s1]
  have s2 : sAsg (rvE (dCall 2 F__law_any (aCons (oVar 0) (aCons (oVal (dVar 2)) aNil)))) (tgN 2) [h.sl true, .dat (nI vs), .dat (.list badL), .no] = .next [h1.sl true, .dat (nI vs), .dat d, .no] := by
    generalize badL = bl at *
    simp [sAsg, rvE, dCall, aCons, aNil, oVar, oVal, argsOf, argOf, ownsOf, callEn, e1, tgN, ioAt]
  rw [seq_next s2]
  have s3 : sAsg (rvE (dCall 2 F__law_any (aCons (oVar 0) (aCons (oVal (dFrz (dLst (aCons (oVal (d1 pNeg (oVal (dC (.int 1))))) (aCons (oVal (d2 pAddA (oVal (d2 pPow (oVal (dC (.int 10))) (oVal (dC (.int 30))))) (oVal (dC (.int 1))))) (aCons (oVal (dC .none)) (aCons (oVal (dC (.bool true))) (aCons (oVal (dC (.str "1"))) (aCons (oVal (dTup (aCons (oVal (dC (.int 1))) aNil))) (aCons (oVal (dFrz (dLst (aCons (oVal (dC (.int 1))) aNil)))) (aCons (oVal (dC (.dict []))) aNil))))))))))) aNil)))) (tgN 3) [h1.sl true, .dat (nI vs), .dat d, .no] = .next [h2.sl true, .dat (nI vs), .dat d, .dat n] := by
    simp [sAsg, rvE, dCall, dFrz, dLst, dTup, aCons, aNil, oVar, oVal, dC, d1, d2, resAll, Op.res, vals, few, pNeg, pPow, pAddA, argsOf, argOf, ownsOf, callEn, e2, tgN, ioAt]
  rw [seq_next s3]
  simp [sRet, d2, dFrz, dLst, rvE, dCall, aCons, aNil, oVal, dC, resAll, Op.res, vals, few, argsOf, argOf, ownsOf, callEn, c1, c2, eq_vs, backArgs]
end G
end
section
/-! votes turned about -/
namespace G
open PySem PySem.Spec PD L2 Evl
def getI (vs : List Int) (p : Int) : Int := vs.getD p.toNat 0
theorem getI_nat (vs : List Int) (i : Nat) (h : i < vs.length) : getI vs (i : Int) = vs[i] := by
  unfold getI
  rw [Int.toNat_natCast, List.getD_eq_getElem?_getD, List.getElem?_eq_getElem h]
  rfl
theorem getI_range (vs : List Int) : (rangeI vs.length).map (getI vs) = vs := by
  unfold rangeI
  rw [List.map_map]
  refine List.ext_getElem (by simp) fun i h1 h2 => ?_
  rw [List.getElem_map, List.getElem_range]
  exact getI_nat vs i h2
theorem zipIdx_range (vs : List Int) : vs.zipIdx = (List.range vs.length).map fun (i : Nat) => (getI vs (i : Int), i) := by
  refine List.ext_getElem (by simp) fun i h1 h2 => ?_
  have h3 : i < vs.length := by simpa using h1
  rw [List.getElem_zipIdx, List.getElem_map, List.getElem_range, getI_nat vs i h3, Nat.zero_add]
theorem idxs_range (q : Int → Bool) (vs : List Int) : idxs q vs = (rangeI vs.length).filter fun p => q (getI vs p) := by
  unfold idxs rangeI
  rw [zipIdx_range, List.filter_map, List.filter_map, List.map_map]
  rfl
theorem mem_range {n : Nat} {p : Int} (h : p ∈ rangeI n) : ∃ i : Nat, p = i ∧ i < n := by
  unfold rangeI at h
  obtain ⟨i, hi, rfl⟩ := List.mem_map.mp h
  exact ⟨i, rfl, List.mem_range.mp hi⟩
theorem range_sorted (n : Nat) : (rangeI n).Pairwise (· ≤ ·) := by
  unfold rangeI
  refine List.pairwise_map.mpr (List.pairwise_lt_range.imp fun {a b} h => ?_)
  omega
theorem idxs_sorted (q : Int → Bool) (vs : List Int) : (idxs q vs).Pairwise (· ≤ ·) := by
  rw [idxs_range]
  exact (range_sorted _).filter _
theorem idxs_in {q : Int → Bool} {vs : List Int} {p : Int} (h : p ∈ idxs q vs) : (∃ i : Nat, p = i ∧ i < vs.length) ∧ q (getI vs p) = true := by
  rw [idxs_range] at h
  obtain ⟨h1, h2⟩ := List.mem_filter.mp h
  exact ⟨mem_range h1, h2⟩
section
variable {vs line : List Int} (p : line.Perm (rangeI vs.length))
include p
theorem line_len : line.length = vs.length := by rw [p.length_eq, rangeI_len]
theorem line_at {x : Int} (h : x ∈ line) : ∃ i : Nat, x = i ∧ i < vs.length := mem_range (p.mem_iff.mp h)
theorem turn_perm : (line.map (getI vs)).Perm vs := by
  have := p.map (getI vs)
  rwa [getI_range] at this
theorem turn_get {a : Nat} (h : a < vs.length) : getI (line.map (getI vs)) (a : Int) = getI vs (getI line (a : Int)) := by
  have hl := line_len p
  rw [getI_nat _ a (by rw [List.length_map]; omega), List.getElem_map, getI_nat line a (by omega)]
theorem turn_tied (q : Int → Bool) : srtI ((idxs q (line.map (getI vs))).map (getI line)) = idxs q vs := by
  have hl := line_len p
  refine (srtI_uniq ?_ (idxs_sorted q vs)).symm
  rw [idxs_range q vs, idxs_range, List.length_map, hl]
  have e : (rangeI vs.length).filter (fun a => q (getI (line.map (getI vs)) a)) = (rangeI vs.length).filter ((fun x => q (getI vs x)) ∘ getI line) := by
    refine List.filter_congr fun a ha => ?_
    obtain ⟨i, rfl, hi⟩ := mem_range ha
    rw [turn_get p hi]
    rfl
  rw [e, ← List.filter_map]
  have : (rangeI vs.length).map (getI line) = line := by rw [← hl]; exact getI_range line
  rw [this]
  exact (p.filter _).symm
theorem turn_first (size : Int) : (dealT (line.map (getI vs)) size).1 = line.map (getI (dealT vs size).1) := by
  have tp := turn_perm p
  rw [deal_form, deal_form, more_perm tp, perm_sum tp, List.map_map]
  refine List.map_congr_left fun x hx => ?_
  obtain ⟨i, rfl, hi⟩ := line_at p hx
  rw [Function.comp, getI_nat vs i hi, getI_nat _ i (by rw [List.length_map]; exact hi), List.getElem_map]
theorem turn_second (size : Int) : srtI ((dealT (line.map (getI vs)) size).2.1.map (getI line)) = (dealT vs size).2.1 := by
  rw [deal_form, deal_form, tiedB_perm (turn_perm p)]
  exact turn_tied p _
end
/-- each between the quota's floor and its ceiling -/
theorem within_quota {vs : List Int} {size : Int} (hw : 0 < vs.sum) (v : Int) : v * size / vs.sum ≤ seatOf size vs.sum v + moreOf vs size v ∧ seatOf size vs.sum v + moreOf vs size v ≤ 0 - (0 - v * size) / vs.sum := by
  have h := more_in (size := size) hw v
  rw [ceil_is hw]
  unfold seatOf restOf at *
  omega
theorem tied_quota {vs : List Int} {size : Int} (hw : 0 < vs.sum) {v : Int} (h : tiedB vs size v = true) : seatOf size vs.sum v + moreOf vs size v + 1 ≤ 0 - (0 - v * size) / vs.sum := by
  obtain ⟨h1, h2⟩ := tied_in hw h
  rw [ceil_is hw, h1]
  unfold seatOf restOf at *
  rw [if_pos h2]
  omega
end G
end
section
/-! a deal's own text -/
namespace G
open PySem PySem.Spec PD L2 Evl
theorem txt_of (s : String) : PyData.strOk (Str.ofString s) = true := by
  rw [Str.ofString_eq_toList]
  unfold PyData.strOk
  rw [List.all_toArray, List.all_map]
  refine List.all_eq_true.mpr fun c _ => ?_
  have : c.toNat < 1114112 := by
    rcases c.valid with h | ⟨_, h⟩
    · have : c.toNat < 0xd800 := h
      omega
    · exact h
  simpa using this
theorem txt_app {a b : Str} (ha : PyData.strOk a = true) (hb : PyData.strOk b = true) : PyData.strOk (a ++ b) = true := by
  show (a.cps ++ b.cps).all _ = true
  rw [Array.all_append]
  unfold PyData.strOk at ha hb
  rw [ha, hb]
  rfl
theorem txt_join : ∀ ts : List Str, (∀ t ∈ ts, PyData.strOk t = true) → PyData.strOk (Str.join ", " ts) = true
  | [], _ => by simp [Str.join, Str.empty, PyData.strOk]
  | [x], h => h x List.mem_cons_self
  | x :: y :: r, h => by
    have ih := txt_join (y :: r) fun t ht => h t (List.mem_cons_of_mem _ ht)
    exact txt_app (txt_app (h x List.mem_cons_self) (txt_of ", ")) ih
theorem txt_tuple (ts : List Str) (h : ∀ t ∈ ts, PyData.strOk t = true) : PyData.strOk (tupleText ts) = true := by
  unfold tupleText
  refine txt_app (txt_app (txt_of "(") (txt_join ts h)) ?_
  split <;> exact txt_of _
theorem shownAll_mem {P : Str → Prop} : ∀ (ds : List PyData), (∀ d ∈ ds, P d.shown) → ∀ t ∈ PyData.shownAll ds, P t
  | [], _, t, ht => by simp [PyData.shownAll] at ht
  | d :: ds, h, t, ht => by
    simp only [PyData.shownAll, List.mem_cons] at ht
    rcases ht with rfl | ht
    · exact h d List.mem_cons_self
    · exact shownAll_mem ds (fun x hx => h x (List.mem_cons_of_mem _ hx)) t ht
theorem txt_tupD (ds : List PyData) (h : ∀ d ∈ ds, PyData.strOk d.shown = true) : PyData.strOk (PyData.shown (.tuple ds)) = true := by
  simp only [PyData.shown]
  exact txt_tuple _ (shownAll_mem ds h)
theorem txt_int (i : Int) : PyData.strOk (PyData.shown (.int i)) = true := by
  simp only [PyData.shown]
  exact txt_of _
theorem txt_ints (ns : List Int) : PyData.strOk (PyData.shown (nI ns)) = true := txt_tupD _ fun d hd => by
  obtain ⟨i, _, rfl⟩ := List.mem_map.mp hd
  exact txt_int i
theorem show_int {i : Int} (h : i.natAbs < 2 ^ 200) : PyData.showable (.int i) = true := by
  simp only [PyData.showable, decide_eq_true_eq]
  by_cases z : i.natAbs = 0
  · rw [z]; decide
  · have := (Nat.log2_lt z).mpr h
    omega
theorem show_all : ∀ (ds : List PyData), (∀ d ∈ ds, PyData.showable d = true) → PyData.showableAll ds = true
  | [], _ => by simp only [PyData.showableAll]
  | d :: ds, h => by
    simp only [PyData.showableAll, h d List.mem_cons_self, show_all ds fun x hx => h x (List.mem_cons_of_mem _ hx), Bool.and_self]
theorem nodict_all : ∀ (ds : List PyData), (∀ d ∈ ds, PyData.hasDict d = false) → PyData.hasDictAll ds = false
  | [], _ => by simp only [PyData.hasDictAll]
  | d :: ds, h => by
    simp only [PyData.hasDictAll, h d List.mem_cons_self, nodict_all ds fun x hx => h x (List.mem_cons_of_mem _ hx), Bool.or_self]
theorem big40 {i : Int} (h0 : 0 ≤ i) (h : i < 10 ^ 40) : i.natAbs < 2 ^ 200 := Nat.lt_of_lt_of_le (show i.natAbs < 10000000000000000000000000000000000000000 by omega) (by decide)
structure Small (a : List Int) : Prop where
  len : a.length ≤ 200
  ok : ∀ i ∈ a, 0 ≤ i ∧ i < 10 ^ 40
theorem small_show {a : List Int} (h : Small a) : PyData.showable (nI a) = true := by
  simp only [nI, PyData.showable]
  refine show_all _ fun d hd => ?_
  obtain ⟨i, hi, rfl⟩ := List.mem_map.mp hd
  exact show_int (big40 (h.ok i hi).1 (h.ok i hi).2)
theorem small_dict (a : List Int) : PyData.hasDict (nI a) = false := by
  simp only [nI, PyData.hasDict]
  refine nodict_all _ fun d hd => ?_
  obtain ⟨i, hi, rfl⟩ := List.mem_map.mp hd
  simp only [PyData.hasDict]
theorem small_len {a : List Int} (h : Small a) : (PyData.shown (nI a)).length ≤ 8403 := by
  have : (PyData.shown (nI a)).length ≤ _ := shown_tup 40 (a.map PyData.int) fun d hd => by
    obtain ⟨i, hi, rfl⟩ := List.mem_map.mp hd
    exact shown_int (h.ok i hi).1 (h.ok i hi).2
  rw [List.length_map] at this
  have := h.len
  omega
theorem plain_tri (a b : List Int) (c : Int) : plainD (triD (a, b, c)) = true := by
  have h1 := plain_intsT a
  have h2 := plain_intsT b
  have d1 := depth_ints a
  have d2 := depth_ints b
  have n1 := nd_ints a
  have n2 := nd_ints b
  have c1 := canLay_ints a
  have c2 := canLay_ints b
  simp [plainD, nd, nd.ndAll, SeqAt.shaped, PyData.canLay0, PyData.canLayAll0, PyData.depth, PyData.depthAll, n1, n2, c1, c2]
  omega
theorem f_repr {a b : List Int} {c : Int} (ha : Small a) (hb : Small b) (c0 : 0 ≤ c) (c1 : c < 10 ^ 40) : pRepr [triD (a, b, c)] = .ok (.str (PyData.shown (triD (a, b, c)))) := by
  have hl := shown_tup 8403 [nI a, nI b, .int c] fun d hd => by
    simp only [List.mem_cons, List.not_mem_nil, or_false] at hd
    rcases hd with rfl | rfl | rfl
    · exact small_len ha
    · exact small_len hb
    · have := shown_int c0 c1
      omega
  have hp := plain_tri a b c
  simp only [plainD, Bool.and_eq_true] at hp
  have hd : (triD (a, b, c)).depth ≤ 64 := by
    have d1 := depth_ints a
    have d2 := depth_ints b
    simp [PyData.depth, PyData.depthAll]
    omega
  have hs : (triD (a, b, c)).showable = true := by
    simp only [triD, PyData.showable]
    refine show_all _ fun d hd => ?_
    simp only [List.mem_cons, List.not_mem_nil, or_false] at hd
    rcases hd with rfl | rfl | rfl
    · exact small_show ha
    · exact small_show hb
    · exact show_int (big40 c0 c1)
  have hn : (triD (a, b, c)).hasDict = false := by
    simp only [triD, PyData.hasDict]
    refine nodict_all _ fun d hd => ?_
    simp only [List.mem_cons, List.not_mem_nil, or_false] at hd
    rcases hd with rfl | rfl | rfl
    · exact small_dict a
    · exact small_dict b
    · simp only [PyData.hasDict]
  unfold pRepr
  exact if_pos ⟨hp.1, hs, hn, hd, Nat.le_trans hl (by show 8403 * 3 + 2 * 3 + 3 ≤ 100000; decide)⟩
theorem plain_txt {x : Str} (h : PyData.strOk x = true) : plainD (.str x) = true := by
  simp [plainD, nd, SeqAt.shaped, PyData.canLay0, PyData.depth, h]
theorem ne_str {x : Str} (h : PyData.strOk x = true) : pNe (.str x) (.str x) = .ok (.bool false) := by
  have := plain_txt h
  unfold pNe
  rw [if_pos ⟨this, this⟩]
  simp [PyData.eqv]
theorem txt_tri (a b : List Int) (c : Int) : PyData.strOk (PyData.shown (triD (a, b, c))) = true := txt_tupD _ fun d hd => by
  simp only [List.mem_cons, List.not_mem_nil, or_false] at hd
  rcases hd with rfl | rfl | rfl
  · exact txt_ints a
  · exact txt_ints b
  · exact txt_int c
theorem eqv_all : ∀ a : List Int, PyData.eqvAll (a.map PyData.int) (a.map PyData.int) = true
  | [] => by simp [PyData.eqvAll]
  | i :: a => by simp [PyData.eqvAll, PyData.eqv, eqv_all a]
theorem eqv_tri (a b : List Int) (c : Int) : PyData.eqv (triD (a, b, c)) (triD (a, b, c)) = true := by
  simp [PyData.eqv, PyData.eqvAll, eqv_all]
theorem eq_tri (d : List Int × List Int × Int) : pEq (triD d) (triD d) = .ok (.bool true) := by
  have := plain_tri d.1 d.2.1 d.2.2
  unfold pEq
  rw [if_pos ⟨this, this⟩, eqv_tri]
theorem ne_tri (d : List Int × List Int × Int) : pNe (triD d) (triD d) = .ok (.bool false) := by
  have := plain_tri d.1 d.2.1 d.2.2
  unfold pNe
  rw [if_pos ⟨this, this⟩, eqv_tri]
  rfl
theorem ne_ints (a : List Int) : pNe (nI a) (nI a) = .ok (.bool false) := by
  have := plain_intsT a
  unfold pNe
  rw [if_pos ⟨this, this⟩]
  simp [PyData.eqv, eqv_all]
end G
end
section
/-! the deals set right: the parts -/
namespace G
open PySem PySem.Spec PD L2 Evl
structure Mild (vs : List Int) (size : Int) : Prop where
  n1 : 1 ≤ vs.length
  n6 : vs.length ≤ 6
  vb : ∀ v ∈ vs, 0 ≤ v ∧ v ≤ 1000000000
  pos : 0 < vs.sum
  s0 : 0 ≤ size
  sb : size ≤ 100000000000000000000
theorem fair_of {vs : List Int} {size : Int} (h1 : vs.length ≤ 6) (h2 : ∀ v ∈ vs, 0 ≤ v ∧ v ≤ 1000000000000) (h3 : 0 < vs.sum) (h4 : 0 ≤ size) (h5 : size ≤ 200000000000000000000) : Fair3 vs size where
  nn := fun v hv => (h2 v hv).1
  pos := h3
  size0 := h4
  vb := fun v hv => by have := (h2 v hv).2; omega
  len := by omega
  sb := by omega
theorem Mild.fair {vs : List Int} {size : Int} (h : Mild vs size) : Fair3 vs size := fair_of h.n6 (fun v hv => by have := h.vb v hv; omega) h.pos h.s0 (by have := h.sb; omega)
theorem Mild.whole {vs : List Int} {size : Int} (h : Mild vs size) : vs.sum ≤ 6000000000 := by
  have h1 := sum_le_len 1000000000 vs fun v hv => (h.vb v hv).2
  have := h.n6
  omega
theorem Mild.later {vs : List Int} {size : Int} (h : Mild vs size) : Fair3 vs (size + vs.sum) := fair_of h.n6 (fun v hv => by have := h.vb v hv; omega) h.pos (by have := h.s0; have := h.pos; omega) (by have := h.sb; have := h.whole; omega)
theorem Mild.scaled {vs : List Int} {size f : Int} (h : Mild vs size) (f0 : 0 < f) (f1 : f ≤ 100) : Fair3 (vs.map fun v => f * v) size := by
  refine fair_of (by rw [List.length_map]; exact h.n6) (fun v hv => ?_) ?_ h.s0 (by have := h.sb; omega)
  · obtain ⟨x, hx, rfl⟩ := List.mem_map.mp hv
    obtain ⟨x0, x1⟩ := h.vb x hx
    have a := Int.mul_nonneg (by omega : 0 ≤ f) x0
    have b : f * x ≤ 100 * x := Int.mul_le_mul_of_nonneg_right f1 x0
    omega
  · rw [sum_scale f0]
    exact Int.mul_pos f0 h.pos
theorem Mild.turned {vs us : List Int} {size : Int} (h : Mild vs size) (p : us.Perm vs) : Fair3 us size := by
  refine fair_of (by rw [p.length_eq]; exact h.n6) (fun v hv => by have := h.vb v (p.mem_iff.mp hv); omega) (by rw [perm_sum p]; exact h.pos) h.s0 (by have := h.sb; omega)
structure Facts (vs : List Int) (size : Int) (su ti : List Int) (le : Int) : Prop where
  eq : dealT vs size = (su, ti, le)
  sum : su.sum + le = size
  tied : 0 < le → le < ti.length
  su_eq : su = vs.map fun v => seatOf size vs.sum v + moreOf vs size v
  ti_eq : ti = idxs (tiedB vs size) vs
  su_small : Small su
  ti_small : Small ti
  le0 : 0 ≤ le
  le1 : le < 10 ^ 40
theorem facts_of {vs : List Int} {size : Int} (h : Mild vs size) : ∃ su ti le, Facts vs size su ti le := by
  have hn6 := h.n6
  have e1 := deal_sum (vs := vs) (size := size)
  have e2 := deal_tied (size := size) h.pos
  rw [deal_form] at e1 e2
  refine ⟨vs.map fun v => seatOf size vs.sum v + moreOf vs size v, idxs (tiedB vs size) vs, leftL vs size, deal_form vs size, e1, e2, rfl, rfl, ?_, ?_, ?_, ?_⟩
  · refine ⟨by simp; omega, fun i hi => ?_⟩
    obtain ⟨v, hv, rfl⟩ := List.mem_map.mp hi
    obtain ⟨m0, m1⟩ := more_in (size := size) h.pos v
    obtain ⟨v0, v1⟩ := h.vb v hv
    have a0 : 0 ≤ v * size := Int.mul_nonneg v0 h.s0
    have a1 : v * size ≤ 1000000000 * size := Int.mul_le_mul_of_nonneg_right v1 h.s0
    have b0 : 0 ≤ v * size / vs.sum := Int.ediv_nonneg a0 (by have := h.pos; omega)
    have b1 : v * size / vs.sum ≤ v * size := Int.ediv_le_self _ a0
    have m2 : moreOf vs size v ≤ 1 := by split at m1 <;> omega
    have := h.sb
    unfold seatOf
    generalize v * size / vs.sum = z at *
    generalize v * size = y at *
    omega
  · refine ⟨?_, fun i hi => ?_⟩
    · show (idxs (tiedB vs size) vs).length ≤ 200
      rw [idxs_range]
      have := List.length_filter_le (fun p => tiedB vs size (getI vs p)) (rangeI vs.length)
      rw [rangeI_len] at this
      omega
    · obtain ⟨⟨j, rfl, hj⟩, _⟩ := idxs_in hi
      omega
  · show 0 ≤ leftL vs size
    unfold leftL
    by_cases l0 : leftOf vs size = 0
    · rw [if_pos l0]; decide
    · rw [if_neg l0]
      have := (last_facts h.pos l0).1
      split <;> omega
  · show leftL vs size < _
    have l2 := left_lt (size := size) h.pos
    unfold leftL
    split
    · decide
    · split
      · decide
      · omega
section
variable {vs su ti : List Int} {size le : Int} (M : Mild vs size) (Z : Facts vs size su ti le)
include M Z
theorem su_at {i : Nat} {v : Int} (hi : vs[i]? = some v) : (su.map PyData.int)[i]? = some (.int (seatOf size vs.sum v + moreOf vs size v)) := by
  rw [Z.su_eq, List.getElem?_map, List.getElem?_map, hi]
  rfl
theorem ti_at {i : Nat} {v : Int} (hi : vs[i]? = some v) (h : (i : Int) ∈ ti) : tiedB vs size v = true := by
  rw [Z.ti_eq] at h
  have := (idxs_in h).2
  have hl := (List.getElem?_eq_some_iff.mp hi).1
  rw [getI_nat vs i hl] at this
  rwa [(List.getElem?_eq_some_iff.mp hi).2] at this
end
end G
end
section
/-! the deals set right -/
namespace G
open PySem PySem.Spec PD L2 Evl
theorem slFree_os (o : Option PyData) : slFree (os o) = true := by cases o <;> rfl
theorem f_mild {vs : List Int} {size : Int} {su ti : List Int} {le : Int} (F : Fair3 vs size) (e : dealT vs size = (su, ti, le)) : F_deal_rests [.dat (nI vs), .dat (.int size)] = .ok (.dat (triD (su, ti, le)), [.dat (nI vs), .dat (.int size)]) := by
  have := f_deal_rests F
  rwa [e] at this
abbrev rE (h : Hd) (vs : List Int) (size : Int) (s3 s4 s5 s6 s7 s8 s9 s10 s11 s12 s13 s14 s15 : Sl) : En := [h.sl true, .dat (nI vs), .dat (.int size), s3, s4, s5, s6, s7, s8, s9, s10, s11, s12, s13, s14, s15, .no, .no]
section
variable {h : Hd} {vs su ti : List Int} {size le : Int} (M : Mild vs size) (Z : Facts vs size su ti le)
include M Z
abbrev rF (h : Hd) (vs su ti : List Int) (size le : Int) (s8 s9 s10 s11 s12 s13 s14 s15 : Sl) : En := rE h vs size (.dat (triD (su, ti, le))) (.dat (nI su)) (.dat (nI ti)) (.dat (.int le)) (.dat (.int vs.sum)) s8 s9 s10 s11 s12 s13 s14 s15
theorem r_loop : ∃ a b c d, sFor (itA enum1 (aCons (oVal (dVar 1)) aNil)) (tgT 2 (tgCons (tgN 8) (tgCons (tgN 9) tgNil))) (sSeq (sPar 10 11 (rvD (d2 pFdiv (oVal (d2 pMulA (oVal (dVar 9)) (oVal (dVar 2)))) (oVal (dVar 7)))) (rvD (d2 pSub (oVal (dC (.int 0))) (oVal (d2 pFdiv (oVal (d2 pSub (oVal (dC (.int 0))) (oVal (d2 pMulA (oVal (dVar 9)) (oVal (dVar 2)))))) (oVal (dVar 7)))))))
  (sIf (dOr (dNot (dB (dChain pLe pLe (oVal (dVar 10)) (oVal (d2 pIx (oVal (dVar 4)) (oVal (dVar 8)))) (oVal (dVar 11))))) (dAnd (dB (d2 pIn (oVal (dVar 8)) (oVal (dVar 5)))) (dB (d2 pGt (oVal (d2 pAddA (oVal (d2 pIx (oVal (dVar 4)) (oVal (dVar 8)))) (oVal (dC (.int 1))))) (oVal (dVar 11)))))) (sRet (dC (.bool false))) sNext)) (rF h vs su ti size le .no .no .no .no .no .no .no .no) = .next (rF h vs su ti size le (.dat a) (.dat b) (.dat c) (.dat d) .no .no .no .no) := by
  have w8 := w8000 M.fair.two
  have hw := M.pos
  obtain ⟨⟨o8, o9, o10, o11⟩, e, p⟩ := for_state (S := Option PyData × Option PyData × Option PyData × Option PyData) (fun s => rF h vs su ti size le (os s.1) (os s.2.1) (os s.2.2.1) (os s.2.2.2) .no .no .no .no)
    (g := tgT 2 (tgCons (tgN 8) (tgCons (tgN 9) tgNil))) (B := (sSeq (sPar 10 11 (rvD (d2 pFdiv (oVal (d2 pMulA (oVal (dVar 9)) (oVal (dVar 2)))) (oVal (dVar 7)))) (rvD (d2 pSub (oVal (dC (.int 0))) (oVal (d2 pFdiv (oVal (d2 pSub (oVal (dC (.int 0))) (oVal (d2 pMulA (oVal (dVar 9)) (oVal (dVar 2)))))) (oVal (dVar 7)))))))
  (sIf (dOr (dNot (dB (dChain pLe pLe (oVal (dVar 10)) (oVal (d2 pIx (oVal (dVar 4)) (oVal (dVar 8)))) (oVal (dVar 11))))) (dAnd (dB (d2 pIn (oVal (dVar 8)) (oVal (dVar 5)))) (dB (d2 pGt (oVal (d2 pAddA (oVal (d2 pIx (oVal (dVar 4)) (oVal (dVar 8)))) (oVal (dC (.int 1))))) (oVal (dVar 11)))))) (sRet (dC (.bool false))) sNext)))
    (fun i s => i = 0 ∨ ∃ a b c d, s = (some a, some b, some c, some d)) (vs.zipIdx.map qE)
    (fun i x hx s hs => by
      rw [List.getElem?_map, List.getElem?_zipIdx] at hx
      cases ev : vs[i]? with
      | none => rw [ev] at hx; cases hx
      | some v =>
        rw [ev] at hx
        have hx : x = qE (v, 0 + i) := (Option.some.inj hx).symm
        rw [Nat.zero_add] at hx
        subst hx
        have hv : v ∈ vs := List.mem_of_getElem? ev
        have v3 := v63 M.fair.two hv
        have hs4 := pIx_tuple (atI_nat' (su_at M Z ev))
        obtain ⟨q1, q2⟩ := within_quota (size := size) hw v
        have q3 := fun z => tied_quota (size := size) hw (ti_at M Z ev z)
        refine ⟨rF h vs su ti size le (.dat (.int (i : Int))) (.dat (.int v)) (os s.2.2.1) (os s.2.2.2) .no .no .no .no, (some (.int (i : Int)), some (.int v), some (.int (v * size / vs.sum)), some (.int (0 - (0 - v * size) / vs.sum))), ?_, .inl ?_, .inr ⟨_, _, _, _, rfl⟩⟩
        · obtain ⟨o8, o9, o10, o11⟩ := s
          cases o8 <;> cases o9 <;> simp [tgT, tgCons, tgNil, tgN, ioAt, os]
        · have s1 : sPar 10 11 (rvD (d2 pFdiv (oVal (d2 pMulA (oVal (dVar 9)) (oVal (dVar 2)))) (oVal (dVar 7)))) (rvD (d2 pSub (oVal (dC (.int 0))) (oVal (d2 pFdiv (oVal (d2 pSub (oVal (dC (.int 0))) (oVal (d2 pMulA (oVal (dVar 9)) (oVal (dVar 2)))))) (oVal (dVar 7)))))) (rF h vs su ti size le (.dat (.int (i : Int))) (.dat (.int v)) (os s.2.2.1) (os s.2.2.2) .no .no .no .no) = .next (rF h vs su ti size le (.dat (.int (i : Int))) (.dat (.int v)) (.dat (.int (v * size / vs.sum))) (.dat (.int (0 - (0 - v * size) / vs.sum))) .no .no .no .no) := by
            obtain ⟨o8, o9, o10, o11⟩ := s
            cases o10 <;> cases o11 <;> simp [sPar, rvD, d2, oVal, dC, Op.res, pMulA_l v3, pFdiv_ok hw w8, pSub, putE, ioAt, slOf, os, -Int.zero_sub, -Int.neg_sub]
          rw [seq_next s1]
          generalize v * size / vs.sum = lo at *
          generalize 0 - (0 - v * size) / vs.sum = hi at *
          generalize seatOf size vs.sum v + moreOf vs size v = sv at *
          by_cases z : (i : Int) ∈ ti
          · have q4 := q3 z
            have q5 : ¬ hi < sv + 1 := by omega
            simp [sIf, dOr, dAnd, dNot, dB, dChain, d2, oVal, dC, Op.res, hs4, pLe, q1, q2, pIn_tuple, z, pAddA, pGt, q5, sNext, os]
          · simp [sIf, dOr, dAnd, dNot, dB, dChain, d2, oVal, dC, Op.res, hs4, pLe, q1, q2, pIn_tuple, z, sNext, os]) (none, none, none, none) (.inl rfl)
  have hl : (vs.zipIdx.map qE).length ≠ 0 := by have := M.n1; simp; intro z; simp [z] at this
  rcases p with p | ⟨a, b, c, d, p⟩
  · exact absurd p hl
  · cases p
    refine ⟨a, b, c, d, for_next (xs := vs.zipIdx.map qE) (by simp [itA, aCons, aNil, oVal, Op.res, resAll, enum1, seqOf, ownIx, enum_ints, -List.map_map]; rfl) (e.trans ?_)⟩
    rfl
end
end G
end
section
/-! the deals set right, whole -/
namespace G
open PySem PySem.Spec PD L2 Evl
theorem zip_sum (su vs : List Int) (h : su.length = vs.length) (f : Int → Int) (e : su = vs.map f) : ((su.zip vs).map fun p => p.1 + p.2) = vs.map fun v => f v + v := by
  subst e
  rw [List.zip_map_left, List.map_map]
  have : vs.zip vs = vs.map fun v => (v, v) := by
    have := List.zip_map' (f := id) (g := id) (l := vs)
    simpa using this
  rw [this, List.map_map]
  rfl
section
variable {h : Hd} {vs su ti : List Int} {size le : Int} (M : Mild vs size) (Z : Facts vs size su ti le)
include M Z
theorem r_first (h0 : 0 ≤ h.at_) : (sIf (dOr (dB (d2 pNe (oVal (dA pRepr (aCons (oVal (dTup (aCons (oVal (dVar 4)) (aCons (oVal (dVar 5)) (aCons (oVal (dVar 6)) aNil))))) aNil))) (oVal (dA pRepr (aCons (oVal (dVar 3)) aNil))))) (dOr (dB (d2 pNe (oVal (d2 pAddA (oVal (dA pSum (aCons (oVal (dVar 4)) aNil))) (oVal (dVar 6)))) (oVal (dVar 2)))) (dAnd (dB (d2 pGt (oVal (dVar 6)) (oVal (dC (.int 0))))) (dNot (dB (dChain pLt pLt (oVal (dC (.int 0))) (oVal (dVar 6)) (oVal (dA pLen (aCons (oVal (dVar 5)) aNil))))))))) (sRet (dC (.bool false))) sNext) (rE h vs size (.dat (triD (su, ti, le))) (.dat (nI su)) (.dat (nI ti)) (.dat (.int le)) .no .no .no .no .no .no .no .no .no) = .next (rE h vs size (.dat (triD (su, ti, le))) (.dat (nI su)) (.dat (nI ti)) (.dat (.int le)) .no .no .no .no .no .no .no .no .no) := by
  have r1 := f_repr Z.su_small Z.ti_small Z.le0 Z.le1
  have r2 := ne_str (txt_tri su ti le)
  have r3 := Z.sum
  have r4 : pNe (.int (su.sum + le)) (.int size) = .ok (.bool false) := by rw [pNe_int, r3]; simp
  have r5 := Z.tied
  by_cases z : 0 < le
  · have r6 := r5 z
    simp [sIf, dOr, dAnd, dNot, dB, dChain, d2, dA, dTup, aCons, aNil, oVal, dC, Op.res, resAll, vals, few, r1, r2, pSum, pAddA, r4, pGt, pLt, pLen, z, r6, sNext]
  · simp [sIf, dOr, dAnd, dNot, dB, dChain, d2, dA, dTup, aCons, aNil, oVal, dC, Op.res, resAll, vals, few, r1, r2, pSum, pAddA, r4, pGt, z, sNext]
theorem r_other {a b c d : PyData} {line : List Int} (p : line.Perm (rangeI vs.length)) : sAsg (rvE (dCall 2 F_deal_rests (aCons (oVal (dA pTuple (aCons (oVal (dFrz (dLc (itA seq1 (it1 (oVal (dVar 12)))) ([8] : List Nat) (tgN 8) dYes (d2 pIx (oVal (dVar 1)) (oVal (dVar 8)))))) aNil))) (aCons (oVal (dVar 2)) aNil)))) (tgN 13) (rF h vs su ti size le (.dat a) (.dat b) (.dat c) (.dat d) (.dat (lI line)) .no .no .no) = .next (rF h vs su ti size le (.dat a) (.dat b) (.dat c) (.dat d) (.dat (lI line)) (.dat (triD (dealT (line.map (getI vs)) size))) .no .no) := by
  have hl := line_len p
  have n6 := M.n6
  have e1 : dA pTuple (aCons (oVal (dFrz (dLc (itA seq1 (it1 (oVal (dVar 12)))) ([8] : List Nat) (tgN 8) dYes (d2 pIx (oVal (dVar 1)) (oVal (dVar 8)))))) aNil) (rF h vs su ti size le (.dat a) (.dat b) (.dat c) (.dat d) (.dat (lI line)) .no .no .no) = .ok (nI (line.map (getI vs)), rF h vs su ti size le (.dat a) (.dat b) (.dat c) (.dat d) (.dat (lI line)) .no .no .no) := by
    have := tup_map (it := itA seq1 (it1 (oVal (dVar 12)))) (vs := [8]) (ws := []) (tg := tgN 8) (elt := d2 pIx (oVal (dVar 1)) (oVal (dVar 8))) (en := rF h vs su ti size le (.dat a) (.dat b) (.dat c) (.dat d) (.dat (lI line)) .no .no .no) (e' := rF h vs su ti size le (.dat a) (.dat b) (.dat c) (.dat d) (.dat (lI line)) .no .no .no) PyData.int (fun x => .int (getI vs x)) line (by simp [itA, it1, oVal, Op.res, resAll, seq1, seqOf, ownIx]) (by simp [PD.freeOf, slFree]) (by omega) (by simp) (fun x hx => by
      obtain ⟨i, rfl, hi⟩ := line_at p hx
      have hg : (vs.map PyData.int)[i]? = some (.int (getI vs (i : Int))) := by rw [List.getElem?_map, List.getElem?_eq_getElem hi, getI_nat vs i hi]; rfl
      have hg := pIx_tuple (atI_nat' hg)
      exact ⟨rF h vs su ti size le (.dat (.int (i : Int))) (.dat b) (.dat c) (.dat d) (.dat (lI line)) .no .no .no, rF h vs su ti size le (.dat (.int (i : Int))) (.dat b) (.dat c) (.dat d) (.dat (lI line)) .no .no .no, by simp [tgN, ioAt, wipeE], by simp [d2, oVal, Op.res, hg], by simp [wipeE]⟩) (by simp [restE, ioAt, wipeE])
    rw [this, nI, List.map_map]
    rfl
  have e2 := f_deal_rests (M.turned (turn_perm p))
  generalize line.map (getI vs) = us at *
  simp [sAsg, rvE, dCall, aCons, aNil, oVal, argsOf, argOf, ownsOf, callEn, Op.res] at e1 ⊢
  simp [e1, e2, tgN, ioAt, argsOf, argOf, ownsOf, callEn, Op.res]
end
end G
end
section
/-! the deals set right: turned, scaled, one round more -/
namespace G
open PySem PySem.Spec PD L2 Evl
theorem tri0 (X : List Int × List Int × Int) : pIx (triD X) (.int 0) = .ok (nI X.1) := pIx_tuple rfl
theorem tri1 (X : List Int × List Int × Int) : pIx (triD X) (.int 1) = .ok (nI X.2.1) := pIx_tuple rfl
section
variable {h : Hd} {vs su ti : List Int} {size le : Int} (M : Mild vs size) (Z : Facts vs size su ti le)
include M Z
theorem r_cmp {a b c d : PyData} {line : List Int} (p : line.Perm (rangeI vs.length)) : (sIf (dOr (dB (d2 pNe (oVal (d2 pIx (oVal (dVar 13)) (oVal (dC (.int 0))))) (oVal (dA pTuple (aCons (oVal (dFrz (dLc (itA seq1 (it1 (oVal (dVar 12)))) ([8] : List Nat) (tgN 8) dYes (d2 pIx (oVal (dVar 4)) (oVal (dVar 8)))))) aNil))))) (dB (d2 pNe (oVal (dA pTuple (aCons (oVal (dFrz (dA pSorted (aCons (oVal (dFrz (dLc (itA seq1 (it1 (oVal (d2 pIx (oVal (dVar 13)) (oVal (dC (.int 1))))))) ([16] : List Nat) (tgN 16) dYes (d2 pIx (oVal (dVar 12)) (oVal (dVar 16)))))) aNil)))) aNil))) (oVal (dVar 5))))) (sRet (dC (.bool false))) sNext) (rF h vs su ti size le (.dat a) (.dat b) (.dat c) (.dat d) (.dat (lI line)) (.dat (triD (dealT (line.map (getI vs)) size))) .no .no) = .next (rF h vs su ti size le (.dat a) (.dat b) (.dat c) (.dat d) (.dat (lI line)) (.dat (triD (dealT (line.map (getI vs)) size))) .no .no) := by
  have hl := line_len p
  have n6 := M.n6
  have t1 := turn_first p size
  have t2 := turn_second p size
  rw [Z.eq] at t1 t2
  have tl : ∀ x ∈ (dealT (line.map (getI vs)) size).2.1, ∃ i : Nat, x = i ∧ i < line.length := fun x hx => by
    rw [deal_form] at hx
    have := (idxs_in hx).1
    rwa [List.length_map] at this
  have tn : (dealT (line.map (getI vs)) size).2.1.length ≤ 6 := by
    rw [deal_form]
    show (idxs _ _).length ≤ 6
    rw [idxs_range]
    refine Nat.le_trans (List.length_filter_le _ _) ?_
    rw [rangeI_len, List.length_map]
    omega
  generalize hX : dealT (line.map (getI vs)) size = X at *
  have sul : su.length = vs.length := by rw [Z.su_eq, List.length_map]
  have e1 : dA pTuple (aCons (oVal (dFrz (dLc (itA seq1 (it1 (oVal (dVar 12)))) ([8] : List Nat) (tgN 8) dYes (d2 pIx (oVal (dVar 4)) (oVal (dVar 8)))))) aNil) (rF h vs su ti size le (.dat a) (.dat b) (.dat c) (.dat d) (.dat (lI line)) (.dat (triD X)) .no .no) = .ok (nI X.1, rF h vs su ti size le (.dat a) (.dat b) (.dat c) (.dat d) (.dat (lI line)) (.dat (triD X)) .no .no) := by
    have := tup_map (it := itA seq1 (it1 (oVal (dVar 12)))) (vs := [8]) (ws := []) (tg := tgN 8) (elt := d2 pIx (oVal (dVar 4)) (oVal (dVar 8))) (en := rF h vs su ti size le (.dat a) (.dat b) (.dat c) (.dat d) (.dat (lI line)) (.dat (triD X)) .no .no) (e' := rF h vs su ti size le (.dat a) (.dat b) (.dat c) (.dat d) (.dat (lI line)) (.dat (triD X)) .no .no) PyData.int (fun x => .int (getI su x)) line (by simp [itA, it1, oVal, Op.res, resAll, seq1, seqOf, ownIx]) (by simp [PD.freeOf, slFree]) (by omega) (by simp) (fun x hx => by
      obtain ⟨i, rfl, hi⟩ := line_at p hx
      have hi : i < su.length := by omega
      have hg : (su.map PyData.int)[i]? = some (.int (getI su (i : Int))) := by rw [List.getElem?_map, List.getElem?_eq_getElem hi, getI_nat su i hi]; rfl
      have hg := pIx_tuple (atI_nat' hg)
      exact ⟨rF h vs su ti size le (.dat (.int (i : Int))) (.dat b) (.dat c) (.dat d) (.dat (lI line)) (.dat (triD X)) .no .no, rF h vs su ti size le (.dat (.int (i : Int))) (.dat b) (.dat c) (.dat d) (.dat (lI line)) (.dat (triD X)) .no .no, by simp [tgN, ioAt, wipeE], by simp [d2, oVal, Op.res, hg], by simp [wipeE]⟩) (by simp [restE, ioAt, wipeE])
    rw [this, t1, nI, List.map_map]
    rfl
  have x1 := tri1 X
  have e2 : dLc (itA seq1 (it1 (oVal (d2 pIx (oVal (dVar 13)) (oVal (dC (.int 1))))))) ([16] : List Nat) (tgN 16) dYes (d2 pIx (oVal (dVar 12)) (oVal (dVar 16))) (rF h vs su ti size le (.dat a) (.dat b) (.dat c) (.dat d) (.dat (lI line)) (.dat (triD X)) .no .no) = .ok ((X.2.1.map (getI line)).map PyData.int, rF h vs su ti size le (.dat a) (.dat b) (.dat c) (.dat d) (.dat (lI line)) (.dat (triD X)) .no .no) := by
    have lc := lc_map (ws := []) (e := rF h vs su ti size le (.dat a) (.dat b) (.dat c) (.dat d) (.dat (lI line)) (.dat (triD X)) .no .no) (vs := [16]) (tg := tgN 16) (elt := d2 pIx (oVal (dVar 12)) (oVal (dVar 16))) PyData.int (fun x => .int (getI line x)) X.2.1 (fun x hx => by
      obtain ⟨i, rfl, hi⟩ := tl x hx
      have hg : (line.map PyData.int)[i]? = some (.int (getI line (i : Int))) := by rw [List.getElem?_map, List.getElem?_eq_getElem hi, getI_nat line i hi]; rfl
      have hg := pIx_list (atI_nat' hg)
      exact ⟨(rF h vs su ti size le (.dat a) (.dat b) (.dat c) (.dat d) (.dat (lI line)) (.dat (triD X)) .no .no).set 16 (.dat (.int (i : Int))), (rF h vs su ti size le (.dat a) (.dat b) (.dat c) (.dat d) (.dat (lI line)) (.dat (triD X)) .no .no).set 16 (.dat (.int (i : Int))), by simp [tgN, ioAt], by simp [d2, oVal, Op.res, hg], by simp [wipeE]⟩)
    have := dLc_ok (it := itA seq1 (it1 (oVal (d2 pIx (oVal (dVar 13)) (oVal (dC (.int 1))))))) (vs := [16]) (tg := tgN 16) (tst := dYes) (elt := d2 pIx (oVal (dVar 12)) (oVal (dVar 16))) (en := rF h vs su ti size le (.dat a) (.dat b) (.dat c) (.dat d) (.dat (lI line)) (.dat (triD X)) .no .no) (en1 := rF h vs su ti size le (.dat a) (.dat b) (.dat c) (.dat d) (.dat (lI line)) (.dat (triD X)) .no .no) (ws := []) (xs := X.2.1.map PyData.int)
      (by simp [itA, it1, d2, oVal, dC, Op.res, resAll, x1, seq1, seqOf, ownIx]) (by simp [PD.freeOf, slFree]) (by rw [List.length_map]; omega) (by simp) (by simpa [wipeE] using lc)
    rw [this, List.map_map]
    simp [restE]
  have e3 : intsD ((X.2.1.map (getI line)).map PyData.int) = some (X.2.1.map (getI line)) := intsD_map _
  have x0 := tri0 X
  have n0 := ne_ints X.1
  have n1 := ne_ints ti
  have t2 : srtI (X.2.1.map (getI line)) = ti := t2
  generalize X.2.1.map (getI line) = ws at *
  have e4 : dA pTuple (aCons (oVal (dFrz (dA pSorted (aCons (oVal (dFrz (dLc (itA seq1 (it1 (oVal (d2 pIx (oVal (dVar 13)) (oVal (dC (.int 1))))))) ([16] : List Nat) (tgN 16) dYes (d2 pIx (oVal (dVar 12)) (oVal (dVar 16)))))) aNil)))) aNil) (rF h vs su ti size le (.dat a) (.dat b) (.dat c) (.dat d) (.dat (lI line)) (.dat (triD X)) .no .no) = .ok (nI ti, rF h vs su ti size le (.dat a) (.dat b) (.dat c) (.dat d) (.dat (lI line)) (.dat (triD X)) .no .no) := by
    generalize dLc (itA seq1 (it1 (oVal (d2 pIx (oVal (dVar 13)) (oVal (dC (.int 1))))))) ([16] : List Nat) (tgN 16) dYes (d2 pIx (oVal (dVar 12)) (oVal (dVar 16))) = D at *
    simp [dA, aCons, aNil, oVal, dFrz, e2, Op.res, resAll, pSorted, e3, t2, pTuple]
  have e0 : d2 pIx (oVal (dVar 13)) (oVal (dC (.int 0))) (rF h vs su ti size le (.dat a) (.dat b) (.dat c) (.dat d) (.dat (lI line)) (.dat (triD X)) .no .no) = .ok (nI X.1, rF h vs su ti size le (.dat a) (.dat b) (.dat c) (.dat d) (.dat (lI line)) (.dat (triD X)) .no .no) := by
    simp [d2, oVal, dC, Op.res, x0]
  generalize dA pTuple (aCons (oVal (dFrz (dA pSorted (aCons (oVal (dFrz (dLc (itA seq1 (it1 (oVal (d2 pIx (oVal (dVar 13)) (oVal (dC (.int 1))))))) ([16] : List Nat) (tgN 16) dYes (d2 pIx (oVal (dVar 12)) (oVal (dVar 16)))))) aNil)))) aNil) = E4 at *
  generalize dA pTuple (aCons (oVal (dFrz (dLc (itA seq1 (it1 (oVal (dVar 12)))) ([8] : List Nat) (tgN 8) dYes (d2 pIx (oVal (dVar 4)) (oVal (dVar 8)))))) aNil) = E1 at *
  generalize d2 pIx (oVal (dVar 13)) (oVal (dC (.int 0))) = E0 at *
  generalize X.1 = X1 at *
  simp [sIf, dOr, dB, d2, oVal, Op.res, e0, e1, e4, n0, n1, sNext]
end
end G
end
section
/-! the deals set right: the end -/
namespace G
open PySem PySem.Spec PD L2 Evl
section
variable {h : Hd} {vs su ti : List Int} {size le : Int} (M : Mild vs size) (Z : Facts vs size su ti le)
include M Z
theorem r_scaled {a b c d l o : PyData} {f : Int} (f0 : 0 < f) (f1 : f ≤ 100) : (sIf (dB (d2 pNe (oVal (rvE (dCall 2 F_deal_rests (aCons (oVal (dA pTuple (aCons (oVal (dFrz (dLc (itA seq1 (it1 (oVal (dVar 1)))) ([9] : List Nat) (tgN 9) dYes (d2 pMulA (oVal (dVar 14)) (oVal (dVar 9)))))) aNil))) (aCons (oVal (dVar 2)) aNil))))) (oVal (dVar 3)))) (sRet (dC (.bool false))) sNext) (rF h vs su ti size le (.dat a) (.dat b) (.dat c) (.dat d) (.dat l) (.dat o) (.dat (.int f)) .no) = .next (rF h vs su ti size le (.dat a) (.dat b) (.dat c) (.dat d) (.dat l) (.dat o) (.dat (.int f)) .no) := by
  have n6 := M.n6
  have ff : f.natAbs < 2 ^ 63 := by omega
  have e1 : dA pTuple (aCons (oVal (dFrz (dLc (itA seq1 (it1 (oVal (dVar 1)))) ([9] : List Nat) (tgN 9) dYes (d2 pMulA (oVal (dVar 14)) (oVal (dVar 9)))))) aNil) (rF h vs su ti size le (.dat a) (.dat b) (.dat c) (.dat d) (.dat l) (.dat o) (.dat (.int f)) .no) = .ok (nI (vs.map fun v => f * v), rF h vs su ti size le (.dat a) (.dat b) (.dat c) (.dat d) (.dat l) (.dat o) (.dat (.int f)) .no) := by
    have := tup_map (it := itA seq1 (it1 (oVal (dVar 1)))) (vs := [9]) (ws := []) (tg := tgN 9) (elt := d2 pMulA (oVal (dVar 14)) (oVal (dVar 9))) (en := rF h vs su ti size le (.dat a) (.dat b) (.dat c) (.dat d) (.dat l) (.dat o) (.dat (.int f)) .no) (e' := rF h vs su ti size le (.dat a) (.dat b) (.dat c) (.dat d) (.dat l) (.dat o) (.dat (.int f)) .no) PyData.int (fun x => .int (f * x)) vs (by simp [itA, it1, oVal, Op.res, resAll, seq1, seqOf, ownIx]) (by simp [PD.freeOf, slFree]) (by omega) (by simp) (fun x hx => 
      ⟨rF h vs su ti size le (.dat a) (.dat (.int x)) (.dat c) (.dat d) (.dat l) (.dat o) (.dat (.int f)) .no, rF h vs su ti size le (.dat a) (.dat (.int x)) (.dat c) (.dat d) (.dat l) (.dat o) (.dat (.int f)) .no, by simp [tgN, ioAt, wipeE], by simp [d2, oVal, Op.res, pMulA_l ff], by simp [wipeE]⟩) (by simp [restE, ioAt, wipeE])
    rw [this, nI, List.map_map]
    rfl
  have e2 := f_mild (M.scaled f0 f1) ((deal_scale f0 M.pos).trans Z.eq)
  have e3 := ne_tri (su, ti, le)
  generalize dA pTuple (aCons (oVal (dFrz (dLc (itA seq1 (it1 (oVal (dVar 1)))) ([9] : List Nat) (tgN 9) dYes (d2 pMulA (oVal (dVar 14)) (oVal (dVar 9)))))) aNil) = E1 at *
  generalize (vs.map fun v => f * v) = us at *
  simp [sIf, dB, d2, rvE, dCall, aCons, aNil, oVal, argsOf, argOf, ownsOf, callEn, Op.res, e1, e2, e3, sNext]
theorem r_end {a b c d l o : PyData} {f : Int} : ∃ e', (sSeq (sAsg (rvE (dCall 2 F_deal_rests (aCons (oVal (dVar 1)) (aCons (oVal (d2 pAddA (oVal (dVar 2)) (oVal (dVar 7)))) aNil)))) (tgN 15))
  (sRet (d2 pEq (oVal (dVar 15)) (oVal (dTup (aCons (oVal (dA pTuple (aCons (oVal (dFrz (dLc (itA zip2 (aCons (oVal (dVar 4)) (aCons (oVal (dVar 1)) aNil))) ([17, 9] : List Nat) (tgT 2 (tgCons (tgN 17) (tgCons (tgN 9) tgNil))) dYes (d2 pAddA (oVal (dVar 17)) (oVal (dVar 9)))))) aNil))) (aCons (oVal (dVar 5)) (aCons (oVal (dVar 6)) aNil)))))))) (rF h vs su ti size le (.dat a) (.dat b) (.dat c) (.dat d) (.dat l) (.dat o) (.dat (.int f)) .no) = .ret (.dat (.bool true)) (rF h vs su ti size le (.dat a) (.dat b) (.dat c) (.dat d) (.dat l) (.dat o) (.dat (.int f)) e') := by
  have n6 := M.n6
  have sul : su.length = vs.length := by rw [Z.su_eq, List.length_map]
  have d1 := deal_later (size := size) M.pos
  have d2 := deal_form vs size
  rw [Z.eq] at d2
  injection d2 with d3 d4
  injection d4 with d5 d6
  rw [← d5, ← d6] at d1
  have zs := zip_sum su vs sul _ Z.su_eq
  rw [← zs] at d1
  have e2 := f_mild M.later d1
  have e3 := eq_tri (((su.zip vs).map fun p => p.1 + p.2), ti, le)
  refine ⟨.dat (triD (((su.zip vs).map fun p => p.1 + p.2), ti, le)), ?_⟩
  have e1 : dA pTuple (aCons (oVal (dFrz (dLc (itA zip2 (aCons (oVal (dVar 4)) (aCons (oVal (dVar 1)) aNil))) ([17, 9] : List Nat) (tgT 2 (tgCons (tgN 17) (tgCons (tgN 9) tgNil))) dYes (d2 pAddA (oVal (dVar 17)) (oVal (dVar 9)))))) aNil) (rF h vs su ti size le (.dat a) (.dat b) (.dat c) (.dat d) (.dat l) (.dat o) (.dat (.int f)) (.dat (triD (((su.zip vs).map fun p => p.1 + p.2), ti, le)))) = .ok (nI ((su.zip vs).map fun p => p.1 + p.2), rF h vs su ti size le (.dat a) (.dat b) (.dat c) (.dat d) (.dat l) (.dat o) (.dat (.int f)) (.dat (triD (((su.zip vs).map fun p => p.1 + p.2), ti, le)))) := by
    generalize hT : triD (((su.zip vs).map fun p => p.1 + p.2), ti, le) = T
    have := tup_map (it := itA zip2 (aCons (oVal (dVar 4)) (aCons (oVal (dVar 1)) aNil))) (vs := [17, 9]) (ws := []) (tg := tgT 2 (tgCons (tgN 17) (tgCons (tgN 9) tgNil))) (elt := PD.d2 pAddA (oVal (dVar 17)) (oVal (dVar 9))) (en := rF h vs su ti size le (.dat a) (.dat b) (.dat c) (.dat d) (.dat l) (.dat o) (.dat (.int f)) (.dat T)) (e' := rF h vs su ti size le (.dat a) (.dat b) (.dat c) (.dat d) (.dat l) (.dat o) (.dat (.int f)) (.dat T)) qZ (fun x => .int (x.1 + x.2)) (su.zip vs) (by simp [itA, aCons, aNil, oVal, Op.res, resAll, zip2, seqOf, ownIx, zip_ints, -List.map_map]) (by simp [PD.freeOf, slFree]) (by simp; omega) (by simp) (fun x hx => 
      ⟨(rF h vs su ti size le (.dat a) (.dat (.int x.2)) (.dat c) (.dat d) (.dat l) (.dat o) (.dat (.int f)) (.dat T)).set 17 (.dat (.int x.1)), (rF h vs su ti size le (.dat a) (.dat (.int x.2)) (.dat c) (.dat d) (.dat l) (.dat o) (.dat (.int f)) (.dat T)).set 17 (.dat (.int x.1)), by simp [tgT, tgCons, tgNil, tgN, ioAt, wipeE], by simp [PD.d2, oVal, Op.res, pAddA], by simp [wipeE]⟩) (by simp [restE, ioAt, wipeE])
    rw [this, nI, List.map_map]
    rfl
  generalize dA pTuple (aCons (oVal (dFrz (dLc (itA zip2 (aCons (oVal (dVar 4)) (aCons (oVal (dVar 1)) aNil))) ([17, 9] : List Nat) (tgT 2 (tgCons (tgN 17) (tgCons (tgN 9) tgNil))) dYes (PD.d2 pAddA (oVal (dVar 17)) (oVal (dVar 9)))))) aNil) = E1 at *
  generalize ((su.zip vs).map fun p => p.1 + p.2) = us at *
  have s1 : sAsg (rvE (dCall 2 F_deal_rests (aCons (oVal (dVar 1)) (aCons (oVal (PD.d2 pAddA (oVal (dVar 2)) (oVal (dVar 7)))) aNil)))) (tgN 15) (rF h vs su ti size le (.dat a) (.dat b) (.dat c) (.dat d) (.dat l) (.dat o) (.dat (.int f)) .no) = .next (rF h vs su ti size le (.dat a) (.dat b) (.dat c) (.dat d) (.dat l) (.dat o) (.dat (.int f)) (.dat (triD (us, ti, le)))) := by
    simp [sAsg, rvE, dCall, aCons, aNil, oVal, PD.d2, pAddA, Op.res, argsOf, argOf, ownsOf, callEn, e2, tgN, ioAt]
  rw [seq_next s1]
  simp [sRet, PD.d2, dTup, aCons, aNil, oVal, Op.res, resAll, vals, few, e1, e3]
end
end G
end
section
/-! the deals set right: joined -/
namespace G
open PySem PySem.Spec PD L2 Evl
theorem w_whole {h : Hd} {vs su ti : List Int} {size le : Int} : (sAsg (dA pSum (aCons (oVal (dVar 1)) aNil)) (tgN 7)) (rE h vs size (.dat (triD (su, ti, le))) (.dat (nI su)) (.dat (nI ti)) (.dat (.int le)) .no .no .no .no .no .no .no .no .no) = .next (rF h vs su ti size le .no .no .no .no .no .no .no .no) := by simp [sAsg, dA, aCons, aNil, oVal, resAll, Op.res, pSum, tgN, ioAt]
theorem w_nine {h1 h2 : Hd} {vs su ti : List Int} {size le k : Int} {a b c d l o : PyData} (e9 : F__law_draw [h1.sl true, .dat (.int 9)] = .ok (.dat (.int k), [h2.sl true, .dat (.int 9)])) : sAsg (d2 pAddA (oVal (dC (.int 2))) (oVal (rvE (dCall 2 F__law_draw (aCons (oVar 0) (aCons (oVal (dC (.int 9))) aNil)))))) (tgN 14) (rF h1 vs su ti size le (.dat a) (.dat b) (.dat c) (.dat d) (.dat l) (.dat o) .no .no) = .next (rF h2 vs su ti size le (.dat a) (.dat b) (.dat c) (.dat d) (.dat l) (.dat o) (.dat (.int (2 + k))) .no) := by simp [sAsg, rvE, dCall, d2, dC, aCons, aNil, oVar, oVal, resAll, Op.res, pAddA, argsOf, argOf, ownsOf, callEn, e9, tgN, ioAt]
theorem w_line {h h1 : Hd} {vs su ti line : List Int} {size le m : Int} {a b c d : PyData} (hm : (vs.length : Int) = m) (e1 : F__law_mixed [h.sl true, .dat (.int m)] = .ok (.dat (lI line), [h1.sl true, .dat (.int m)])) : sAsg (rvE (dCall 2 F__law_mixed (aCons (oVar 0) (aCons (oVal (dA pLen (aCons (oVal (dVar 1)) aNil))) aNil)))) (tgN 12) (rF h vs su ti size le (.dat a) (.dat b) (.dat c) (.dat d) .no .no .no .no) = .next (rF h1 vs su ti size le (.dat a) (.dat b) (.dat c) (.dat d) (.dat (lI line)) .no .no .no) := by
  have e0 : dA pLen (aCons (oVal (dVar 1)) aNil) (rF h vs su ti size le (.dat a) (.dat b) (.dat c) (.dat d) .no .no .no .no) = .ok (.int m, rF h vs su ti size le (.dat a) (.dat b) (.dat c) (.dat d) .no .no .no .no) := by
    simp [dA, aCons, aNil, oVal, resAll, Op.res, pLen, hm]
  generalize dA pLen (aCons (oVal (dVar 1)) aNil) = E at *
  simp [sAsg, rvE, dCall, aCons, aNil, oVar, oVal, Op.res, argsOf, argOf, ownsOf, callEn, e0, e1, tgN, ioAt]
theorem w_deal {h : Hd} {vs : List Int} {size : Int} {T : PyData} (f1 : F__law_deal [.dat (nI vs), .dat (.int size)] = .ok (.dat T, [.dat (nI vs), .dat (.int size)])) : sAsg (rvE (dCall 2 F__law_deal (aCons (oVal (dVar 1)) (aCons (oVal (dVar 2)) aNil)))) (tgN 3) (rE h vs size .no .no .no .no .no .no .no .no .no .no .no .no .no) = .next (rE h vs size (.dat T) .no .no .no .no .no .no .no .no .no .no .no .no) := by simp [sAsg, rvE, dCall, aCons, aNil, oVal, argsOf, argOf, ownsOf, callEn, Op.res, f1, tgN, ioAt]
theorem w_sure {h : Hd} {vs su ti : List Int} {size le : Int} {T : PyData} (f2 : F_deal_rests [.dat (nI vs), .dat (.int size)] = .ok (.dat (triD (su, ti, le)), [.dat (nI vs), .dat (.int size)])) : sAsg (rvE (dCall 2 F_deal_rests (aCons (oVal (dVar 1)) (aCons (oVal (dVar 2)) aNil)))) (tgT 3 (tgCons (tgN 4) (tgCons (tgN 5) (tgCons (tgN 6) tgNil)))) (rE h vs size (.dat T) .no .no .no .no .no .no .no .no .no .no .no .no) = .next (rE h vs size (.dat T) (.dat (nI su)) (.dat (nI ti)) (.dat (.int le)) .no .no .no .no .no .no .no .no .no) := by simp [sAsg, rvE, dCall, aCons, aNil, oVal, argsOf, argOf, ownsOf, callEn, Op.res, f2, tgT, tgCons, tgNil, tgN, ioAt]
end G
end
section
/-! the deals set right: joined -/
namespace G
open PySem PySem.Spec PD L2 Evl
theorem f_right {h : Hd} (h0 : 0 ≤ h.at_) {vs : List Int} {size : Int} (M : Mild vs size) : ∃ h', 0 ≤ Hd.at_ h' ∧ F__law_votes_right [h.sl true, .dat (nI vs), .dat (.int size)] = .ok (.dat (.bool true), [h'.sl true, .dat (nI vs), .dat (.int size)]) := by
  obtain ⟨su, ti, le, Z⟩ := facts_of M
  obtain ⟨m, hm⟩ : ∃ m : Int, (vs.length : Int) = m := ⟨_, rfl⟩
  obtain ⟨line, h1, a1, e1, p⟩ := f_mixed h0 (n := vs.length) hm.symm (by have := M.n6; omega)
  have e9 := f_draw a1 (n := 9) (by omega) (by omega)
  obtain ⟨g1, g2⟩ := draw_in h1 (n := 9) (by omega)
  have a2 := draw_at a1 9
  obtain ⟨a, b, c, d, e3⟩ := r_loop (h := h) M Z
  generalize (h1.draw 9).2 = h2 at *
  generalize (h1.draw 9).1 = k at *
  obtain ⟨e', e7⟩ := r_end (h := h2) (a := a) (b := b) (c := c) (d := d) (l := lI line) (o := triD (dealT (line.map (getI vs)) size)) (f := 2 + k) M Z
  refine ⟨h2, a2, ?_⟩
  have f1 := f_law_deal M.fair.two
  have f2 := f_mild M.fair Z.eq
  rw [Z.eq] at f1
  simp only [F__law_votes_right, runF, B__law_votes_right, N__law_votes_right, List.length_cons, List.length_nil, List.replicate, List.cons_append, List.nil_append]
  rw [seq_next (w_deal f1)]
  rw [seq_next (w_sure f2)]
  rw [seq_next (r_first M Z h0)]
  rw [seq_next w_whole]
  rw [seq_next e3]
  rw [seq_next (w_line hm e1)]
  rw [seq_next (r_other M Z p)]
  rw [seq_next (r_cmp M Z p)]
  rw [seq_next (w_nine e9)]
  rw [seq_next (r_scaled M Z (by omega) (by omega)), e7]
  simp [backArgs]
end G
end
section
/-! the four told deals -/
namespace G
open PySem PySem.Spec PD L2 Evl
theorem told1 : dealT [5, 3, 2] 4 = ([2, 1, 1], [], 0) := by decide +kernel
theorem told2 : dealT [1, 1] 3 = ([1, 1], [0, 1], 1) := by decide +kernel
theorem told3 : dealT [1, 0, 1] 1 = ([0, 0, 0], [0, 2], 1) := by decide +kernel
theorem told4 : dealT [7] 5 = ([5], [], 0) := by decide +kernel
theorem fair1 : Fair3 [5, 3, 2] 4 := fair_of (by decide) (by decide) (by decide) (by decide) (by decide)
theorem fair2 : Fair3 [1, 1] 3 := fair_of (by decide) (by decide) (by decide) (by decide) (by decide)
theorem fair3 : Fair3 [1, 0, 1] 1 := fair_of (by decide) (by decide) (by decide) (by decide) (by decide)
theorem fair4 : Fair3 [7] 5 := fair_of (by decide) (by decide) (by decide) (by decide) (by decide)
abbrev lE (ns : List Int) (h : Hd) (s2 s3 s4 s5 : Sl) : En := [.dat (lI ns), h.sl false, s2, s3, s4, s5]
abbrev toldL : List PyData := [triD ([2, 1, 1], [], 0), triD ([1, 1], [0, 1], 1), triD ([0, 0, 0], [0, 2], 1), triD ([5], [], 0)]
theorem l_told (ns : List Int) (h : Hd) : (sAsg (dFrz (dLst (aCons (oVal (rvE (dCall 2 F_deal_rests (aCons (oVal (dTup (aCons (oVal (dC (.int 5))) (aCons (oVal (dC (.int 3))) (aCons (oVal (dC (.int 2))) aNil))))) (aCons (oVal (dC (.int 4))) aNil))))) (aCons (oVal (rvE (dCall 2 F_deal_rests (aCons (oVal (dTup (aCons (oVal (dC (.int 1))) (aCons (oVal (dC (.int 1))) aNil)))) (aCons (oVal (dC (.int 3))) aNil))))) (aCons (oVal (rvE (dCall 2 F_deal_rests (aCons (oVal (dTup (aCons (oVal (dC (.int 1))) (aCons (oVal (dC (.int 0))) (aCons (oVal (dC (.int 1))) aNil))))) (aCons (oVal (dC (.int 1))) aNil))))) (aCons (oVal (rvE (dCall 2 F_deal_rests (aCons (oVal (dTup (aCons (oVal (dC (.int 7))) aNil))) (aCons (oVal (dC (.int 5))) aNil))))) aNil)))))) (tgN 2)) (lE ns h .no .no .no .no) = .next (lE ns h (.dat (.list toldL)) .no .no .no) := by
  have e1 := f_mild fair1 told1
  have e2 := f_mild fair2 told2
  have e3 := f_mild fair3 told3
  have e4 := f_mild fair4 told4
  simp only [nI, List.map_cons, List.map_nil] at e1 e2 e3 e4
  simp [sAsg, dFrz, dLst, dTup, rvE, dCall, aCons, aNil, oVal, dC, resAll, Op.res, vals, few, argsOf, argOf, ownsOf, callEn, e1, e2, e3, e4, tgN, ioAt]
end G
end
section
/-! the told deals compared -/
namespace G
open PySem PySem.Spec PD L2 Evl
theorem told_repr : pRepr [.list toldL] = .ok (.str (PyData.shown (.list toldL))) := by
  unfold pRepr
  exact if_pos ⟨by decide +kernel, by decide +kernel, by decide +kernel, by decide +kernel, by decide +kernel⟩
theorem told_txt : PyData.strOk (PyData.shown (.list toldL)) = true := by decide +kernel
theorem l_same (ns : List Int) (h : Hd) : (sIf (dB (d2 pNe (oVal (dA pRepr (aCons (oVal (dVar 2)) aNil))) (oVal (dA pRepr (aCons (oVal (dFrz (dLst (aCons (oVal (dTup (aCons (oVal (dTup (aCons (oVal (dC (.int 2))) (aCons (oVal (dC (.int 1))) (aCons (oVal (dC (.int 1))) aNil))))) (aCons (oVal (dTup aNil)) (aCons (oVal (dC (.int 0))) aNil))))) (aCons (oVal (dTup (aCons (oVal (dTup (aCons (oVal (dC (.int 1))) (aCons (oVal (dC (.int 1))) aNil)))) (aCons (oVal (dTup (aCons (oVal (dC (.int 0))) (aCons (oVal (dC (.int 1))) aNil)))) (aCons (oVal (dC (.int 1))) aNil))))) (aCons (oVal (dTup (aCons (oVal (dTup (aCons (oVal (dC (.int 0))) (aCons (oVal (dC (.int 0))) (aCons (oVal (dC (.int 0))) aNil))))) (aCons (oVal (dTup (aCons (oVal (dC (.int 0))) (aCons (oVal (dC (.int 2))) aNil)))) (aCons (oVal (dC (.int 1))) aNil))))) (aCons (oVal (dTup (aCons (oVal (dTup (aCons (oVal (dC (.int 5))) aNil))) (aCons (oVal (dTup aNil)) (aCons (oVal (dC (.int 0))) aNil))))) aNil))))))) aNil))))) (sRet (dC (.bool false))) sNext) (lE ns h (.dat (.list toldL)) .no .no .no) = .next (lE ns h (.dat (.list toldL)) .no .no .no) := by
  have e1 := told_repr
  have e0 := told_repr
  have e2 := ne_str told_txt
  generalize PyData.shown (.list toldL) = x at *
  simp only [toldL, triD, nI, List.map_cons, List.map_nil] at e1
  simp [sIf, dB, dFrz, dLst, d2, dA, dTup, aCons, aNil, oVal, dC, resAll, Op.res, vals, few, e0, e1, e2, sNext]
end G
end
section
/-! one turn -/
namespace G
open PySem PySem.Spec PD L2 Evl
theorem l_size {h : Hd} (h0 : 0 ≤ h.at_) (ns : List Int) (s3 s4 s5 : Sl) : ∃ (size : Int) (h' : Hd), 0 ≤ size ∧ size ≤ 100000000000000000000 ∧ 0 ≤ h'.at_ ∧ dCall 2 F__law_any (aCons (oVar 1) (aCons (oVal (dFrz (dLst (aCons (oVal (rvE (dCall 2 F__law_draw (aCons (oVar 1) (aCons (oVal (dC (.int 30))) aNil))))) (aCons (oVal (rvE (dCall 2 F__law_draw (aCons (oVar 1) (aCons (oVal (dC (.int 2000))) aNil))))) (aCons (oVal (d2 pPow (oVal (dC (.int 10))) (oVal (dC (.int 20))))) aNil)))))) aNil)) (lE ns h (.dat (.list toldL)) s3 s4 s5) = .ok (.dat (.int size), lE ns h' (.dat (.list toldL)) s3 s4 s5) := by
  have e1 := f_draw h0 (n := 30) (by omega) (by omega)
  obtain ⟨g1, g2⟩ := draw_in h (n := 30) (by omega)
  have a1 := draw_at h0 30
  generalize (h.draw 30).2 = h1 at *
  generalize (h.draw 30).1 = x at *
  have e2 := f_draw a1 (n := 2000) (by omega) (by omega)
  obtain ⟨g3, g4⟩ := draw_in h1 (n := 2000) (by omega)
  have a2 := draw_at a1 2000
  generalize (h1.draw 2000).2 = h2 at *
  generalize (h1.draw 2000).1 = y at *
  obtain ⟨d, h3, hd, a3, e3⟩ := f_any a2 (ds := [.int x, .int y, .int 100000000000000000000]) (by simp) (by simp)
  obtain ⟨z, rfl, z0, z1⟩ : ∃ z : Int, d = .int z ∧ 0 ≤ z ∧ z ≤ 100000000000000000000 := by
    simp only [List.mem_cons, List.not_mem_nil, or_false] at hd
    rcases hd with rfl | rfl | rfl <;> exact ⟨_, rfl, by omega, by omega⟩
  refine ⟨z, h3, z0, z1, a3, ?_⟩
  generalize toldL = tl
  simp [dCall, dFrz, dLst, rvE, aCons, aNil, oVar, oVal, dC, d2, pPow, resAll, Op.res, vals, few, argsOf, argOf, ownsOf, callEn, e1, e2, e3]
noncomputable def turnB : SemS := (sSeq (sPar 4 5 (dCall 1 F__law_votes (aCons (oVar 1) aNil)) (dCall 2 F__law_any (aCons (oVar 1) (aCons (oVal (dFrz (dLst (aCons (oVal (rvE (dCall 2 F__law_draw (aCons (oVar 1) (aCons (oVal (dC (.int 30))) aNil))))) (aCons (oVal (rvE (dCall 2 F__law_draw (aCons (oVar 1) (aCons (oVal (dC (.int 2000))) aNil))))) (aCons (oVal (d2 pPow (oVal (dC (.int 10))) (oVal (dC (.int 20))))) aNil)))))) aNil))))
  (sIf (dOr (dNot (dB (rvE (dCall 3 F__law_votes_right (aCons (oVar 1) (aCons (oVal (dVar 4)) (aCons (oVal (dVar 5)) aNil))))))) (dNot (dB (rvE (dCall 2 F__law_refused_right (aCons (oVar 1) (aCons (oVal (dVar 4)) aNil))))))) (sRet (dC (.bool false))) sNext))
theorem l_turn {h : Hd} (h0 : 0 ≤ h.at_) (ns : List Int) (x : PyData) (o4 o5 : Option PyData) : ∃ h' a b, 0 ≤ Hd.at_ h' ∧ turnB (lE ns h (.dat (.list toldL)) (.dat x) (os o4) (os o5)) = .next (lE ns h' (.dat (.list toldL)) (.dat x) (.dat a) (.dat b)) := by
  obtain ⟨vs, h1, a1, e1, n1, n6, vb, pos⟩ := f_lvotes h0
  obtain ⟨z, h2, z0, z1, a2, e2⟩ := l_size a1 ns (.dat x) (os o4) (os o5)
  have M : Mild vs z := ⟨n1, n6, fun v hv => by have := vb v hv; omega, pos, z0, z1⟩
  obtain ⟨h3, a3, e3⟩ := f_right a2 M
  obtain ⟨h4, a4, e4⟩ := f_refused a3 (okV_fair M.fair)
  refine ⟨h4, nI vs, .int z, a4, ?_⟩
  unfold turnB
  generalize dCall 2 F__law_any (aCons (oVar 1) (aCons (oVal (dFrz (dLst (aCons (oVal (rvE (dCall 2 F__law_draw (aCons (oVar 1) (aCons (oVal (dC (.int 30))) aNil))))) (aCons (oVal (rvE (dCall 2 F__law_draw (aCons (oVar 1) (aCons (oVal (dC (.int 2000))) aNil))))) (aCons (oVal (d2 pPow (oVal (dC (.int 10))) (oVal (dC (.int 20))))) aNil)))))) aNil)) = A at *
  rw [seq_next (e := lE ns h2 (.dat (.list toldL)) (.dat x) (.dat (nI vs)) (.dat (.int z))) (by
    generalize toldL = tl at *
    have e2 := e2
    cases o4 <;> cases o5 <;> simp [os] at e2 ⊢ <;> simp [sPar, dCall, aCons, aNil, oVar, argsOf, argOf, ownsOf, callEn, e1, e2, putE, ioAt, slOf])]
  generalize toldL = tl at *
  simp [sIf, dOr, dNot, dB, rvE, dCall, aCons, aNil, oVar, oVal, Op.res, argsOf, argOf, ownsOf, callEn, e3, e4, sNext]
end G
end
section
/-! the law -/
namespace G
open PySem PySem.Spec PD L2 Evl
theorem plain_law (ns : List Int) (hl : ns.length ≤ 63) (hb : ∀ z ∈ ns, Builtin.Int.intBits z ≤ 1048576) : ∃ as, F_law [.dat (.list (ns.map PyData.int))] = .ok (.dat (.bool true), as) := by
  obtain ⟨h, h0, e0⟩ := f_hand ns
  obtain ⟨⟨h5, o3, o4, o5⟩, e5, p5⟩ := for_state (S := Hd × Option PyData × Option PyData × Option PyData) (fun s => lE ns s.1 (.dat (.list toldL)) (os s.2.1) (os s.2.2.1) (os s.2.2.2))
    (g := tgN 3) (B := turnB) (fun i s => 0 ≤ s.1.at_) (numsFrom 0 5)
    (fun i x hx s hs => by
      obtain ⟨h', a, b, a1, e1⟩ := l_turn hs ns x s.2.2.1 s.2.2.2
      refine ⟨_, (h', some x, some a, some b), ?_, .inl e1, a1⟩
      cases s.2.1 <;> simp [tgN, ioAt, os]) (h, none, none, none) h0
  have it0 : itA rng1 (aCons (oVal (dC (.int 5))) aNil) (lE ns h (.dat (.list toldL)) .no .no .no) = .ok ((numsFrom 0 5, []), lE ns h (.dat (.list toldL)) .no .no .no) := by
    generalize toldL = tl
    simp [itA, aCons, aNil, oVal, dC, Op.res, resAll, rng1, in62, ownIx]
  have e6 := for_next it0 e5
  unfold turnB at e6
  refine ⟨[.dat (lI ns)], ?_⟩
  simp only [F_law, runF, B_law, N_law, List.length_cons, List.length_nil, List.replicate, List.cons_append, List.nil_append]
  rw [seq_next (e := lE ns h .no .no .no .no) (by simp [sOwn, rvN, dCall, aCons, aNil, oVal, argsOf, argOf, ownsOf, callEn, Op.res, e0, tgN, ioAt])]
  rw [seq_next (l_told ns h), seq_next (l_same ns h), seq_next e6]
  simp [sRet, dC, backArgs]
end G
end
section
namespace G
open LamX PySem PySem.Spec PyProof.Rows L2 Evl PD
/-- the law, from what the head tells -/
theorem mk_law {l : PySem.W.OpenLaw} {w : World} {K : PySem.W.Frag} {h : Heap} {mg : Str → Option Value} {fa : Addr} {n : Nat} {lv : List (Str × PySem.W.WData)}
    {a_is_int : Addr} {oc_is_int kV_is_int dc_is_int pm_is_int cd_is_int ct_is_int : Value} {od_is_int an_is_int : Option Addr} {sl_is_int : Array (Option Value)}
    {a_is_within : Addr} {oc_is_within kV_is_within dc_is_within pm_is_within cd_is_within ct_is_within : Value} {od_is_within an_is_within : Option Addr} {sl_is_within : Array (Option Value)}
    {a_check_size : Addr} {oc_check_size kV_check_size dc_check_size pm_check_size cd_check_size ct_check_size : Value} {od_check_size an_check_size : Option Addr} {sl_check_size : Array (Option Value)}
    {a_is_votes : Addr} {oc_is_votes kV_is_votes dc_is_votes pm_is_votes cd_is_votes ct_is_votes : Value} {od_is_votes an_is_votes : Option Addr} {sl_is_votes : Array (Option Value)}
    {a_check_votes : Addr} {oc_check_votes kV_check_votes dc_check_votes pm_check_votes cd_check_votes ct_check_votes : Value} {od_check_votes an_check_votes : Option Addr} {sl_check_votes : Array (Option Value)}
    {a_rests_deal : Addr} {oc_rests_deal kV_rests_deal dc_rests_deal pm_rests_deal cd_rests_deal ct_rests_deal : Value} {od_rests_deal an_rests_deal : Option Addr} {sl_rests_deal : Array (Option Value)}
    {a_deal_rests : Addr} {oc_deal_rests kV_deal_rests dc_deal_rests pm_deal_rests cd_deal_rests ct_deal_rests : Value} {od_deal_rests an_deal_rests : Option Addr} {sl_deal_rests : Array (Option Value)}
    {a__law_hand : Addr} {oc__law_hand kV__law_hand dc__law_hand pm__law_hand cd__law_hand ct__law_hand : Value} {od__law_hand an__law_hand : Option Addr} {sl__law_hand : Array (Option Value)}
    {a__law_draw : Addr} {oc__law_draw kV__law_draw dc__law_draw pm__law_draw cd__law_draw ct__law_draw : Value} {od__law_draw an__law_draw : Option Addr} {sl__law_draw : Array (Option Value)}
    {a__law_any : Addr} {oc__law_any kV__law_any dc__law_any pm__law_any cd__law_any ct__law_any : Value} {od__law_any an__law_any : Option Addr} {sl__law_any : Array (Option Value)}
    {a__law_votes : Addr} {oc__law_votes kV__law_votes dc__law_votes pm__law_votes cd__law_votes ct__law_votes : Value} {od__law_votes an__law_votes : Option Addr} {sl__law_votes : Array (Option Value)}
    {a__law_deal : Addr} {oc__law_deal kV__law_deal dc__law_deal pm__law_deal cd__law_deal ct__law_deal : Value} {od__law_deal an__law_deal : Option Addr} {sl__law_deal : Array (Option Value)}
    {a__law_mixed : Addr} {oc__law_mixed kV__law_mixed dc__law_mixed pm__law_mixed cd__law_mixed ct__law_mixed : Value} {od__law_mixed an__law_mixed : Option Addr} {sl__law_mixed : Array (Option Value)}
    {a__law_votes_right : Addr} {oc__law_votes_right kV__law_votes_right dc__law_votes_right pm__law_votes_right cd__law_votes_right ct__law_votes_right : Value} {od__law_votes_right an__law_votes_right : Option Addr} {sl__law_votes_right : Array (Option Value)}
    {a__law_said : Addr} {oc__law_said kV__law_said dc__law_said pm__law_said cd__law_said ct__law_said : Value} {od__law_said an__law_said : Option Addr} {sl__law_said : Array (Option Value)}
    {a__law_two_said : Addr} {oc__law_two_said kV__law_two_said dc__law_two_said pm__law_two_said ct__law_two_said : Value} {od__law_two_said an__law_two_said : Option Addr} {sl__law_two_said : Array (Option Value)}
    {c__law_two_said P__law_two_said : Addr}
    {a__law_refused_right : Addr} {oc__law_refused_right kV__law_refused_right dc__law_refused_right pm__law_refused_right cd__law_refused_right ct__law_refused_right : Value} {od__law_refused_right an__law_refused_right : Option Addr} {sl__law_refused_right : Array (Option Value)}
    {a_law : Addr} {oc_law kV_law dc_law pm_law cd_law ct_law : Value} {od_law an_law : Option Addr} {sl_law : Array (Option Value)}
    {tk_MOST_PARTIES : Tok}
    {e_BadVotes : Addr}
    {e_ChairError : Addr}
    {e_NoSize : Addr}
    (X : K.In h) (Gm : h.Ns mainGlobals mg) (hfa : mg "law" = some (.ref fa)) (LL : PySem.W.LooseAre lv mg h) (tabs : ∀ p ∈ ([P__law_two_said] : List Addr), h.get? p = some { cls := .none, data := .fields #[] })
    (plain : ∀ ns : List Int, ns.length ≤ n → (∀ z ∈ ns, Builtin.Int.intBits z ≤ 1048576) → ∃ as, F_law [.dat (.list (ns.map PyData.int))] = .ok (.dat (.bool true), as))
    (n_is_int : PySem.W.nsIn K mainGlobals "is_int" = some (some (.ref a_is_int)))
    (l_is_int : K.lookup a_is_int = some ⟨oc_is_int, od_is_int, .func (PySem.W.fnOf "is_int" "is_int" (defArgs s_is_int) (defBody s_is_int) (defScope s_is_int) .none kV_is_int dc_is_int pm_is_int an_is_int cd_is_int ct_is_int), sl_is_int⟩)
    (h_is_int : PySem.W.codeIn K cd_is_int "is_int" = true)
    (k_is_int : PySem.W.keepIn K (.ref a_is_int) = true)
    (n_is_within : PySem.W.nsIn K mainGlobals "is_within" = some (some (.ref a_is_within)))
    (l_is_within : K.lookup a_is_within = some ⟨oc_is_within, od_is_within, .func (PySem.W.fnOf "is_within" "is_within" (defArgs s_is_within) (defBody s_is_within) (defScope s_is_within) .none kV_is_within dc_is_within pm_is_within an_is_within cd_is_within ct_is_within), sl_is_within⟩)
    (h_is_within : PySem.W.codeIn K cd_is_within "is_within" = true)
    (k_is_within : PySem.W.keepIn K (.ref a_is_within) = true)
    (n_check_size : PySem.W.nsIn K mainGlobals "check_size" = some (some (.ref a_check_size)))
    (l_check_size : K.lookup a_check_size = some ⟨oc_check_size, od_check_size, .func (PySem.W.fnOf "check_size" "check_size" (defArgs s_check_size) (defBody s_check_size) (defScope s_check_size) .none kV_check_size dc_check_size pm_check_size an_check_size cd_check_size ct_check_size), sl_check_size⟩)
    (h_check_size : PySem.W.codeIn K cd_check_size "check_size" = true)
    (k_check_size : PySem.W.keepIn K (.ref a_check_size) = true)
    (n_is_votes : PySem.W.nsIn K mainGlobals "is_votes" = some (some (.ref a_is_votes)))
    (l_is_votes : K.lookup a_is_votes = some ⟨oc_is_votes, od_is_votes, .func (PySem.W.fnOf "is_votes" "is_votes" (defArgs s_is_votes) (defBody s_is_votes) (defScope s_is_votes) .none kV_is_votes dc_is_votes pm_is_votes an_is_votes cd_is_votes ct_is_votes), sl_is_votes⟩)
    (h_is_votes : PySem.W.codeIn K cd_is_votes "is_votes" = true)
    (k_is_votes : PySem.W.keepIn K (.ref a_is_votes) = true)
    (n_check_votes : PySem.W.nsIn K mainGlobals "check_votes" = some (some (.ref a_check_votes)))
    (l_check_votes : K.lookup a_check_votes = some ⟨oc_check_votes, od_check_votes, .func (PySem.W.fnOf "check_votes" "check_votes" (defArgs s_check_votes) (defBody s_check_votes) (defScope s_check_votes) .none kV_check_votes dc_check_votes pm_check_votes an_check_votes cd_check_votes ct_check_votes), sl_check_votes⟩)
    (h_check_votes : PySem.W.codeIn K cd_check_votes "check_votes" = true)
    (k_check_votes : PySem.W.keepIn K (.ref a_check_votes) = true)
    (n_rests_deal : PySem.W.nsIn K mainGlobals "rests_deal" = some (some (.ref a_rests_deal)))
    (l_rests_deal : K.lookup a_rests_deal = some ⟨oc_rests_deal, od_rests_deal, .func (PySem.W.fnOf "rests_deal" "rests_deal" (defArgs s_rests_deal) (defBody s_rests_deal) (defScope s_rests_deal) .none kV_rests_deal dc_rests_deal pm_rests_deal an_rests_deal cd_rests_deal ct_rests_deal), sl_rests_deal⟩)
    (h_rests_deal : PySem.W.codeIn K cd_rests_deal "rests_deal" = true)
    (k_rests_deal : PySem.W.keepIn K (.ref a_rests_deal) = true)
    (n_deal_rests : PySem.W.nsIn K mainGlobals "deal_rests" = some (some (.ref a_deal_rests)))
    (l_deal_rests : K.lookup a_deal_rests = some ⟨oc_deal_rests, od_deal_rests, .func (PySem.W.fnOf "deal_rests" "deal_rests" (defArgs s_deal_rests) (defBody s_deal_rests) (defScope s_deal_rests) .none kV_deal_rests dc_deal_rests pm_deal_rests an_deal_rests cd_deal_rests ct_deal_rests), sl_deal_rests⟩)
    (h_deal_rests : PySem.W.codeIn K cd_deal_rests "deal_rests" = true)
    (k_deal_rests : PySem.W.keepIn K (.ref a_deal_rests) = true)
    (n__law_hand : PySem.W.nsIn K mainGlobals "_law_hand" = some (some (.ref a__law_hand)))
    (l__law_hand : K.lookup a__law_hand = some ⟨oc__law_hand, od__law_hand, .func (PySem.W.fnOf "_law_hand" "_law_hand" (defArgs s__law_hand) (defBody s__law_hand) (defScope s__law_hand) .none kV__law_hand dc__law_hand pm__law_hand an__law_hand cd__law_hand ct__law_hand), sl__law_hand⟩)
    (h__law_hand : PySem.W.codeIn K cd__law_hand "_law_hand" = true)
    (k__law_hand : PySem.W.keepIn K (.ref a__law_hand) = true)
    (n__law_draw : PySem.W.nsIn K mainGlobals "_law_draw" = some (some (.ref a__law_draw)))
    (l__law_draw : K.lookup a__law_draw = some ⟨oc__law_draw, od__law_draw, .func (PySem.W.fnOf "_law_draw" "_law_draw" (defArgs s__law_draw) (defBody s__law_draw) (defScope s__law_draw) .none kV__law_draw dc__law_draw pm__law_draw an__law_draw cd__law_draw ct__law_draw), sl__law_draw⟩)
    (h__law_draw : PySem.W.codeIn K cd__law_draw "_law_draw" = true)
    (k__law_draw : PySem.W.keepIn K (.ref a__law_draw) = true)
    (n__law_any : PySem.W.nsIn K mainGlobals "_law_any" = some (some (.ref a__law_any)))
    (l__law_any : K.lookup a__law_any = some ⟨oc__law_any, od__law_any, .func (PySem.W.fnOf "_law_any" "_law_any" (defArgs s__law_any) (defBody s__law_any) (defScope s__law_any) .none kV__law_any dc__law_any pm__law_any an__law_any cd__law_any ct__law_any), sl__law_any⟩)
    (h__law_any : PySem.W.codeIn K cd__law_any "_law_any" = true)
    (k__law_any : PySem.W.keepIn K (.ref a__law_any) = true)
    (n__law_votes : PySem.W.nsIn K mainGlobals "_law_votes" = some (some (.ref a__law_votes)))
    (l__law_votes : K.lookup a__law_votes = some ⟨oc__law_votes, od__law_votes, .func (PySem.W.fnOf "_law_votes" "_law_votes" (defArgs s__law_votes) (defBody s__law_votes) (defScope s__law_votes) .none kV__law_votes dc__law_votes pm__law_votes an__law_votes cd__law_votes ct__law_votes), sl__law_votes⟩)
    (h__law_votes : PySem.W.codeIn K cd__law_votes "_law_votes" = true)
    (k__law_votes : PySem.W.keepIn K (.ref a__law_votes) = true)
    (n__law_deal : PySem.W.nsIn K mainGlobals "_law_deal" = some (some (.ref a__law_deal)))
    (l__law_deal : K.lookup a__law_deal = some ⟨oc__law_deal, od__law_deal, .func (PySem.W.fnOf "_law_deal" "_law_deal" (defArgs s__law_deal) (defBody s__law_deal) (defScope s__law_deal) .none kV__law_deal dc__law_deal pm__law_deal an__law_deal cd__law_deal ct__law_deal), sl__law_deal⟩)
    (h__law_deal : PySem.W.codeIn K cd__law_deal "_law_deal" = true)
    (k__law_deal : PySem.W.keepIn K (.ref a__law_deal) = true)
    (n__law_mixed : PySem.W.nsIn K mainGlobals "_law_mixed" = some (some (.ref a__law_mixed)))
    (l__law_mixed : K.lookup a__law_mixed = some ⟨oc__law_mixed, od__law_mixed, .func (PySem.W.fnOf "_law_mixed" "_law_mixed" (defArgs s__law_mixed) (defBody s__law_mixed) (defScope s__law_mixed) .none kV__law_mixed dc__law_mixed pm__law_mixed an__law_mixed cd__law_mixed ct__law_mixed), sl__law_mixed⟩)
    (h__law_mixed : PySem.W.codeIn K cd__law_mixed "_law_mixed" = true)
    (k__law_mixed : PySem.W.keepIn K (.ref a__law_mixed) = true)
    (n__law_votes_right : PySem.W.nsIn K mainGlobals "_law_votes_right" = some (some (.ref a__law_votes_right)))
    (l__law_votes_right : K.lookup a__law_votes_right = some ⟨oc__law_votes_right, od__law_votes_right, .func (PySem.W.fnOf "_law_votes_right" "_law_votes_right" (defArgs s__law_votes_right) (defBody s__law_votes_right) (defScope s__law_votes_right) .none kV__law_votes_right dc__law_votes_right pm__law_votes_right an__law_votes_right cd__law_votes_right ct__law_votes_right), sl__law_votes_right⟩)
    (h__law_votes_right : PySem.W.codeIn K cd__law_votes_right "_law_votes_right" = true)
    (k__law_votes_right : PySem.W.keepIn K (.ref a__law_votes_right) = true)
    (n__law_said : PySem.W.nsIn K mainGlobals "_law_said" = some (some (.ref a__law_said)))
    (l__law_said : K.lookup a__law_said = some ⟨oc__law_said, od__law_said, .func (PySem.W.fnOf "_law_said" "_law_said" (defArgs s__law_said) (defBody s__law_said) (defScope s__law_said) .none kV__law_said dc__law_said pm__law_said an__law_said cd__law_said ct__law_said), sl__law_said⟩)
    (h__law_said : PySem.W.codeIn K cd__law_said "_law_said" = true)
    (k__law_said : PySem.W.keepIn K (.ref a__law_said) = true)
    (n__law_two_said : PySem.W.nsIn K mainGlobals "_law_two_said" = some (some (.ref a__law_two_said)))
    (l__law_two_said : K.lookup a__law_two_said = some ⟨oc__law_two_said, od__law_two_said, .func (PySem.W.fnOf "_law_two_said" "_law_two_said" (defArgs s__law_two_said) (defBody s__law_two_said) (defScope s__law_two_said) .none kV__law_two_said dc__law_two_said pm__law_two_said an__law_two_said (.ref c__law_two_said) ct__law_two_said), sl__law_two_said⟩)
    (h__law_two_said : PySem.W.codeIn K (.ref c__law_two_said) "_law_two_said" = true)
    (k__law_two_said : PySem.W.keepIn K (.ref a__law_two_said) = true)
    (n__law_refused_right : PySem.W.nsIn K mainGlobals "_law_refused_right" = some (some (.ref a__law_refused_right)))
    (l__law_refused_right : K.lookup a__law_refused_right = some ⟨oc__law_refused_right, od__law_refused_right, .func (PySem.W.fnOf "_law_refused_right" "_law_refused_right" (defArgs s__law_refused_right) (defBody s__law_refused_right) (defScope s__law_refused_right) .none kV__law_refused_right dc__law_refused_right pm__law_refused_right an__law_refused_right cd__law_refused_right ct__law_refused_right), sl__law_refused_right⟩)
    (h__law_refused_right : PySem.W.codeIn K cd__law_refused_right "_law_refused_right" = true)
    (k__law_refused_right : PySem.W.keepIn K (.ref a__law_refused_right) = true)
    (n_law : PySem.W.nsIn K mainGlobals "law" = some (some (.ref a_law)))
    (l_law : K.lookup a_law = some ⟨oc_law, od_law, .func (PySem.W.fnOf "law" "law" (defArgs s_law) (defBody s_law) (defScope s_law) .none kV_law dc_law pm_law an_law cd_law ct_law), sl_law⟩)
    (h_law : PySem.W.codeIn K cd_law "law" = true)
    (k_law : PySem.W.keepIn K (.ref a_law) = true)
    (v_MOST_SIZE : (("MOST_SIZE" : Str), PySem.W.WData.int 1000000000000000000000000000000) ∈ lv)
    (v_MOST_PARTIES : PySem.W.nsIn K mainGlobals "MOST_PARTIES" = some (some (.int 200 tk_MOST_PARTIES)))
    (v_MOST_VOTES : (("MOST_VOTES" : Str), PySem.W.WData.int 1000000000000000) ∈ lv)
    (n_abs : PySem.W.nsIn K mainGlobals "abs" = some none)
    (n_all : PySem.W.nsIn K mainGlobals "all" = some none)
    (n_any : PySem.W.nsIn K mainGlobals "any" = some none)
    (n_bool : PySem.W.nsIn K mainGlobals "bool" = some none)
    (n_enumerate : PySem.W.nsIn K mainGlobals "enumerate" = some none)
    (n_int : PySem.W.nsIn K mainGlobals "int" = some none)
    (n_isinstance : PySem.W.nsIn K mainGlobals "isinstance" = some none)
    (n_len : PySem.W.nsIn K mainGlobals "len" = some none)
    (n_range : PySem.W.nsIn K mainGlobals "range" = some none)
    (n_repr : PySem.W.nsIn K mainGlobals "repr" = some none)
    (n_sorted : PySem.W.nsIn K mainGlobals "sorted" = some none)
    (n_sum : PySem.W.nsIn K mainGlobals "sum" = some none)
    (n_tuple : PySem.W.nsIn K mainGlobals "tuple" = some none)
    (n_zip : PySem.W.nsIn K mainGlobals "zip" = some none)
    (n_ValueError : PySem.W.nsIn K mainGlobals "ValueError" = some none)
    (n_BadVotes : PySem.W.nsIn K mainGlobals "BadVotes" = some (some (.ref e_BadVotes)))
    (s_BadVotes : PySem.W.subIn K (.ref e_BadVotes) (.type "BaseException") = some true)
    (y_BadVotes : PySem.W.typeIn K (.ref e_BadVotes) = some (.type "type"))
    (k_BadVotes : PySem.W.keepIn K (.ref e_BadVotes) = true)
    (q_BadVotes : PySem.W.excIn K e_BadVotes He.veBase "ValueError.__new__" = true)
    (d_BadVotes : PySem.W.hasDictIn K e_BadVotes = true)
    (xg_BadVotes : PySem.W.findIn K (.ref e_BadVotes) "__getattribute__" = some (some (.builtin "BaseException.__getattribute__")))
    (xk_BadVotes : PySem.W.findIn K (.ref e_BadVotes) "__getattr__" = some none)
    (xa_BadVotes : PySem.W.findIn K (.ref e_BadVotes) "__class__" = some (some (.builtin "object.__class__")))
    (xn_BadVotes : PySem.W.specialIn K (.builtin "object.__class__") "__get__" = some (some (.builtin "getset_descriptor.__get__")))
    (xt_BadVotes : PySem.W.takesIn K (.builtin "object.__class__") = some true)
    (xm_BadVotes : PySem.W.mroIn K e_BadVotes (.type "object") = some true)
    (n_ChairError : PySem.W.nsIn K mainGlobals "ChairError" = some (some (.ref e_ChairError)))
    (s_ChairError : PySem.W.subIn K (.ref e_ChairError) (.type "BaseException") = some true)
    (y_ChairError : PySem.W.typeIn K (.ref e_ChairError) = some (.type "type"))
    (d_ChairError : PySem.W.hasDictIn K e_ChairError = true)
    (n_NoSize : PySem.W.nsIn K mainGlobals "NoSize" = some (some (.ref e_NoSize)))
    (s_NoSize : PySem.W.subIn K (.ref e_NoSize) (.type "BaseException") = some true)
    (y_NoSize : PySem.W.typeIn K (.ref e_NoSize) = some (.type "type"))
    (k_NoSize : PySem.W.keepIn K (.ref e_NoSize) = true)
    (q_NoSize : PySem.W.excIn K e_NoSize He.veBase "ValueError.__new__" = true)
    (d_NoSize : PySem.W.hasDictIn K e_NoSize = true)
    (xg_NoSize : PySem.W.findIn K (.ref e_NoSize) "__getattribute__" = some (some (.builtin "BaseException.__getattribute__")))
    (xk_NoSize : PySem.W.findIn K (.ref e_NoSize) "__getattr__" = some none)
    (xa_NoSize : PySem.W.findIn K (.ref e_NoSize) "__class__" = some (some (.builtin "object.__class__")))
    (xn_NoSize : PySem.W.specialIn K (.builtin "object.__class__") "__get__" = some (some (.builtin "getset_descriptor.__get__")))
    (xt_NoSize : PySem.W.takesIn K (.builtin "object.__class__") = some true)
    (xm_NoSize : PySem.W.mroIn K e_NoSize (.type "object") = some true)
    (b_BadVotes : PySem.W.subIn K (.ref e_BadVotes) (.ref e_ChairError) = some true)
    (b_NoSize : PySem.W.subIn K (.ref e_NoSize) (.ref e_ChairError) = some true)
    (i_BadVotes_BadVotes : PySem.W.kitOne K (.ref e_BadVotes) (.ref e_BadVotes) = some true)
    (i_BadVotes_NoSize : PySem.W.kitOne K (.ref e_BadVotes) (.ref e_NoSize) = some false)
    (i_BadVotes_ValueError : PySem.W.kitOne K (.ref e_BadVotes) (.type "ValueError") = some true)
    (i_NoSize_BadVotes : PySem.W.kitOne K (.ref e_NoSize) (.ref e_BadVotes) = some false)
    (i_NoSize_NoSize : PySem.W.kitOne K (.ref e_NoSize) (.ref e_NoSize) = some true)
    (i_NoSize_ValueError : PySem.W.kitOne K (.ref e_NoSize) (.type "ValueError") = some true)
    (t__law_two_said : K.lookup P__law_two_said = none)
    (z__law_two_said : PySem.W.codeHdIn K c__law_two_said P__law_two_said = true)
    (ndT : ([P__law_two_said] : List Addr).Nodup)
    (klst : noLists K = true)
    : LawG l w K (L2.CX l.prog w) 10 n "script" mg fa h := by
  obtain ⟨q_MOST_SIZE, w_MOST_SIZE⟩ := loose_int LL v_MOST_SIZE
  obtain ⟨q_MOST_VOTES, w_MOST_VOTES⟩ := loose_int LL v_MOST_VOTES
  have e : a_law = fa := (Value.ref.inj (Option.some.inj (hfa.symm.trans (PySem.W.mg_of X Gm n_law)))).symm
  subst e
  let t : Tx K mg := {
    a_is_int := a_is_int, d_is_int := (PySem.W.fnOf "is_int" "is_int" (defArgs s_is_int) (defBody s_is_int) (defScope s_is_int) .none kV_is_int dc_is_int pm_is_int an_is_int cd_is_int ct_is_int), F_is_int := fun_mk (st := s_is_int) l_is_int h_is_int k_is_int, g_is_int := PySem.W.mg_of X Gm n_is_int,
    a_is_within := a_is_within, d_is_within := (PySem.W.fnOf "is_within" "is_within" (defArgs s_is_within) (defBody s_is_within) (defScope s_is_within) .none kV_is_within dc_is_within pm_is_within an_is_within cd_is_within ct_is_within), F_is_within := fun_mk (st := s_is_within) l_is_within h_is_within k_is_within, g_is_within := PySem.W.mg_of X Gm n_is_within,
    a_check_size := a_check_size, d_check_size := (PySem.W.fnOf "check_size" "check_size" (defArgs s_check_size) (defBody s_check_size) (defScope s_check_size) .none kV_check_size dc_check_size pm_check_size an_check_size cd_check_size ct_check_size), F_check_size := fun_mk (st := s_check_size) l_check_size h_check_size k_check_size, g_check_size := PySem.W.mg_of X Gm n_check_size,
    a_is_votes := a_is_votes, d_is_votes := (PySem.W.fnOf "is_votes" "is_votes" (defArgs s_is_votes) (defBody s_is_votes) (defScope s_is_votes) .none kV_is_votes dc_is_votes pm_is_votes an_is_votes cd_is_votes ct_is_votes), F_is_votes := fun_mk (st := s_is_votes) l_is_votes h_is_votes k_is_votes, g_is_votes := PySem.W.mg_of X Gm n_is_votes,
    a_check_votes := a_check_votes, d_check_votes := (PySem.W.fnOf "check_votes" "check_votes" (defArgs s_check_votes) (defBody s_check_votes) (defScope s_check_votes) .none kV_check_votes dc_check_votes pm_check_votes an_check_votes cd_check_votes ct_check_votes), F_check_votes := fun_mk (st := s_check_votes) l_check_votes h_check_votes k_check_votes, g_check_votes := PySem.W.mg_of X Gm n_check_votes,
    a_rests_deal := a_rests_deal, d_rests_deal := (PySem.W.fnOf "rests_deal" "rests_deal" (defArgs s_rests_deal) (defBody s_rests_deal) (defScope s_rests_deal) .none kV_rests_deal dc_rests_deal pm_rests_deal an_rests_deal cd_rests_deal ct_rests_deal), F_rests_deal := fun_mk (st := s_rests_deal) l_rests_deal h_rests_deal k_rests_deal, g_rests_deal := PySem.W.mg_of X Gm n_rests_deal,
    a_deal_rests := a_deal_rests, d_deal_rests := (PySem.W.fnOf "deal_rests" "deal_rests" (defArgs s_deal_rests) (defBody s_deal_rests) (defScope s_deal_rests) .none kV_deal_rests dc_deal_rests pm_deal_rests an_deal_rests cd_deal_rests ct_deal_rests), F_deal_rests := fun_mk (st := s_deal_rests) l_deal_rests h_deal_rests k_deal_rests, g_deal_rests := PySem.W.mg_of X Gm n_deal_rests,
    a__law_hand := a__law_hand, d__law_hand := (PySem.W.fnOf "_law_hand" "_law_hand" (defArgs s__law_hand) (defBody s__law_hand) (defScope s__law_hand) .none kV__law_hand dc__law_hand pm__law_hand an__law_hand cd__law_hand ct__law_hand), F__law_hand := fun_mk (st := s__law_hand) l__law_hand h__law_hand k__law_hand, g__law_hand := PySem.W.mg_of X Gm n__law_hand,
    a__law_draw := a__law_draw, d__law_draw := (PySem.W.fnOf "_law_draw" "_law_draw" (defArgs s__law_draw) (defBody s__law_draw) (defScope s__law_draw) .none kV__law_draw dc__law_draw pm__law_draw an__law_draw cd__law_draw ct__law_draw), F__law_draw := fun_mk (st := s__law_draw) l__law_draw h__law_draw k__law_draw, g__law_draw := PySem.W.mg_of X Gm n__law_draw,
    a__law_any := a__law_any, d__law_any := (PySem.W.fnOf "_law_any" "_law_any" (defArgs s__law_any) (defBody s__law_any) (defScope s__law_any) .none kV__law_any dc__law_any pm__law_any an__law_any cd__law_any ct__law_any), F__law_any := fun_mk (st := s__law_any) l__law_any h__law_any k__law_any, g__law_any := PySem.W.mg_of X Gm n__law_any,
    a__law_votes := a__law_votes, d__law_votes := (PySem.W.fnOf "_law_votes" "_law_votes" (defArgs s__law_votes) (defBody s__law_votes) (defScope s__law_votes) .none kV__law_votes dc__law_votes pm__law_votes an__law_votes cd__law_votes ct__law_votes), F__law_votes := fun_mk (st := s__law_votes) l__law_votes h__law_votes k__law_votes, g__law_votes := PySem.W.mg_of X Gm n__law_votes,
    a__law_deal := a__law_deal, d__law_deal := (PySem.W.fnOf "_law_deal" "_law_deal" (defArgs s__law_deal) (defBody s__law_deal) (defScope s__law_deal) .none kV__law_deal dc__law_deal pm__law_deal an__law_deal cd__law_deal ct__law_deal), F__law_deal := fun_mk (st := s__law_deal) l__law_deal h__law_deal k__law_deal, g__law_deal := PySem.W.mg_of X Gm n__law_deal,
    a__law_mixed := a__law_mixed, d__law_mixed := (PySem.W.fnOf "_law_mixed" "_law_mixed" (defArgs s__law_mixed) (defBody s__law_mixed) (defScope s__law_mixed) .none kV__law_mixed dc__law_mixed pm__law_mixed an__law_mixed cd__law_mixed ct__law_mixed), F__law_mixed := fun_mk (st := s__law_mixed) l__law_mixed h__law_mixed k__law_mixed, g__law_mixed := PySem.W.mg_of X Gm n__law_mixed,
    a__law_votes_right := a__law_votes_right, d__law_votes_right := (PySem.W.fnOf "_law_votes_right" "_law_votes_right" (defArgs s__law_votes_right) (defBody s__law_votes_right) (defScope s__law_votes_right) .none kV__law_votes_right dc__law_votes_right pm__law_votes_right an__law_votes_right cd__law_votes_right ct__law_votes_right), F__law_votes_right := fun_mk (st := s__law_votes_right) l__law_votes_right h__law_votes_right k__law_votes_right, g__law_votes_right := PySem.W.mg_of X Gm n__law_votes_right,
    a__law_said := a__law_said, d__law_said := (PySem.W.fnOf "_law_said" "_law_said" (defArgs s__law_said) (defBody s__law_said) (defScope s__law_said) .none kV__law_said dc__law_said pm__law_said an__law_said cd__law_said ct__law_said), F__law_said := fun_mk (st := s__law_said) l__law_said h__law_said k__law_said, g__law_said := PySem.W.mg_of X Gm n__law_said,
    a__law_two_said := a__law_two_said, d__law_two_said := (PySem.W.fnOf "_law_two_said" "_law_two_said" (defArgs s__law_two_said) (defBody s__law_two_said) (defScope s__law_two_said) .none kV__law_two_said dc__law_two_said pm__law_two_said an__law_two_said (.ref c__law_two_said) ct__law_two_said), F__law_two_said := fun_mk (st := s__law_two_said) l__law_two_said h__law_two_said k__law_two_said, g__law_two_said := PySem.W.mg_of X Gm n__law_two_said,
    a__law_refused_right := a__law_refused_right, d__law_refused_right := (PySem.W.fnOf "_law_refused_right" "_law_refused_right" (defArgs s__law_refused_right) (defBody s__law_refused_right) (defScope s__law_refused_right) .none kV__law_refused_right dc__law_refused_right pm__law_refused_right an__law_refused_right cd__law_refused_right ct__law_refused_right), F__law_refused_right := fun_mk (st := s__law_refused_right) l__law_refused_right h__law_refused_right k__law_refused_right, g__law_refused_right := PySem.W.mg_of X Gm n__law_refused_right,
    a_law := a_law, d_law := (PySem.W.fnOf "law" "law" (defArgs s_law) (defBody s_law) (defScope s_law) .none kV_law dc_law pm_law an_law cd_law ct_law), F_law := fun_mk (st := s_law) l_law h_law k_law, g_law := PySem.W.mg_of X Gm n_law,
    k_MOST_SIZE := q_MOST_SIZE, c_MOST_SIZE := w_MOST_SIZE,
    k_MOST_PARTIES := tk_MOST_PARTIES, c_MOST_PARTIES := PySem.W.mg_of X Gm v_MOST_PARTIES,
    k_MOST_VOTES := q_MOST_VOTES, c_MOST_VOTES := w_MOST_VOTES,
    n_abs := PySem.W.mg_none_of X Gm n_abs,
    n_all := PySem.W.mg_none_of X Gm n_all,
    n_any := PySem.W.mg_none_of X Gm n_any,
    n_bool := PySem.W.mg_none_of X Gm n_bool,
    n_enumerate := PySem.W.mg_none_of X Gm n_enumerate,
    n_int := PySem.W.mg_none_of X Gm n_int,
    n_isinstance := PySem.W.mg_none_of X Gm n_isinstance,
    n_len := PySem.W.mg_none_of X Gm n_len,
    n_range := PySem.W.mg_none_of X Gm n_range,
    n_repr := PySem.W.mg_none_of X Gm n_repr,
    n_sorted := PySem.W.mg_none_of X Gm n_sorted,
    n_sum := PySem.W.mg_none_of X Gm n_sum,
    n_tuple := PySem.W.mg_none_of X Gm n_tuple,
    n_zip := PySem.W.mg_none_of X Gm n_zip,
    n_ValueError := PySem.W.mg_none_of X Gm n_ValueError,
    e_BadVotes := e_BadVotes, g_BadVotes := PySem.W.mg_of X Gm n_BadVotes,
    k_BadVotes := k_BadVotes, q_BadVotes := q_BadVotes, s_BadVotes := s_BadVotes, y_BadVotes := y_BadVotes,
    x_BadVotes := ⟨xg_BadVotes, xk_BadVotes, s_BadVotes, d_BadVotes, xa_BadVotes, xn_BadVotes, xt_BadVotes, xm_BadVotes⟩,
    e_ChairError := e_ChairError, g_ChairError := PySem.W.mg_of X Gm n_ChairError,
    e_NoSize := e_NoSize, g_NoSize := PySem.W.mg_of X Gm n_NoSize,
    k_NoSize := k_NoSize, q_NoSize := q_NoSize, s_NoSize := s_NoSize, y_NoSize := y_NoSize,
    x_NoSize := ⟨xg_NoSize, xk_NoSize, s_NoSize, d_NoSize, xa_NoSize, xn_NoSize, xt_NoSize, xm_NoSize⟩,
    m_BadVotes := PySem.W.exm_ref s_ChairError d_ChairError y_ChairError b_BadVotes,
    m_NoSize := PySem.W.exm_ref s_ChairError d_ChairError y_ChairError b_NoSize,
    i_BadVotes_BadVotes := i_BadVotes_BadVotes,
    i_BadVotes_NoSize := i_BadVotes_NoSize,
    i_BadVotes_ValueError := i_BadVotes_ValueError,
    i_NoSize_BadVotes := i_NoSize_BadVotes,
    i_NoSize_NoSize := i_NoSize_NoSize,
    i_NoSize_ValueError := i_NoSize_ValueError,
    c__law_two_said := c__law_two_said, P__law_two_said := P__law_two_said, H__law_two_said := ⟨⟨oc__law_two_said, od__law_two_said, kV__law_two_said, dc__law_two_said, pm__law_two_said, an__law_two_said, ct__law_two_said, sl__law_two_said, rfl, l__law_two_said, h__law_two_said⟩, k__law_two_said⟩,
    nd := ndT }
  refine ⟨t.d_law, t.cs, _, fun p hp => tabs p.2 ?_, fun p hp => ?_, fun p hp => ?_, fun s u => .of_eq rfl, fun b o e z => ?_, fun H a ns hl hb hT hS => ?_, fun base kb nb tb => ok_law t tb⟩
  · simp only [Tx.cs, t, List.mem_cons, List.not_mem_nil, or_false] at hp
    simp only [List.mem_cons, List.not_mem_nil, or_false]
    rcases hp with rfl
    all_goals simp
  · simp only [Tx.cs, t, List.mem_cons, List.not_mem_nil, or_false] at hp
    rcases hp with rfl
    · exact t__law_two_said
  · simp only [Tx.cs, t, List.mem_cons, List.not_mem_nil, or_false] at hp
    rcases hp with rfl
    · exact PySem.W.codeHd_of_K X z__law_two_said
  · exact noLists_ok klst b o e z
  · obtain ⟨as, e⟩ := plain ns hl hb
    refine law_sp e (fun p hp => ?_) hS
    simp only [Tx.T, t, List.mem_cons, List.not_mem_nil, or_false] at hp
    rcases hp with rfl
    · exact hT (c__law_two_said, P__law_two_said) (by simp [Tx.cs, t])
end G
end
open PySem PySem.W PyProof.Rows
set_option maxRecDepth 100000 in
set_option maxHeartbeats 0 in
theorem PySem.Challenge.cw_chairmarks_k16_whole_greatest_rests_holds : PySem.Challenge.rw_chairmarks_k16_whole_greatest_rests.Holds := by
  w_on; o_law; k_head; (case hw => w_witness2)
  k_fill
  refine PD.walk_G (l := PySem.Challenge.rw_chairmarks_k16_whole_greatest_rests) (n := 63) (k := 10) (x := "script") (CX := fun w => L2.CX PySem.Challenge.rw_chairmarks_k16_whole_greatest_rests.prog w) rfl (by decide) rfl ⟨rfl, by decide, by decide⟩ (fun w h Y => PySem.W.km_in_of Y) ?F (fun w H s e s2 z => PD.cx_none z)
  case F =>
    intro w mg fa h XX Y KX Gm hmg
    refine' G.mk_law KX Gm hmg XX.2 (PySem.W.km_tabs_of Y) G.plain_law ?n_is_int ?l_is_int ?h_is_int ?k_is_int ?n_is_within ?l_is_within ?h_is_within ?k_is_within ?n_check_size ?l_check_size ?h_check_size ?k_check_size ?n_is_votes ?l_is_votes ?h_is_votes ?k_is_votes ?n_check_votes ?l_check_votes ?h_check_votes ?k_check_votes ?n_rests_deal ?l_rests_deal ?h_rests_deal ?k_rests_deal ?n_deal_rests ?l_deal_rests ?h_deal_rests ?k_deal_rests ?n__law_hand ?l__law_hand ?h__law_hand ?k__law_hand ?n__law_draw ?l__law_draw ?h__law_draw ?k__law_draw ?n__law_any ?l__law_any ?h__law_any ?k__law_any ?n__law_votes ?l__law_votes ?h__law_votes ?k__law_votes ?n__law_deal ?l__law_deal ?h__law_deal ?k__law_deal ?n__law_mixed ?l__law_mixed ?h__law_mixed ?k__law_mixed ?n__law_votes_right ?l__law_votes_right ?h__law_votes_right ?k__law_votes_right ?n__law_said ?l__law_said ?h__law_said ?k__law_said ?n__law_two_said ?l__law_two_said ?h__law_two_said ?k__law_two_said ?n__law_refused_right ?l__law_refused_right ?h__law_refused_right ?k__law_refused_right ?n_law ?l_law ?h_law ?k_law ?v_MOST_SIZE ?v_MOST_PARTIES ?v_MOST_VOTES ?n_abs ?n_all ?n_any ?n_bool ?n_enumerate ?n_int ?n_isinstance ?n_len ?n_range ?n_repr ?n_sorted ?n_sum ?n_tuple ?n_zip ?n_ValueError ?n_BadVotes ?s_BadVotes ?y_BadVotes ?k_BadVotes ?q_BadVotes ?d_BadVotes ?xg_BadVotes ?xk_BadVotes ?xa_BadVotes ?xn_BadVotes ?xt_BadVotes ?xm_BadVotes ?n_ChairError ?s_ChairError ?y_ChairError ?d_ChairError ?n_NoSize ?s_NoSize ?y_NoSize ?k_NoSize ?q_NoSize ?d_NoSize ?xg_NoSize ?xk_NoSize ?xa_NoSize ?xn_NoSize ?xt_NoSize ?xm_NoSize ?b_BadVotes ?b_NoSize ?i_BadVotes_BadVotes ?i_BadVotes_NoSize ?i_BadVotes_ValueError ?i_NoSize_BadVotes ?i_NoSize_NoSize ?i_NoSize_ValueError ?t__law_two_said ?z__law_two_said ?ndT ?klst
    (case n_is_int => k_is)
    (case l_is_int => k_is)
    (case h_is_int => k_is)
    (case k_is_int => k_is)
    (case n_is_within => k_is)
    (case l_is_within => k_is)
    (case h_is_within => k_is)
    (case k_is_within => k_is)
    (case n_check_size => k_is)
    (case l_check_size => k_is)
    (case h_check_size => k_is)
    (case k_check_size => k_is)
    (case n_is_votes => k_is)
    (case l_is_votes => k_is)
    (case h_is_votes => k_is)
    (case k_is_votes => k_is)
    (case n_check_votes => k_is)
    (case l_check_votes => k_is)
    (case h_check_votes => k_is)
    (case k_check_votes => k_is)
    (case n_rests_deal => k_is)
    (case l_rests_deal => k_is)
    (case h_rests_deal => k_is)
    (case k_rests_deal => k_is)
    (case n_deal_rests => k_is)
    (case l_deal_rests => k_is)
    (case h_deal_rests => k_is)
    (case k_deal_rests => k_is)
    (case n__law_hand => k_is)
    (case l__law_hand => k_is)
    (case h__law_hand => k_is)
    (case k__law_hand => k_is)
    (case n__law_draw => k_is)
    (case l__law_draw => k_is)
    (case h__law_draw => k_is)
    (case k__law_draw => k_is)
    (case n__law_any => k_is)
    (case l__law_any => k_is)
    (case h__law_any => k_is)
    (case k__law_any => k_is)
    (case n__law_votes => k_is)
    (case l__law_votes => k_is)
    (case h__law_votes => k_is)
    (case k__law_votes => k_is)
    (case n__law_deal => k_is)
    (case l__law_deal => k_is)
    (case h__law_deal => k_is)
    (case k__law_deal => k_is)
    (case n__law_mixed => k_is)
    (case l__law_mixed => k_is)
    (case h__law_mixed => k_is)
    (case k__law_mixed => k_is)
    (case n__law_votes_right => k_is)
    (case l__law_votes_right => k_is)
    (case h__law_votes_right => k_is)
    (case k__law_votes_right => k_is)
    (case n__law_said => k_is)
    (case l__law_said => k_is)
    (case h__law_said => k_is)
    (case k__law_said => k_is)
    (case n__law_two_said => k_is)
    (case l__law_two_said => k_is)
    (case h__law_two_said => k_is)
    (case k__law_two_said => k_is)
    (case n__law_refused_right => k_is)
    (case l__law_refused_right => k_is)
    (case h__law_refused_right => k_is)
    (case k__law_refused_right => k_is)
    (case n_law => k_is)
    (case l_law => k_is)
    (case h_law => k_is)
    (case k_law => k_is)
    (case v_MOST_SIZE => first | exact .head _ | exact .tail _ (.head _) | exact .tail _ (.tail _ (.head _)) | exact .tail _ (.tail _ (.tail _ (.head _))))
    (case v_MOST_PARTIES => k_is)
    (case v_MOST_VOTES => first | exact .head _ | exact .tail _ (.head _) | exact .tail _ (.tail _ (.head _)) | exact .tail _ (.tail _ (.tail _ (.head _))))
    (case n_abs => k_is)
    (case n_all => k_is)
    (case n_any => k_is)
    (case n_bool => k_is)
    (case n_enumerate => k_is)
    (case n_int => k_is)
    (case n_isinstance => k_is)
    (case n_len => k_is)
    (case n_range => k_is)
    (case n_repr => k_is)
    (case n_sorted => k_is)
    (case n_sum => k_is)
    (case n_tuple => k_is)
    (case n_zip => k_is)
    (case n_ValueError => k_is)
    (case n_BadVotes => k_is)
    (case s_BadVotes => k_is)
    (case y_BadVotes => k_is)
    (case k_BadVotes => k_is)
    (case q_BadVotes => first | k_exc | k_is)
    (case d_BadVotes => k_is)
    (case xg_BadVotes => k_is)
    (case xk_BadVotes => k_is)
    (case xa_BadVotes => k_is)
    (case xn_BadVotes => k_is)
    (case xt_BadVotes => k_is)
    (case xm_BadVotes => k_is)
    (case n_ChairError => k_is)
    (case s_ChairError => k_is)
    (case y_ChairError => k_is)
    (case d_ChairError => k_is)
    (case n_NoSize => k_is)
    (case s_NoSize => k_is)
    (case y_NoSize => k_is)
    (case k_NoSize => k_is)
    (case q_NoSize => first | k_exc | k_is)
    (case d_NoSize => k_is)
    (case xg_NoSize => k_is)
    (case xk_NoSize => k_is)
    (case xa_NoSize => k_is)
    (case xn_NoSize => k_is)
    (case xt_NoSize => k_is)
    (case xm_NoSize => k_is)
    (case b_BadVotes => k_is)
    (case b_NoSize => k_is)
    (case i_BadVotes_BadVotes => first | kit_is | k_is | rfl)
    (case i_BadVotes_NoSize => first | kit_is | k_is | rfl)
    (case i_BadVotes_ValueError => first | kit_is | k_is | rfl)
    (case i_NoSize_BadVotes => first | kit_is | k_is | rfl)
    (case i_NoSize_NoSize => first | kit_is | k_is | rfl)
    (case i_NoSize_ValueError => first | kit_is | k_is | rfl)
    (case t__law_two_said => first | rfl | k_is)
    (case z__law_two_said => first | kernel_rfl | k_is)
    (case ndT => decide)
    (case klst => first | kernel_rfl | k_is | decide +kernel)
