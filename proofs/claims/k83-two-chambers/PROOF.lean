import PyProof.Rows.All
import Wide.All
import OpenK.AllK
import Wide.FinOn
import HandS.ForMost
import HandS.ForExc
import HandS.Lambda
import HandS.Wide
import HandS.Evl
import HandS.Style
import HandS.IsInst
import HandS.SortInts
import HandS.Deep
import HandS.TupAny
import HandS.RaiseMore
import KE.GoesNew
import KE.GoesEnum
import PyProof.ReprRoads
import PyProof.SumWalkG
import HandS.ExcIs
import HandS.TupMul
import HandS.EndTab
import Wide.Loose
import KE.KDflt
import HandS.Conv
import KE.SortData
import HandS.TupLe
import HandS.CallLocal
import HandS.HeadHook1
import PySem.Challenge.RW_chairmarks_k83_whole_two_chambers
set_option Elab.async false
set_option linter.all false
set_option maxRecDepth 100000
set_option maxHeartbeats 4000000
section
/-! # PD: a layer of plain data over the hand layer. A def's body is read as a function of plain data (PyData); lists that a def changes by place or append are told by value as long as one slot alone holds them. -/
namespace PD
open PySem PySem.Spec PyProof.Rows L2 Evl

/-! ### representation -/
mutual
inductive Rp (K : PySem.W.Frag) (H : Hp) : V → PyData → Prop
  | non : Rp K H .non .none
  | bl (b : Bool) : Rp K H (.bl b) (.bool b)
  | int (i : Int) : Rp K H (.int i) (.int i)
  | str (x : Str) : Rp K H (.str x) (.str x)
  | lst {a : Addr} {xs : List V} {ds : List PyData} : Rd H a (.lst xs) → RpAll K H xs ds → Rp K H (.ref a) (.list ds)
  | tup {a : Addr} {xs : List V} {ds : List PyData} : SqT K H a xs → RpAll K H xs ds → Rp K H (.ref a) (.tuple ds)
  | dct {a : Addr} {kvs : List (Key × V)} {es : List (PyData × PyData)} : Rd H a (.dK kvs) → RpKV K H kvs es → Rp K H (.ref a) (.dict es)
  | obj (a : Addr) : Rp K H (.ref a) (.dict [(.none, .int (a : Nat))])
  | fn {a : Addr} {x : Str} : PySem.W.nsIn K mainGlobals x = some (some (.ref a)) → Rp K H (.ref a) (.dict [(.none, .str x)])
inductive RpAll (K : PySem.W.Frag) (H : Hp) : List V → List PyData → Prop
  | nil : RpAll K H [] []
  | cons {v : V} {vs : List V} {d : PyData} {ds : List PyData} : Rp K H v d → RpAll K H vs ds → RpAll K H (v :: vs) (d :: ds)
inductive RpKV (K : PySem.W.Frag) (H : Hp) : List (Key × V) → List (PyData × PyData) → Prop
  | nil : RpKV K H [] []
  | consI {i : Int} {v : V} {vs : List (Key × V)} {d : PyData} {ds : List (PyData × PyData)} : Rp K H v d → RpKV K H vs ds → RpKV K H ((.inl i, v) :: vs) ((.int i, d) :: ds)
  | consS {x : Str} {v : V} {vs : List (Key × V)} {d : PyData} {ds : List (PyData × PyData)} : Rp K H v d → RpKV K H vs ds → RpKV K H ((.inr x, v) :: vs) ((.str x, d) :: ds)
end
section
variable {K : PySem.W.Frag} {H H' : Hp}
mutual
theorem Rp.mono (e : Ex H H') : ∀ {v : V} {d : PyData}, Rp K H v d → Rp K H' v d
  | _, _, .non => .non
  | _, _, .bl b => .bl b
  | _, _, .int i => .int i
  | _, _, .str x => .str x
  | _, _, .lst h a => .lst (ex_rd e h) (RpAll.mono e a)
  | _, _, .tup h a => .tup (ex_t e h) (RpAll.mono e a)
  | _, _, .dct h a => .dct (ex_rd e h) (RpKV.mono e a)
  | _, _, .obj a => .obj a
  | _, _, .fn h => .fn h
theorem RpAll.mono (e : Ex H H') : ∀ {vs : List V} {ds : List PyData}, RpAll K H vs ds → RpAll K H' vs ds
  | _, _, .nil => .nil
  | _, _, .cons h t => .cons (Rp.mono e h) (RpAll.mono e t)
theorem RpKV.mono (e : Ex H H') : ∀ {vs : List (Key × V)} {ds : List (PyData × PyData)}, RpKV K H vs ds → RpKV K H' vs ds
  | _, _, .nil => .nil
  | _, _, .consI h t => .consI (Rp.mono e h) (RpKV.mono e t)
  | _, _, .consS h t => .consS (Rp.mono e h) (RpKV.mono e t)
end
theorem RpAll.length : ∀ {vs : List V} {ds : List PyData}, RpAll K H vs ds → vs.length = ds.length
  | _, _, .nil => rfl
  | _, _, .cons _ t => by rw [List.length_cons, List.length_cons, RpAll.length t]
theorem RpAll.get : ∀ {vs : List V} {ds : List PyData} {i : Nat} {d : PyData}, RpAll K H vs ds → ds[i]? = some d → ∃ v, vs[i]? = some v ∧ Rp K H v d
  | _, _, i, d, .nil, e => by simp at e
  | _, _, 0, d, .cons h t, e => by simp at e; subst e; exact ⟨_, rfl, h⟩
  | _, _, i + 1, d, .cons h t, e => by
    obtain ⟨v, h1, h2⟩ := RpAll.get (i := i) (d := d) t (by simpa using e)
    exact ⟨v, by simpa using h1, h2⟩
theorem RpAll.append : ∀ {vs ws : List V} {ds es : List PyData}, RpAll K H vs ds → RpAll K H ws es → RpAll K H (vs ++ ws) (ds ++ es)
  | _, _, _, _, .nil, s => s
  | _, _, _, _, .cons h t, s => .cons h (RpAll.append t s)
theorem RpAll.set {v : V} {d : PyData} (r : Rp K H v d) : ∀ {vs : List V} {ds : List PyData} (i : Nat), RpAll K H vs ds → RpAll K H (vs.set i v) (ds.set i d)
  | _, _, _, .nil => .nil
  | _, _, 0, .cons _ t => .cons r t
  | _, _, i + 1, .cons h t => .cons h (RpAll.set r i t)
theorem RpAll.take : ∀ {vs : List V} {ds : List PyData} (n : Nat), RpAll K H vs ds → RpAll K H (vs.take n) (ds.take n)
  | _, _, 0, _ => .nil
  | _, _, _ + 1, .nil => .nil
  | _, _, n + 1, .cons h t => .cons h (RpAll.take n t)
theorem RpAll.drop : ∀ {vs : List V} {ds : List PyData} (n : Nat), RpAll K H vs ds → RpAll K H (vs.drop n) (ds.drop n)
  | _, _, 0, r => r
  | _, _, _ + 1, .nil => .nil
  | _, _, n + 1, .cons _ t => RpAll.drop n t
theorem RpAll.reverse {vs : List V} {ds : List PyData} (h : RpAll K H vs ds) : RpAll K H vs.reverse ds.reverse := by
  induction h using RpAll.rec (motive_1 := fun _ _ _ => True) (motive_3 := fun _ _ _ => True) with
  | nil => exact .nil
  | cons h t _ ih => rw [List.reverse_cons, List.reverse_cons]; exact ih.append (.cons h .nil)
  | _ => trivial
theorem RpAll.eraseIdx : ∀ {vs : List V} {ds : List PyData} (i : Nat), RpAll K H vs ds → RpAll K H (vs.eraseIdx i) (ds.eraseIdx i)
  | _, _, _, .nil => .nil
  | _, _, 0, .cons _ t => t
  | _, _, i + 1, .cons h t => .cons h (RpAll.eraseIdx i t)
theorem RpAll.ints : ∀ {vs : List V} {ns : List Int}, RpAll K H vs (ns.map PyData.int) → vs = ns.map V.int
  | _, [], .nil => rfl
  | _, n :: ns, .cons h t => by
    cases h
    rw [RpAll.ints t] <;> rfl
theorem RpAll.of_ints : ∀ (ns : List Int), RpAll K H (ns.map V.int) (ns.map PyData.int)
  | [] => .nil
  | n :: ns => .cons (.int n) (RpAll.of_ints ns)
theorem RpAll.bools : ∀ {vs : List V} {ns : List Bool}, RpAll K H vs (ns.map PyData.bool) → vs = ns.map V.bl
  | _, [], .nil => rfl
  | _, n :: ns, .cons h t => by
    cases h
    rw [RpAll.bools t] <;> rfl
/-- no dict in it -/
def nd : PyData → Bool
  | .list xs => ndAll xs
  | .tuple xs => ndAll xs
  | .dict _ => false
  | _ => true
where ndAll : List PyData → Bool
  | [] => true
  | x :: xs => nd x && ndAll xs
mutual
theorem Rp.dp : ∀ {v : V} {d : PyData}, Rp K H v d → nd d = true → Dp K H v d
  | _, _, .non, _ => .non
  | _, _, .bl b, _ => .bl b
  | _, _, .int i, _ => .int i
  | _, _, .str x, _ => .str x
  | _, _, .lst h a, e => .lst (.inl h) (RpAll.dp a (by simpa [nd] using e))
  | _, _, .tup h a, e => .tup h (RpAll.dp a (by simpa [nd] using e))
  | _, _, .dct h a, e => by simp [nd] at e
  | _, _, .obj a, e => by simp [nd] at e
  | _, _, .fn h, e => by simp [nd] at e
theorem RpAll.dp : ∀ {vs : List V} {ds : List PyData}, RpAll K H vs ds → nd.ndAll ds = true → DpAll K H vs ds
  | _, _, .nil, _ => .nil
  | _, _, .cons h t, e => by
    have e : _ := (Bool.and_eq_true _ _).mp (by simpa [nd.ndAll] using e)
    exact .cons (Rp.dp h e.1) (RpAll.dp t e.2)
end
end

/-! ### slots -/
/-- what a slot holds: nothing yet, data, a list that this slot alone holds (io: the caller's own) -/
inductive Sl where
  | no
  | dat (d : PyData)
  | own (io : Bool) (ds : List PyData)
abbrev En := List Sl
abbrev TabsD (T : List (Addr × Str)) (H : Hp) : Prop := LamX.Tabs T H
/-- nothing is told of p, but that it may be a table -/
def Nw (H : Hp) (p : Addr) : Prop := ∀ u, H p = some u → ∃ ps, u = .tbl ps
theorem nw_of {H : Hp} {p : Addr} (h : H p = none) : Nw H p := fun u e => by rw [h] at e; cases e
theorem nw_no {H : Hp} {p : Addr} {u : HO} (h : Nw H p) (e : H p = some u) (t : ∀ ps, u ≠ .tbl ps) : False := let ⟨ps, q⟩ := h u e; t ps q
theorem nw_lst {H : Hp} {p : Addr} {xs : List V} (e : H p = some (.lst xs)) : ¬ Nw H p := fun h => nw_no h e fun _ z => by cases z
def OwnA (σ : L2.St) (en : En) (p : Addr) : Prop := ∃ (i : Nat) (io : Bool) (ds : List PyData), en[i]? = some (.own io ds) ∧ σ[i]? = some (some (.ref p))
structure SR (K : PySem.W.Frag) (T : List (Addr × Str)) (H0 H : Hp) (σ : L2.St) (en : En) : Prop where
  len : σ.length = en.length
  ex : Ex H0 H
  tb : TabsD T H
  nt : ∀ p ps, H0 p ≠ some (.tbl ps)
  dat : ∀ (i : Nat) (d : PyData), en[i]? = some (.dat d) → ∃ v, σ[i]? = some (some v) ∧ Rp K H0 v d
  own : ∀ (i : Nat) (io : Bool) (ds : List PyData), en[i]? = some (.own io ds) → ∃ (p : Addr) (vs : List V), σ[i]? = some (some (.ref p)) ∧ H p = some (.lst vs) ∧ H0 p = none ∧ RpAll K H0 vs ds
  sep : ∀ (i j : Nat) (io : Bool) (ds : List PyData) (jo : Bool) (es : List PyData) (p : Addr), i ≠ j → en[i]? = some (.own io ds) → en[j]? = some (.own jo es) → σ[i]? = some (some (.ref p)) → σ[j]? ≠ some (some (.ref p))
/-- what a step leaves of the heap -/
structure Fm (own : Addr → Prop) (H0 H H0' H' : Hp) : Prop where
  ex : Ex H0 H0'
  fr : ∀ p o, H p = some o → ¬ own p → (∀ ps, o ≠ .tbl ps) → H' p = some o
  kp : ∀ p, Nw H' p → Nw H p
  nw : ∀ p, ¬ Nw H p → ¬ own p → H0 p = none → H0' p = none
structure Stp (σ : L2.St) (en : En) (H0 H : Hp) (σ' : L2.St) (en' : En) (H0' H' : Hp) : Prop where
  fm : Fm (OwnA σ en) H0 H H0' H'
  ow : ∀ p, OwnA σ' en' p → OwnA σ en p ∨ Nw H p
  io : ∀ (i : Nat) (ds : List PyData), en[i]? = some (.own true ds) → σ'[i]? = σ[i]? ∧ ∃ ds', en'[i]? = some (.own true ds')
section
variable {K : PySem.W.Frag} {T : List (Addr × Str)} {H0 H H0' H' H0'' H'' : Hp} {σ σ' σ'' : L2.St} {en en' en'' : En} {own own' : Addr → Prop}
theorem Fm.refl : Fm own H0 H H0 H := ⟨Ex.refl _, fun _ _ h _ _ => h, fun _ h => h, fun _ _ _ h => h⟩
theorem Fm.trans (a : Fm own H0 H H0' H') (b : Fm own' H0' H' H0'' H'') (o : ∀ p, own' p → own p ∨ Nw H p) : Fm own H0 H H0'' H'' where
  ex := a.ex.trans b.ex
  fr := fun p u h n t => b.fr p u (a.fr p u h n t) (fun z => (o p z).elim n fun e => nw_no e h t) t
  kp := fun p h => a.kp p (b.kp p h)
  nw := fun p h n e => b.nw p (fun z => h (a.kp p z)) (fun z => (o p z).elim n h) (a.nw p h n e)
theorem Fm.weak (a : Fm own H0 H H0' H') (o : ∀ p, own p → own' p) : Fm own' H0 H H0' H' := ⟨a.ex, fun p u h n t => a.fr p u h (fun z => n (o p z)) t, a.kp, fun p h n e => a.nw p h (fun z => n (o p z)) e⟩
theorem Stp.refl : Stp σ en H0 H σ en H0 H := ⟨Fm.refl, fun _ h => .inl h, fun i ds h => ⟨rfl, ds, h⟩⟩
theorem Stp.trans (a : Stp σ en H0 H σ' en' H0' H') (b : Stp σ' en' H0' H' σ'' en'' H0'' H'') : Stp σ en H0 H σ'' en'' H0'' H'' where
  fm := a.fm.trans b.fm a.ow
  ow := fun p h => (b.ow p h).elim (fun h => a.ow p h) fun h => .inr (a.fm.kp p h)
  io := fun i ds h => by
    obtain ⟨e1, ds1, h1⟩ := a.io i ds h
    obtain ⟨e2, ds2, h2⟩ := b.io i ds1 h1
    exact ⟨e2.trans e1, ds2, h2⟩
theorem kp_upd {p a : Addr} {o : HO} (hp : Nw H p) (h : Nw (upd H p o) a) : Nw H a := fun u e => by
  by_cases z : a = p
  · subst z; exact hp u e
  · exact h u (by rw [upd_ne z]; exact e)
/-- a new object that the protected part gets -/
theorem Fm.new {p : Addr} {o : HO} (hx : Ex H0 H) (hp : H p = none) : Fm own H0 H (upd H0 p o) (upd H p o) := by
  have h0 : H0 p = none := fresh_back hx hp
  refine ⟨Ex.new h0, fun a u h _ _ => by rw [upd_ne (ne_of_none h hp)]; exact h, fun a h => kp_upd (nw_of hp) h, fun a h _ e => ?_⟩
  by_cases z : a = p
  · subst z; exact absurd (nw_of hp) h
  · rw [upd_ne z]; exact e
/-- a new object beside the protected part -/
theorem Fm.newO {p : Addr} {o : HO} (hp : H p = none) : Fm own H0 H H0 (upd H p o) :=
  ⟨Ex.refl _, fun a u h _ _ => by rw [upd_ne (ne_of_none h hp)]; exact h, fun a h => kp_upd (nw_of hp) h, fun a h _ e => e⟩
/-- an own list is changed -/
theorem Fm.mut {p : Addr} {ws : List V} {u : HO} (hp : H p = some u) (ho : own p) : Fm own H0 H H0 (upd H p (.lst ws)) :=
  ⟨Ex.refl _, fun a u h n _ => by rw [upd_ne (fun z => n (by rw [z]; exact ho))]; exact h, fun a h u e => by
    by_cases z : a = p
    · subst z; exact absurd h (nw_lst upd_same)
    · exact h u (by rw [upd_ne z]; exact e), fun a h _ e => e⟩
theorem tabs_upd {p : Addr} {o : HO} (t : TabsD T H) (h : H p = none ∨ ∃ xs, H p = some (.lst xs)) : TabsD T (upd H p o) := fun q hq => by
  obtain ⟨ps, h1, h2, h3⟩ := t q hq
  have ne : ∀ {c u}, H c = some u → (∀ xs, u ≠ .lst xs) → c ≠ p := fun {c u} e n z => by
    subst z
    rcases h with h | ⟨xs, h⟩
    · rw [h] at e; cases e
    · rw [h] at e; cases e; exact n xs rfl
  refine ⟨ps, by rw [upd_ne (ne h1 (fun _ z => by cases z))]; exact h1, h2, fun pos cv hc => ?_⟩
  obtain ⟨c, e1, e2⟩ := h3 pos cv hc
  exact ⟨c, e1, by rw [upd_ne (ne e2 (fun _ z => by unfold LamX.CodeO at z; cases z))]; exact e2⟩
/-- the same slots over a grown heap whose own lists stand -/
theorem SR.grow (s : SR K T H0 H σ en) (f : Fm (fun _ => False) H0 H H0' H') (hx : Ex H0' H') (t : TabsD T H') (nt : ∀ p ps, H0' p ≠ some (.tbl ps)) : SR K T H0' H' σ en where
  len := s.len
  ex := hx
  tb := t
  nt := nt
  dat := fun i d h => by
    obtain ⟨v, e, r⟩ := s.dat i d h
    exact ⟨v, e, r.mono f.ex⟩
  own := fun i io ds h => by
    obtain ⟨p, vs, e, hp, h0, r⟩ := s.own i io ds h
    exact ⟨p, vs, e, f.fr p _ hp (fun z => z) (fun _ z => by cases z), f.nw p (nw_lst hp) (fun z => z) h0, r.mono f.ex⟩
  sep := s.sep
theorem SR.new (s : SR K T H0 H σ en) {p : Addr} {o : HO} (hp : H p = none) (ho : ∀ ps, o ≠ .tbl ps) : SR K T (upd H0 p o) (upd H p o) σ en :=
  s.grow (Fm.new s.ex hp) (fun a u h => by
    by_cases z : a = p
    · subst z; rw [upd_same] at h ⊢; exact h
    · rw [upd_ne z] at h ⊢; exact s.ex a u h) (tabs_upd s.tb (.inl hp)) (fun a ps h => by
    by_cases z : a = p
    · subst z; rw [upd_same] at h; exact ho ps (Option.some.inj h)
    · rw [upd_ne z] at h; exact s.nt a ps h)
theorem SR.newO (s : SR K T H0 H σ en) {p : Addr} {xs : List V} (hp : H p = none) : SR K T H0 (upd H p (.lst xs)) σ en :=
  s.grow (Fm.newO hp) (s.ex.trans (Ex.new hp)) (tabs_upd s.tb (.inl hp)) s.nt
/-- a list beside the protected part is protected from now on -/
theorem Fm.frz {p : Addr} {o : HO} (hp : Nw H p) (hp' : H' p = some o) (f : Fm own H0 H H0' H') (h0 : H0' p = none) : Fm own H0 H (upd H0' p o) H' :=
  ⟨f.ex.trans (Ex.new h0), f.fr, f.kp, fun a h n e => by
    by_cases z : a = p
    · subst z; exact absurd hp h
    · rw [upd_ne z]; exact f.nw a h n e⟩
end
end PD
end
section
namespace PD
open PySem PySem.Spec PyProof.Rows L2 Evl

/-! ### results -/
/-- what a reading comes to: a value, an own error's number, or that it is not told -/
inductive R (α : Type) where
  | ok (a : α)
  | exc (n : Nat)
  | bad
namespace R
def bind {α β : Type} (x : R α) (f : α → R β) : R β := match x with
  | .ok a => f a
  | .exc n => .exc n
  | .bad => .bad
instance : Monad R where
  pure := .ok
  bind := bind
@[simp] theorem bind_ok {α β : Type} (a : α) (f : α → R β) : (R.ok a >>= f) = f a := rfl
@[simp] theorem bind_exc {α β : Type} (n : Nat) (f : α → R β) : (R.exc n >>= f) = R.exc n := rfl
@[simp] theorem bind_bad {α β : Type} (f : α → R β) : ((R.bad : R α) >>= f) = R.bad := rfl
@[simp] theorem pure_eq {α : Type} (a : α) : (pure a : R α) = R.ok a := rfl
end R
def R.get {α : Type} (o : Option α) : R α := match o with
  | some a => .ok a
  | none => .bad
@[simp] theorem R.get_some {α : Type} (a : α) : R.get (some a) = R.ok a := rfl
@[simp] theorem R.get_none {α : Type} : R.get (none : Option α) = R.bad := rfl

/-- what is fixed in a def: the written part, the tables of code objects, the errors' classes, the wish about errors -/
structure Ct where
  K : PySem.W.Frag
  T : List (Addr × Str)
  ca : Nat → Addr
  E : XK

/-- the wish about an error, from here -/
def Ct.err (C : Ct) (own : Addr → Prop) (H0 H : Hp) (n : Nat) : Prop := ∀ H0' H', Fm own H0 H H0' H' → Ex H0' H' → TabsD C.T H' → (∀ p ps, H0' p ≠ some (.tbl ps)) → C.E (.ref (C.ca n)) none H'
theorem Ct.err_at {C : Ct} {own own' : Addr → Prop} {H0 H H0' H' : Hp} {n : Nat} (h : C.err own H0 H n) (f : Fm own H0 H H0' H') (o : ∀ p, own' p → own p ∨ Nw H p) : C.err own' H0' H' n :=
  fun _ _ g x t nt => h _ _ (f.trans g o) x t nt

/-- an operand: data, or the list that slot i holds -/
inductive Op where
  | val (d : PyData)
  | own (i : Nat)
def OpdR (K : PySem.W.Frag) (H0 : Hp) (σ : L2.St) (v : V) : Op → Prop
  | .val d => Rp K H0 v d
  | .own i => σ[i]? = some (some v)
def Op.res (en : En) : Op → R PyData
  | .val d => .ok d
  | .own i => match en[i]? with
    | some (.own _ ds) => .ok (.list ds)
    | _ => .bad
/-- a value as it may be read now -/
def RpX (K : PySem.W.Frag) (H0 H : Hp) (v : V) (d : PyData) : Prop := Rp K H0 v d ∨ ∃ p vs ds, v = .ref p ∧ d = .list ds ∧ H p = some (.lst vs) ∧ RpAll K H0 vs ds

abbrev Sem' (α : Type) := En → R (α × En)

/-- what an expression leaves -/
def Post (C : Ct) {α : Type} (rel : En → Hp → Hp → V → α → Prop) (H0 H : Hp) (σ : L2.St) (en : En) (Q : VK) : R (α × En) → Prop
  | .ok (a, en') => ∀ H0' H' v, Stp σ en H0 H σ en' H0' H' → SR C.K C.T H0' H' σ en' → rel en' H0' H' v a → Q v H'
  | .exc n => C.err (OwnA σ en) H0 H n
  | .bad => False
/-- an operand's reading -/
def tO (C : Ct) (F : Sem' Op) : TE := fun σ H Q => ∃ H0 en, SR C.K C.T H0 H σ en ∧ Post C (fun _ H0' _ v a => OpdR C.K H0' σ v a) H0 H σ en Q (F en)
/-- a value's reading -/
def tE (C : Ct) (F : Sem' PyData) : TE := fun σ H Q => ∃ H0 en, SR C.K C.T H0 H σ en ∧ Post C (fun _ H0' _ v a => Rp C.K H0' v a) H0 H σ en Q (F en)
/-- a new list's reading -/
def NewL (K : PySem.W.Frag) (σ : L2.St) (Hs : Hp) (en' : En) (H0' H' : Hp) (v : V) (ds : List PyData) : Prop := ∃ p vs, v = .ref p ∧ Nw Hs p ∧ H' p = some (.lst vs) ∧ H0' p = none ∧ RpAll K H0' vs ds ∧ ¬ OwnA σ en' p
def tN (C : Ct) (F : Sem' (List PyData)) : TE := fun σ H Q => ∃ H0 en, SR C.K C.T H0 H σ en ∧ Post C (NewL C.K σ H) H0 H σ en Q (F en)
/-- a test's reading -/
def PostB (C : Ct) (H0 H : Hp) (σ : L2.St) (en : En) (Q : Bool → Hp → Prop) : R (Bool × En) → Prop
  | .ok (b, en') => ∀ H0' H', Stp σ en H0 H σ en' H0' H' → SR C.K C.T H0' H' σ en' → Q b H'
  | .exc n => C.err (OwnA σ en) H0 H n
  | .bad => False
def tT (C : Ct) (F : Sem' Bool) : TT := fun σ H Q => ∃ H0 en, SR C.K C.T H0 H σ en ∧ PostB C H0 H σ en Q (F en)
/-- arguments -/
def OpdsR (K : PySem.W.Frag) (H0 : Hp) (σ : L2.St) : List V → List Op → Prop
  | [], [] => True
  | v :: vs, o :: os => OpdR K H0 σ v o ∧ OpdsR K H0 σ vs os
  | _, _ => False
def PostA (C : Ct) (H0 H : Hp) (σ : L2.St) (en : En) (Q : List V → Hp → Prop) : R (List Op × En) → Prop
  | .ok (os, en') => ∀ H0' H' vs, Stp σ en H0 H σ en' H0' H' → SR C.K C.T H0' H' σ en' → OpdsR C.K H0' σ vs os → Q vs H'
  | .exc n => C.err (OwnA σ en) H0 H n
  | .bad => False
def tA (C : Ct) (F : Sem' (List Op)) : TA := fun σ H Q => ∃ H0 en, SR C.K C.T H0 H σ en ∧ PostA C H0 H σ en Q (F en)

section
variable {C : Ct} {H0 H H0' H' : Hp} {σ : L2.St} {en en' : En} {α β : Type}
theorem OpdR.mono {v : V} {o : Op} (h : OpdR C.K H0 σ v o) (e : Ex H0 H0') : OpdR C.K H0' σ v o := by
  cases o with
  | val d => exact Rp.mono e h
  | own i => exact h
theorem OpdsR.mono (e : Ex H0 H0') : ∀ {vs : List V} {os : List Op}, OpdsR C.K H0 σ vs os → OpdsR C.K H0' σ vs os
  | [], [], _ => trivial
  | _ :: _, _ :: _, h => ⟨OpdR.mono h.1 e, OpdsR.mono e h.2⟩
  | [], _ :: _, h => h.elim
  | _ :: _, [], h => h.elim
theorem OpdR.res {v : V} {o : Op} {d : PyData} (s : SR C.K C.T H0 H σ en) (h : OpdR C.K H0 σ v o) (e : o.res en = .ok d) : RpX C.K H0 H v d := by
  cases o with
  | val d' =>
    have e : R.ok d' = R.ok d := e
    cases e
    exact .inl h
  | own i =>
    have e : (match en[i]? with
      | some (.own _ ds) => R.ok (PyData.list ds)
      | _ => R.bad) = .ok d := e
    split at e
    · rename_i io ds hi
      cases e
      obtain ⟨p, vs, e1, e2, e3, r⟩ := s.own i io ds hi
      have h : σ[i]? = some (some v) := h
      rw [h] at e1
      cases e1
      exact .inr ⟨p, vs, ds, rfl, rfl, e2, r⟩
    · cases e
theorem RpX.mono {v : V} {d : PyData} (h : RpX C.K H0 H v d) (hx : Ex H0 H) : Rp C.K H v d := by
  rcases h with h | ⟨p, vs, ds, rfl, rfl, e, r⟩
  · exact h.mono hx
  · exact .lst (Rd.of e) (r.mono hx)
/-- as a list -/
theorem RpX.list {v : V} {ds : List PyData} (h : RpX C.K H0 H v (.list ds)) (hx : Ex H0 H) : ∃ a vs, v = .ref a ∧ Rd H a (.lst vs) ∧ RpAll C.K H0 vs ds := by
  rcases h with h | ⟨p, vs, ds', rfl, e', e, r⟩
  · cases h with
    | lst hs ha => exact ⟨_, _, rfl, ex_rd hx hs, ha⟩
  · cases e'
    exact ⟨p, vs, rfl, Rd.of e, r⟩
theorem RpX.tup {v : V} {ds : List PyData} (h : RpX C.K H0 H v (.tuple ds)) (hx : Ex H0 H) : ∃ a vs, v = .ref a ∧ SqT C.K H a vs ∧ RpAll C.K H0 vs ds := by
  rcases h with h | ⟨p, vs, ds', rfl, e', e, r⟩
  · cases h with
    | tup hs ha => exact ⟨_, _, rfl, ex_t hx hs, ha⟩
  · cases e'
theorem RpX.int {v : V} {i : Int} (h : RpX C.K H0 H v (.int i)) : v = .int i := by
  rcases h with h | ⟨p, vs, ds', rfl, e', e, r⟩
  · cases h; rfl
  · cases e'
theorem RpX.str {v : V} {i : Str} (h : RpX C.K H0 H v (.str i)) : v = .str i := by
  rcases h with h | ⟨p, vs, ds', rfl, e', e, r⟩
  · cases h; rfl
  · cases e'
theorem RpX.bl {v : V} {i : Bool} (h : RpX C.K H0 H v (.bool i)) : v = .bl i := by
  rcases h with h | ⟨p, vs, ds', rfl, e', e, r⟩
  · cases h; rfl
  · cases e'
theorem RpX.non {v : V} (h : RpX C.K H0 H v .none) : v = .non := by
  rcases h with h | ⟨p, vs, ds', rfl, e', e, r⟩
  · cases h; rfl
  · cases e'

/-! ### the readings' joints -/
/-- one expression, then what is wanted -/
theorem post_bind {rel : En → Hp → Hp → V → α → Prop} {rel2 : En → Hp → Hp → V → β → Prop} {Q : VK} {Q2 : VK} {x : R (α × En)} {f : α → En → R (β × En)}
    (h : Post C rel2 H0 H σ en Q2 (x >>= fun p => f p.1 p.2))
    (k : ∀ a en1 H01 H1 v, x = .ok (a, en1) → Stp σ en H0 H σ en1 H01 H1 → SR C.K C.T H01 H1 σ en1 → rel en1 H01 H1 v a → Post C rel2 H01 H1 σ en1 Q2 (f a en1) → Q v H1) : Post C rel H0 H σ en Q x := by
  cases x with
  | ok p =>
    obtain ⟨a, en1⟩ := p
    intro H01 H1 v st sr r
    refine k a en1 H01 H1 v rfl st sr r ?_
    have h : Post C rel2 H0 H σ en Q2 (f a en1) := h
    revert h
    cases f a en1 with
    | ok q => exact fun h H0' H' v' st' sr' r' => h H0' H' v' (st.trans st') sr' r'
    | exc n => exact fun h => Ct.err_at h st.fm st.ow
    | bad => exact fun h => h
  | exc n => exact h
  | bad => exact h.elim
theorem post_mono {rel rel2 : En → Hp → Hp → V → α → Prop} {Q : VK} {x : R (α × En)} (h : Post C rel2 H0 H σ en Q x) (m : ∀ H0' H' v a en', x = .ok (a, en') → Stp σ en H0 H σ en' H0' H' → SR C.K C.T H0' H' σ en' → rel en' H0' H' v a → rel2 en' H0' H' v a) : Post C rel H0 H σ en Q x := by
  cases x with
  | ok p => exact fun H0' H' v st sr r => h H0' H' v st sr (m _ _ _ _ _ rfl st sr r)
  | exc n => exact h
  | bad => exact h
end
/-- a stronger reading -/
theorem _root_.L2.PE.imp {X : Cx} {e : Expr} {t t' : TE} (h : PE X e t) (i : ∀ σ H Q, t' σ H Q → t σ H Q) : PE X e t' := ⟨fun pins s σ H Q I q => h.run pins s σ H Q I (i σ H Q q)⟩
theorem _root_.L2.PT.imp {X : Cx} {e : Expr} {t t' : TT} (h : PT X e t) (i : ∀ σ H Q, t' σ H Q → t σ H Q) : PT X e t' := ⟨fun pins s σ H Q I q => h.run pins s σ H Q I (i σ H Q q)⟩
theorem _root_.L2.PW.imp {X : Cx} {e : Expr} {t t' : TT} (h : PW X e t) (i : ∀ σ H Q, t' σ H Q → t σ H Q) : PW X e t' := ⟨fun w pins s σ H Q I q => h.run w pins s σ H Q I (i σ H Q q)⟩
theorem _root_.L2.PA.imp {X : Cx} {e : List Expr} {t t' : TA} (h : PA X e t) (i : ∀ σ H Q, t' σ H Q → t σ H Q) : PA X e t' := ⟨fun pos pins s σ H Q I q => h.run pos pins s σ H Q I (i σ H Q q)⟩
theorem _root_.L2.PS.imp {X : Cx} {e : Stmt} {t t' : TS} (h : PS X e t) (i : ∀ D σ H, t' D σ H → t D σ H) : PS X e t' := ⟨fun pins s σ H D I q => h.run pins s σ H D I (i D σ H q)⟩
theorem _root_.L2.PSs.imp {X : Cx} {e : List Stmt} {t t' : TS} (h : PSs X e t) (i : ∀ D σ H, t' D σ H → t D σ H) : PSs X e t' := ⟨fun pins s σ H D I q => h.run pins s σ H D I (i D σ H q)⟩
theorem _root_.L2.PI.imp {X : Cx} {tg e : Expr} {t t' : TI} (h : PI X tg e t) (i : ∀ σ H Q, t' σ H Q → t σ H Q) : PI X tg e t' := ⟨fun pins s σ H Q I q => h.run pins s σ H Q I (i σ H Q q)⟩
end PD
end
section
namespace PD
open PySem PySem.Spec PyProof.Rows L2 Evl

/-! ### rules by values -/
structure Good (C : Ct) (H0 H : Hp) : Prop where
  ex : Ex H0 H
  tb : TabsD C.T H
  nt : ∀ p ps, H0 p ≠ some (.tbl ps)
/-- what a step by values that makes nothing but new things leaves -/
def Out (C : Ct) (H0 H : Hp) (d : PyData) (Q : VK) : Prop := ∀ H0' H' v, Fm (fun _ => False) H0 H H0' H' → Good C H0' H' → Rp C.K H0' v d → Q v H'
def OutN (C : Ct) (H0 H : Hp) (ds : List PyData) (Q : VK) : Prop := ∀ p vs H', Fm (fun _ => False) H0 H H0 H' → Good C H0 H' → H p = none → H' p = some (.lst vs) → RpAll C.K H0 vs ds → Q (.ref p) H'
section
variable {C : Ct} {H0 H H0' H' : Hp} {σ : L2.St} {en en' : En} {α β : Type}
theorem SR.good (s : SR C.K C.T H0 H σ en) : Good C H0 H := ⟨s.ex, s.tb, s.nt⟩
theorem SR.grown (s : SR C.K C.T H0 H σ en) (f : Fm (fun _ => False) H0 H H0' H') (g : Good C H0' H') : SR C.K C.T H0' H' σ en := s.grow f g.ex g.tb g.nt
theorem Fm.stp (f : Fm (fun _ => False) H0 H H0' H') : Stp σ en H0 H σ en H0' H' := ⟨f.weak fun _ z => z.elim, fun _ h => .inl h, fun i ds h => ⟨rfl, ds, h⟩⟩
theorem Out.now {d : PyData} {Q : VK} {v : V} (o : Out C H0 H d Q) (g : Good C H0 H) (r : Rp C.K H0 v d) : Q v H := o H0 H v Fm.refl g r
theorem Good.new (g : Good C H0 H) {p : Addr} {o : HO} (hp : H p = none) (ho : ∀ ps, o ≠ .tbl ps) : Good C (upd H0 p o) (upd H p o) :=
  ⟨fun a u h => by
    by_cases z : a = p
    · subst z; rw [upd_same] at h ⊢; exact h
    · rw [upd_ne z] at h ⊢; exact g.ex a u h, tabs_upd g.tb (.inl hp), fun a ps h => by
    by_cases z : a = p
    · subst z; rw [upd_same] at h; exact ho ps (Option.some.inj h)
    · rw [upd_ne z] at h; exact g.nt a ps h⟩
theorem Good.newO (g : Good C H0 H) {p : Addr} {xs : List V} (hp : H p = none) : Good C H0 (upd H p (.lst xs)) := ⟨g.ex.trans (Ex.new hp), tabs_upd g.tb (.inl hp), g.nt⟩
theorem Good.frz (g : Good C H0 H) {p : Addr} {o : HO} (hp : H p = some o) (h0 : H0 p = none) (ho : ∀ ps, o ≠ .tbl ps) : Good C (upd H0 p o) H :=
  ⟨fun a u h => by
    by_cases z : a = p
    · subst z; rw [upd_same] at h; cases h; exact hp
    · rw [upd_ne z] at h; exact g.ex a u h, g.tb, fun a ps h => by
    by_cases z : a = p
    · subst z; rw [upd_same] at h; exact ho ps (Option.some.inj h)
    · rw [upd_ne z] at h; exact g.nt a ps h⟩
/-- a new list becomes data -/
theorem OutN.out {ds : List PyData} {Q : VK} (g0 : Good C H0 H) (o : Out C H0 H (.list ds) Q) : OutN C H0 H ds Q := fun p vs H' f g hp hp' r =>
  have h0 : H0 p = none := fresh_back g0.ex hp
  o _ H' _ (Fm.frz (nw_of hp) hp' f h0) (g.frz hp' h0 fun _ z => by cases z) (.lst (Rd.of upd_same) (r.mono (Ex.new h0)))
end

/-- an operation of two values, told over data -/
def Rule2 (C : Ct) (r : R2) (op : PyData → PyData → R PyData) : Prop := ∀ (H0 H : Hp) (x y : V) (dx dy d : PyData) (Q : VK), Good C H0 H → RpX C.K H0 H x dx → RpX C.K H0 H y dy → op dx dy = .ok d → Out C H0 H d Q → r x y H Q
def Rule2N (C : Ct) (r : R2) (op : PyData → PyData → R (List PyData)) : Prop := ∀ (H0 H : Hp) (x y : V) (dx dy : PyData) (ds : List PyData) (Q : VK), Good C H0 H → RpX C.K H0 H x dx → RpX C.K H0 H y dy → op dx dy = .ok ds → OutN C H0 H ds Q → r x y H Q
def Rule1 (C : Ct) (r : V → Hp → VK → Prop) (op : PyData → R PyData) : Prop := ∀ (H0 H : Hp) (x : V) (dx d : PyData) (Q : VK), Good C H0 H → RpX C.K H0 H x dx → op dx = .ok d → Out C H0 H d Q → r x H Q
def RpXs (K : PySem.W.Frag) (H0 H : Hp) : List V → List PyData → Prop
  | [], [] => True
  | v :: vs, o :: os => RpX K H0 H v o ∧ RpXs K H0 H vs os
  | _, _ => False
/-- a call of a built-in, told over data -/
def RuleC (C : Ct) (r : List V → Hp → VK → Prop) (op : List PyData → R PyData) : Prop := ∀ (H0 H : Hp) (vs : List V) (ds : List PyData) (d : PyData) (Q : VK), Good C H0 H → RpXs C.K H0 H vs ds → op ds = .ok d → Out C H0 H d Q → r vs H Q
def RuleCN (C : Ct) (r : List V → Hp → VK → Prop) (op : List PyData → R (List PyData)) : Prop := ∀ (H0 H : Hp) (vs : List V) (ds es : List PyData) (Q : VK), Good C H0 H → RpXs C.K H0 H vs ds → op ds = .ok es → OutN C H0 H es Q → r vs H Q
/-- no error comes from it -/
def NoX {α : Type} (x : R α) : Prop := ∀ n, x ≠ .exc n

/-! ### combinators -/
def dVar (i : Nat) : Sem' PyData := fun en => match en[i]? with
  | some (.dat d) => .ok (d, en)
  | _ => .bad
def oVar (i : Nat) : Sem' Op := fun en => match en[i]? with
  | some (.own _ _) => .ok (.own i, en)
  | _ => .bad
def oVal (F : Sem' PyData) : Sem' Op := fun en => F en >>= fun p => .ok (.val p.1, p.2)
def dC (d : PyData) : Sem' PyData := fun en => .ok (d, en)
def lift {α : Type} (x : R α) : R α := match x with
  | .ok a => .ok a
  | _ => .bad
@[simp] theorem lift_ok {α : Type} (a : α) : lift (R.ok a) = R.ok a := rfl
@[simp] theorem lift_bad {α : Type} : lift (R.bad : R α) = R.bad := rfl
theorem lift_eq {α : Type} {x : R α} {a : α} (h : lift x = .ok a) : x = .ok a := by
  cases x with
  | ok b => exact h
  | exc n => cases h
  | bad => cases h
def d2 {α : Type} (op : PyData → PyData → R α) (F G : Sem' Op) : Sem' α := fun en => F en >>= fun p => G p.2 >>= fun q => lift (p.1.res q.2) >>= fun x => lift (q.1.res q.2) >>= fun y => lift (op x y) >>= fun z => .ok (z, q.2)
def d1 {α : Type} (op : PyData → R α) (F : Sem' Op) : Sem' α := fun en => F en >>= fun p => lift (p.1.res p.2) >>= fun x => lift (op x) >>= fun z => .ok (z, p.2)
def resAll (en : En) : List Op → R (List PyData)
  | [] => .ok []
  | o :: os => lift (o.res en) >>= fun d => resAll en os >>= fun ds => .ok (d :: ds)
def aNil : Sem' (List Op) := fun en => .ok ([], en)
def aCons (F : Sem' Op) (G : Sem' (List Op)) : Sem' (List Op) := fun en => F en >>= fun p => G p.2 >>= fun q => .ok (p.1 :: q.1, q.2)
def dA {α : Type} (op : List PyData → R α) (F : Sem' (List Op)) : Sem' α := fun en => F en >>= fun p => lift (resAll p.2 p.1) >>= fun ds => lift (op ds) >>= fun z => .ok (z, p.2)
def dFrz (F : Sem' (List PyData)) : Sem' PyData := fun en => F en >>= fun p => .ok (.list p.1, p.2)

section
variable {C : Ct} {X : Cx} {H0 H : Hp} {σ : L2.St} {en en' : En} {a b c : Expr} {F G : Sem' Op} {pos : Pos}
theorem RpXs.of : ∀ {vs : List V} {os : List Op} {ds : List PyData}, SR C.K C.T H0 H σ en → OpdsR C.K H0 σ vs os → resAll en os = .ok ds → RpXs C.K H0 H vs ds
  | [], [], ds, s, _, e => by
    have e : R.ok ([] : List PyData) = .ok ds := e
    cases e
    trivial
  | v :: vs, o :: os, ds, s, h, e => by
    have e : (lift (o.res en) >>= fun d => resAll en os >>= fun ds => R.ok (d :: ds)) = .ok ds := e
    cases e1 : o.res en with
    | ok d =>
      rw [e1] at e
      cases e2 : resAll en os with
      | ok ds' =>
        rw [e2] at e
        cases e
        exact ⟨OpdR.res s h.1 e1, RpXs.of s h.2 e2⟩
      | exc n => rw [e2] at e; cases e
      | bad => rw [e2] at e; cases e
    | exc n => rw [e1] at e; cases e
    | bad => rw [e1] at e; cases e
  | [], _ :: _, _, _, h, _ => h.elim
  | _ :: _, [], _, _, h, _ => h.elim

/-! ### names, constants -/
theorem de_var {i : Nat} (h : PE X a (tVar i)) : PE X a (tE C (dVar i)) := h.imp fun σ H Q ⟨H0, en, s, p⟩ => by
  unfold dVar at p
  split at p
  · rename_i d hi
    obtain ⟨v, e, r⟩ := s.dat i d hi
    exact ⟨v, e, p H0 H v Stp.refl s r⟩
  · exact p.elim
theorem do_var {i : Nat} (h : PE X a (tVar i)) : PE X a (tO C (oVar i)) := h.imp fun σ H Q ⟨H0, en, s, p⟩ => by
  unfold oVar at p
  split at p
  · rename_i io d hi
    obtain ⟨v, vs, e, r⟩ := s.own i io d hi
    exact ⟨.ref v, e, p H0 H (.ref v) Stp.refl s e⟩
  · exact p.elim
theorem do_val {F : Sem' PyData} (h : PE X a (tE C F)) : PE X a (tO C (oVal F)) := h.imp fun σ H Q ⟨H0, en, s, p⟩ => ⟨H0, en, s, by
  unfold oVal at p
  cases e : F en with
  | ok q => rw [e] at p; exact p
  | exc n => rw [e] at p; exact p
  | bad => rw [e] at p; exact p⟩
theorem de_c {v : V} {d : PyData} (h : PE X a (tC v)) (r : ∀ K H, Rp K H v d) : PE X a (tE C (dC d)) := h.imp fun σ H Q ⟨H0, en, s, p⟩ => p H0 H v Stp.refl s (r _ _)
theorem de_int {i : Int} {j pos} : PE X (.Constant (.int i) j pos) (tE C (dC (.int i))) := de_c pe_int fun _ _ => .int i
theorem de_bl {b : Bool} {j pos} : PE X (.Constant (.bool b) j pos) (tE C (dC (.bool b))) := de_c pe_bl fun _ _ => .bl b
theorem de_non {j pos} : PE X (.Constant .none j pos) (tE C (dC .none)) := de_c pe_non fun _ _ => .non
theorem de_str {x : Str} {j pos} : PE X (.Constant (.str x) j pos) (tE C (dC (.str x))) := de_c pe_str fun _ _ => .str x

/-! ### the joints by values -/
theorem out_post {d : PyData} {Q : VK} (s : SR C.K C.T H0 H σ en) (h : Post C (fun _ H0' _ v a => Rp C.K H0' v a) H0 H σ en Q (.ok (d, en))) : Out C H0 H d Q :=
  fun H0' H' v f g r => h H0' H' v f.stp (s.grown f g) r
theorem outN_post {ds : List PyData} {Q : VK} {Hs : Hp} (s : SR C.K C.T H0 H σ en) (hs : ∀ p, H p = none → Nw Hs p) (h : Post C (NewL C.K σ Hs) H0 H σ en Q (.ok (ds, en))) : OutN C H0 H ds Q :=
  fun p vs H' f g hp hp' r => h H0 H' (.ref p) f.stp (s.grown f g) ⟨p, vs, rfl, hs p hp, hp', fresh_back s.ex hp, r, fun ⟨i, io, ds, h1, h2⟩ => by
    obtain ⟨q, ws, e1, e2, _⟩ := s.own i io ds h1
    rw [h2] at e1
    cases e1
    rw [hp] at e2
    cases e2⟩
/-- the operands of two, then -/
theorem d2_go {α : Type} {rel : En → Hp → Hp → V → α → Prop} {op : PyData → PyData → R α} {ta tb : TE} {Q : VK} {K' : V → V → Hp → Prop} (ha : ∀ σ H Q, tO C F σ H Q → ta σ H Q) (hb : ∀ σ H Q, tO C G σ H Q → tb σ H Q)
    (s : SR C.K C.T H0 H σ en) (p : Post C rel H0 H σ en Q (d2 op F G en))
    (k : ∀ H01 H1 en1 x y dx dy z, SR C.K C.T H01 H1 σ en1 → (∀ q, H1 q = none → Nw H q) → RpX C.K H01 H1 x dx → RpX C.K H01 H1 y dy → op dx dy = .ok z → Post C rel H01 H1 σ en1 Q (.ok (z, en1)) → K' x y H1) :
    ta σ H fun x H1 => tb σ H1 fun y H2 => K' x y H2 := by
  refine ha σ H _ ⟨H0, en, s, post_bind (rel2 := rel) (f := fun x e1 => G e1 >>= fun q => lift (x.res q.2) >>= fun x => lift (q.1.res q.2) >>= fun y => lift (op x y) >>= fun z => .ok (z, q.2)) (Q2 := Q) p ?_⟩
  intro x en1 H01 H1 v1 _ st1 s1 r1 p1
  refine hb σ H1 _ ⟨H01, en1, s1, post_bind (rel2 := rel) (f := fun y e2 => lift (x.res e2) >>= fun x => lift (y.res e2) >>= fun y => lift (op x y) >>= fun z => .ok (z, e2)) (Q2 := Q) p1 ?_⟩
  intro y en2 H02 H2 v2 _ st2 s2 r2 p2
  cases e1 : x.res en2 with
  | ok dx =>
    rw [e1] at p2
    cases e2 : y.res en2 with
    | ok dy =>
      rw [e2] at p2
      cases e3 : op dx dy with
      | ok z =>
        have p2 : Post C rel H02 H2 σ en2 Q (lift (op dx dy) >>= fun z => .ok (z, en2)) := p2
        rw [e3] at p2
        exact k H02 H2 en2 v1 v2 dx dy z s2 (fun q hq => st1.fm.kp q (st2.fm.kp q (nw_of hq))) (OpdR.res s2 (r1.mono st2.fm.ex) e1) (OpdR.res s2 r2 e2) e3 p2
      | exc n =>
        have p2 : Post C rel H02 H2 σ en2 Q (lift (op dx dy) >>= fun z => .ok (z, en2)) := p2
        rw [e3] at p2; exact p2.elim
      | bad =>
        have p2 : Post C rel H02 H2 σ en2 Q (lift (op dx dy) >>= fun z => .ok (z, en2)) := p2
        rw [e3] at p2; exact p2.elim
    | exc n => rw [e2] at p2; exact p2.elim
    | bad => rw [e2] at p2; exact p2.elim
  | exc n => rw [e1] at p2; exact p2.elim
  | bad => rw [e1] at p2; exact p2.elim
theorem d1_go {α : Type} {rel : En → Hp → Hp → V → α → Prop} {op : PyData → R α} {ta : TE} {Q : VK} {K' : V → Hp → Prop} (ha : ∀ σ H Q, tO C F σ H Q → ta σ H Q)
    (s : SR C.K C.T H0 H σ en) (p : Post C rel H0 H σ en Q (d1 op F en))
    (k : ∀ H01 H1 en1 x dx z, SR C.K C.T H01 H1 σ en1 → (∀ q, H1 q = none → Nw H q) → RpX C.K H01 H1 x dx → op dx = .ok z → Post C rel H01 H1 σ en1 Q (.ok (z, en1)) → K' x H1) :
    ta σ H fun x H1 => K' x H1 := by
  refine ha σ H _ ⟨H0, en, s, post_bind (rel2 := rel) (f := fun x e1 => lift (x.res e1) >>= fun x => lift (op x) >>= fun z => .ok (z, e1)) (Q2 := Q) p ?_⟩
  intro x en1 H01 H1 v1 _ st1 s1 r1 p2
  cases e1 : x.res en1 with
  | ok dx =>
    have p2 : Post C rel H01 H1 σ en1 Q (lift (x.res en1) >>= fun x => lift (op x) >>= fun z => .ok (z, en1)) := p2
    rw [e1] at p2
    have p2 : Post C rel H01 H1 σ en1 Q (lift (op dx) >>= fun z => .ok (z, en1)) := p2
    cases e3 : op dx with
    | ok z =>
      rw [e3] at p2
      exact k H01 H1 en1 v1 dx z s1 (fun q hq => st1.fm.kp q (nw_of hq)) (OpdR.res s1 r1 e1) e3 p2
    | exc n => rw [e3] at p2; exact p2.elim
    | bad => rw [e3] at p2; exact p2.elim
  | exc n =>
    have p2 : Post C rel H01 H1 σ en1 Q (lift (x.res en1) >>= fun x => lift (op x) >>= fun z => .ok (z, en1)) := p2
    rw [e1] at p2; exact p2.elim
  | bad =>
    have p2 : Post C rel H01 H1 σ en1 Q (lift (x.res en1) >>= fun x => lift (op x) >>= fun z => .ok (z, en1)) := p2
    rw [e1] at p2; exact p2.elim
theorem idO {ta : TE} : ∀ σ H Q, ta σ H Q → ta σ H Q := fun _ _ _ h => h

/-! ### operators -/
theorem de_op {op : Operator} {r : R2} {f : PyData → PyData → R PyData} (ho : OpR X (binaryOp op) r) (hr : Rule2 C r f) (ha : PE X a (tO C F)) (hb : PE X b (tO C G)) : PE X (.BinOp a op b pos) (tE C (d2 f F G)) :=
  (pe_op ho ha hb).imp fun σ H Q ⟨H0, en, s, p⟩ => d2_go (K' := fun x y H2 => r x y H2 Q) idO idO s p fun H01 H1 en1 x y dx dy z s1 _ rx ry e p1 => hr H01 H1 x y dx dy z Q s1.good rx ry e (out_post s1 p1)
theorem dn_op {op : Operator} {r : R2} {f : PyData → PyData → R (List PyData)} (ho : OpR X (binaryOp op) r) (hr : Rule2N C r f) (ha : PE X a (tO C F)) (hb : PE X b (tO C G)) : PE X (.BinOp a op b pos) (tN C (d2 f F G)) :=
  (pe_op ho ha hb).imp fun σ H Q ⟨H0, en, s, p⟩ => d2_go (K' := fun x y H2 => r x y H2 Q) idO idO s p fun H01 H1 en1 x y dx dy z s1 hn rx ry e p1 => hr H01 H1 x y dx dy z Q s1.good rx ry e (outN_post s1 hn p1)
theorem de_cmp {op : CmpOp} {r : R2} {f : PyData → PyData → R PyData} (ho : OpR X (compareOp op) r) (hr : Rule2 C r f) (ha : PE X a (tO C F)) (hb : PE X b (tO C G)) (hm : behindInMarks op b = false) : PE X (.Compare a [op] [b] pos) (tE C (d2 f F G)) :=
  (pe_cmpR ho ha hb hm).imp fun σ H Q ⟨H0, en, s, p⟩ => d2_go (K' := fun x y H2 => r x y H2 Q) idO idO s p fun H01 H1 en1 x y dx dy z s1 _ rx ry e p1 => hr H01 H1 x y dx dy z Q s1.good rx ry e (out_post s1 p1)
theorem de_ix {r : R2} {f : PyData → PyData → R PyData} (ho : IxR X r) (hr : Rule2 C r f) (ha : PE X a (tO C F)) (hb : PE X b (tO C G)) (hs : PlainIx b) : PE X (.Subscript a b pos) (tE C (d2 f F G)) :=
  (pe_ix ho ha hb hs).imp fun σ H Q ⟨H0, en, s, p⟩ => d2_go (K' := fun x y H2 => r x y H2 Q) idO idO s p fun H01 H1 en1 x y dx dy z s1 _ rx ry e p1 => hr H01 H1 x y dx dy z Q s1.good rx ry e (out_post s1 p1)
theorem de_un {op : UnaryOp} {r : V → Hp → VK → Prop} {f : PyData → R PyData} (ho : UnR X (unaryOp op) r) (hr : Rule1 C r f) (ha : PE X a (tO C F)) : PE X (.UnaryOp op a pos) (tE C (d1 f F)) :=
  (pe_un ho ha).imp fun σ H Q ⟨H0, en, s, p⟩ => d1_go (K' := fun x H2 => r x H2 Q) idO s p fun H01 H1 en1 x dx z s1 _ rx e p1 => hr H01 H1 x dx z Q s1.good rx e (out_post s1 p1)
/-- a new list becomes data -/
theorem de_frz {F : Sem' (List PyData)} (h : PE X a (tN C F)) : PE X a (tE C (dFrz F)) := h.imp fun σ H Q ⟨H0, en, s, p⟩ => ⟨H0, en, s, by
  unfold dFrz at p
  cases e : F en with
  | ok q =>
    rw [e] at p
    obtain ⟨ds, en'⟩ := q
    intro H0' H' v st sr ⟨q, vs, ev, hn, hq, h0, r, no⟩
    subst ev
    refine p (upd H0' q (.lst vs)) H' (.ref q) ⟨Fm.frz hn hq st.fm h0, st.ow, st.io⟩ ?_ (.lst (Rd.of upd_same) (r.mono (Ex.new h0)))
    refine ⟨sr.len, (sr.good.frz hq h0 fun _ z => by cases z).ex, sr.tb, (sr.good.frz hq h0 fun _ z => by cases z).nt, fun i d hi => ?_, fun i io es hi => ?_, sr.sep⟩
    · obtain ⟨v, e1, r1⟩ := sr.dat i d hi
      exact ⟨v, e1, r1.mono (Ex.new h0)⟩
    · obtain ⟨p', ws, e1, e2, e3, r1⟩ := sr.own i io es hi
      have ne : p' ≠ q := fun z => no ⟨i, io, es, hi, by rw [← z]; exact e1⟩
      exact ⟨p', ws, e1, e2, by rw [upd_ne ne]; exact e3, r1.mono (Ex.new h0)⟩
  | exc n => rw [e] at p; exact p
  | bad => rw [e] at p; exact p⟩
end
end PD
end
section
namespace PD
open PySem PySem.Spec PyProof.Rows L2 Evl

/-! ### tests -/
def dB (F : Sem' PyData) : Sem' Bool := fun en => F en >>= fun p => match p.1 with
  | .bool b => .ok (b, p.2)
  | _ => .bad
def dOfB (F : Sem' Bool) : Sem' PyData := fun en => F en >>= fun p => .ok (.bool p.1, p.2)
def dNot (F : Sem' Bool) : Sem' Bool := fun en => F en >>= fun p => .ok (!p.1, p.2)
def dAnd (F G : Sem' Bool) : Sem' Bool := fun en => F en >>= fun p => if p.1 then G p.2 else .ok (false, p.2)
def dOr (F G : Sem' Bool) : Sem' Bool := fun en => F en >>= fun p => if p.1 then .ok (true, p.2) else G p.2
def dIf {α : Type} (T : Sem' Bool) (F G : Sem' α) : Sem' α := fun en => T en >>= fun p => if p.1 then F p.2 else G p.2

section
variable {C : Ct} {X : Cx} {H0 H H0' H' : Hp} {σ : L2.St} {en en' : En} {a b c : Expr} {pos : Pos} {α β : Type}
theorem postB_bind {rel : En → Hp → Hp → V → α → Prop} {Q : VK} {Q2 : Bool → Hp → Prop} {x : R (α × En)} {f : α → En → R (Bool × En)}
    (h : PostB C H0 H σ en Q2 (x >>= fun p => f p.1 p.2))
    (k : ∀ a en1 H01 H1 v, x = .ok (a, en1) → Stp σ en H0 H σ en1 H01 H1 → SR C.K C.T H01 H1 σ en1 → rel en1 H01 H1 v a → PostB C H01 H1 σ en1 Q2 (f a en1) → Q v H1) : Post C rel H0 H σ en Q x := by
  cases x with
  | ok p =>
    obtain ⟨a, en1⟩ := p
    intro H01 H1 v st sr r
    refine k a en1 H01 H1 v rfl st sr r ?_
    have h : PostB C H0 H σ en Q2 (f a en1) := h
    revert h
    cases f a en1 with
    | ok q => exact fun h H0' H' st' sr' => h H0' H' (st.trans st') sr'
    | exc n => exact fun h => Ct.err_at h st.fm st.ow
    | bad => exact fun h => h
  | exc n => exact h
  | bad => exact h.elim
theorem post_bindB {rel2 : En → Hp → Hp → V → β → Prop} {Q : Bool → Hp → Prop} {Q2 : VK} {x : R (Bool × En)} {f : Bool → En → R (β × En)}
    (h : Post C rel2 H0 H σ en Q2 (x >>= fun p => f p.1 p.2))
    (k : ∀ a en1 H01 H1, x = .ok (a, en1) → Stp σ en H0 H σ en1 H01 H1 → SR C.K C.T H01 H1 σ en1 → Post C rel2 H01 H1 σ en1 Q2 (f a en1) → Q a H1) : PostB C H0 H σ en Q x := by
  cases x with
  | ok p =>
    obtain ⟨a, en1⟩ := p
    intro H01 H1 st sr
    refine k a en1 H01 H1 rfl st sr ?_
    have h : Post C rel2 H0 H σ en Q2 (f a en1) := h
    revert h
    cases f a en1 with
    | ok q => exact fun h H0' H' v' st' sr' r' => h H0' H' v' (st.trans st') sr' r'
    | exc n => exact fun h => Ct.err_at h st.fm st.ow
    | bad => exact fun h => h
  | exc n => exact h
  | bad => exact h.elim
theorem postB_bindB {Q Q2 : Bool → Hp → Prop} {x : R (Bool × En)} {f : Bool → En → R (Bool × En)}
    (h : PostB C H0 H σ en Q2 (x >>= fun p => f p.1 p.2))
    (k : ∀ a en1 H01 H1, x = .ok (a, en1) → Stp σ en H0 H σ en1 H01 H1 → SR C.K C.T H01 H1 σ en1 → PostB C H01 H1 σ en1 Q2 (f a en1) → Q a H1) : PostB C H0 H σ en Q x := by
  cases x with
  | ok p =>
    obtain ⟨a, en1⟩ := p
    intro H01 H1 st sr
    refine k a en1 H01 H1 rfl st sr ?_
    have h : PostB C H0 H σ en Q2 (f a en1) := h
    revert h
    cases f a en1 with
    | ok q => exact fun h H0' H' st' sr' => h H0' H' (st.trans st') sr'
    | exc n => exact fun h => Ct.err_at h st.fm st.ow
    | bad => exact fun h => h
  | exc n => exact h
  | bad => exact h.elim
theorem dt_of {F : Sem' PyData} {t : TE} (h : PT X a (tB t)) (i : ∀ σ H Q, tE C F σ H Q → t σ H Q) : PT X a (tT C (dB F)) := h.imp fun σ H Q ⟨H0, en, s, p⟩ => i σ H _ ⟨H0, en, s, by
  refine postB_bind (f := fun d e => match d with
    | .bool b => .ok (b, e)
    | _ => .bad) (Q2 := Q) p fun d en1 H01 H1 v _ st sr r p1 => ?_
  cases d with
  | bool b =>
    cases r
    exact ⟨b, rfl, p1 H01 H1 Stp.refl sr⟩
  | _ => exact p1.elim⟩
theorem dt_val {F : Sem' PyData} (h : PE X a (tE C F)) (he : ∀ whole, isTrue a X.env whole = (do let v ← whole; standAt a.pos; holding [v] (truthy v)) := by intro _; rfl) : PT X a (tT C (dB F)) := dt_of (pt_val h he) fun _ _ _ h => h
theorem dt_cmp {F G : Sem' Op} {op : CmpOp} {r : R2} {f : PyData → PyData → R PyData} (ho : OpR X (compareOp op) r) (hr : Rule2 C r f) (ha : PE X a (tO C F)) (hb : PE X b (tO C G)) (hm : behindInMarks op b = false) : PT X (.Compare a [op] [b] pos) (tT C (dB (d2 f F G))) :=
  dt_of (pt_cmpR ho ha hb hm) fun σ H Q ⟨H0, en, s, p⟩ => d2_go (K' := fun x y H2 => r x y H2 Q) idO idO s p fun H01 H1 en1 x y dx dy z s1 _ rx ry e p1 => hr H01 H1 x y dx dy z Q s1.good rx ry e (out_post s1 p1)
theorem de_ofB {F : Sem' Bool} {t : TE} (h : PE X a t) (i : ∀ σ H (Q : VK), tT C F σ H (fun b H1 => Q (.bl b) H1) → t σ H Q) : PE X a (tE C (dOfB F)) := h.imp fun σ H Q ⟨H0, en, s, p⟩ => i σ H _ ⟨H0, en, s,
  post_bindB (rel2 := fun _ H0' _ v a => Rp C.K H0' v a) (f := fun (b : Bool) e => R.ok (PyData.bool b, e)) (Q2 := Q) p fun b en1 H01 H1 _ st sr p1 => p1 H01 H1 (V.bl b) Stp.refl sr (.bl b)⟩
theorem dt_not {F : Sem' Bool} (h : PT X a (tT C F)) : PT X (.UnaryOp .Not a pos) (tT C (dNot F)) := (pt_not h).imp fun σ H Q ⟨H0, en, s, p⟩ => ⟨H0, en, s,
  postB_bindB (f := fun b e => .ok (!b, e)) (Q2 := Q) p fun b en1 H01 H1 _ st sr p1 => p1 H01 H1 Stp.refl sr⟩
variable {rest : List Expr} {F G : Sem' Bool}
theorem dw_1and (h : PT X a (tT C F)) : PW X (.BoolOp .And [a] pos) (tT C F) := pw_and1 h
theorem dw_1or (h : PT X a (tT C F)) : PW X (.BoolOp .Or [a] pos) (tT C F) := pw_or1 h
theorem dw_and (h : PT X a (tT C F)) (hb : PW X (.BoolOp .And (b :: rest) pos) (tT C G)) : PW X (.BoolOp .And (a :: b :: rest) pos) (tT C (dAnd F G)) := (pw_and h hb).imp fun σ H Q ⟨H0, en, s, p⟩ => ⟨H0, en, s,
  postB_bindB (f := fun b e => if b then G e else .ok (false, e)) (Q2 := Q) p fun b en1 H01 H1 _ st sr p1 => by
    cases b with
    | true => rw [if_pos rfl]; exact ⟨H01, en1, sr, p1⟩
    | false => rw [if_neg Bool.false_ne_true]; exact p1 H01 H1 Stp.refl sr⟩
theorem dw_or (h : PT X a (tT C F)) (hb : PW X (.BoolOp .Or (b :: rest) pos) (tT C G)) : PW X (.BoolOp .Or (a :: b :: rest) pos) (tT C (dOr F G)) := (pw_or h hb).imp fun σ H Q ⟨H0, en, s, p⟩ => ⟨H0, en, s,
  postB_bindB (f := fun b e => if b then .ok (true, e) else G e) (Q2 := Q) p fun b en1 H01 H1 _ st sr p1 => by
    cases b with
    | true => rw [if_pos rfl]; exact p1 H01 H1 Stp.refl sr
    | false => rw [if_neg Bool.false_ne_true]; exact ⟨H01, en1, sr, p1⟩⟩
/-- values that are truth values -/
def dBV (F : Sem' PyData) : Sem' PyData := fun en => F en >>= fun p => match p.1 with
  | .bool b => .ok (.bool b, p.2)
  | _ => .bad
def dAndV (F G : Sem' PyData) : Sem' PyData := fun en => F en >>= fun p => match p.1 with
  | .bool b => if b then G p.2 else .ok (.bool false, p.2)
  | _ => .bad
def dOrV (F G : Sem' PyData) : Sem' PyData := fun en => F en >>= fun p => match p.1 with
  | .bool b => if b then .ok (.bool true, p.2) else G p.2
  | _ => .bad
def dNotV (F : Sem' PyData) : Sem' PyData := fun en => F en >>= fun p => match p.1 with
  | .bool b => .ok (.bool (!b), p.2)
  | _ => .bad
section
variable {F G : Sem' PyData}
theorem de_one {op} (h : PE X a (tE C F)) : PE X (.BoolOp op [a] pos) (tE C F) := pe_one h
theorem de_and (h : PE X a (tE C F)) (hb : PE X (.BoolOp .And (b :: rest) pos) (tE C G)) : PE X (.BoolOp .And (a :: b :: rest) pos) (tE C (dAndV F G)) := (pe_and h hb).imp fun σ H Q ⟨H0, en, s, p⟩ => ⟨H0, en, s,
  post_bind (rel2 := fun _ H0' _ v a => Rp C.K H0' v a) (f := fun d e => match d with
    | .bool b => if b then G e else .ok (.bool false, e)
    | _ => .bad) (Q2 := Q) p fun d en1 H01 H1 v _ st sr r p1 => by
    cases d with
    | bool b =>
      cases r
      refine ⟨b, rfl, ?_⟩
      cases b with
      | true => rw [if_pos rfl]; exact ⟨H01, en1, sr, p1⟩
      | false => rw [if_neg Bool.false_ne_true]; exact p1 H01 H1 _ Stp.refl sr (.bl false)
    | _ => exact p1.elim⟩
theorem de_or (h : PE X a (tE C F)) (hb : PE X (.BoolOp .Or (b :: rest) pos) (tE C G)) : PE X (.BoolOp .Or (a :: b :: rest) pos) (tE C (dOrV F G)) := (pe_or h hb).imp fun σ H Q ⟨H0, en, s, p⟩ => ⟨H0, en, s,
  post_bind (rel2 := fun _ H0' _ v a => Rp C.K H0' v a) (f := fun d e => match d with
    | .bool b => if b then .ok (.bool true, e) else G e
    | _ => .bad) (Q2 := Q) p fun d en1 H01 H1 v _ st sr r p1 => by
    cases d with
    | bool b =>
      cases r
      refine ⟨b, rfl, ?_⟩
      cases b with
      | true => rw [if_pos rfl]; exact p1 H01 H1 _ Stp.refl sr (.bl true)
      | false => rw [if_neg Bool.false_ne_true]; exact ⟨H01, en1, sr, p1⟩
    | _ => exact p1.elim⟩
theorem de_not (h : PE X a (tE C F)) : PE X (.UnaryOp .Not a pos) (tE C (dNotV F)) := (pe_not h).imp fun σ H Q ⟨H0, en, s, p⟩ => ⟨H0, en, s,
  post_bind (rel2 := fun _ H0' _ v a => Rp C.K H0' v a) (f := fun d e => match d with
    | .bool b => .ok (.bool (!b), e)
    | _ => .bad) (Q2 := Q) p fun d en1 H01 H1 v _ st sr r p1 => by
    cases d with
    | bool b =>
      cases r
      exact ⟨b, rfl, p1 H01 H1 _ Stp.refl sr (.bl _)⟩
    | _ => exact p1.elim⟩
end
theorem de_if {T : Sem' Bool} {F G : Sem' PyData} (hc : PT X c (tT C T)) (ha : PE X a (tE C F)) (hb : PE X b (tE C G)) : PE X (.IfExp c a b pos) (tE C (dIf T F G)) := (pe_ifExp hc ha hb).imp fun σ H Q ⟨H0, en, s, p⟩ => ⟨H0, en, s,
  post_bindB (rel2 := fun _ H0' _ v a => Rp C.K H0' v a) (f := fun b e => if b then F e else G e) (Q2 := Q) p fun b en1 H01 H1 _ st sr p1 => by
    cases b with
    | true => rw [if_pos rfl]; exact ⟨H01, en1, sr, p1⟩
    | false => rw [if_neg Bool.false_ne_true]; exact ⟨H01, en1, sr, p1⟩⟩

/-! ### chains of two comparisons -/
def dChain (op op' : PyData → PyData → R PyData) (F G I : Sem' Op) : Sem' PyData := fun en => F en >>= fun p => G p.2 >>= fun q => lift (p.1.res q.2) >>= fun x => lift (q.1.res q.2) >>= fun y => lift (op x y) >>= fun z => match z with
  | .bool b => if b then I q.2 >>= fun r => lift (q.1.res r.2) >>= fun y' => lift (r.1.res r.2) >>= fun w => lift (op' y' w) >>= fun z' => .ok (z', r.2) else .ok (.bool false, q.2)
  | _ => .bad
/-! ### arguments -/
theorem da_nil : PA X [] (tA C aNil) := pa_nil.imp fun σ H Q ⟨H0, en, s, p⟩ => p H0 H [] Stp.refl s trivial
theorem postA_bind {rel : En → Hp → Hp → V → α → Prop} {Q : VK} {Q2 : List V → Hp → Prop} {x : R (α × En)} {f : α → En → R (List Op × En)}
    (h : PostA C H0 H σ en Q2 (x >>= fun p => f p.1 p.2))
    (k : ∀ a en1 H01 H1 v, x = .ok (a, en1) → Stp σ en H0 H σ en1 H01 H1 → SR C.K C.T H01 H1 σ en1 → rel en1 H01 H1 v a → PostA C H01 H1 σ en1 Q2 (f a en1) → Q v H1) : Post C rel H0 H σ en Q x := by
  cases x with
  | ok p =>
    obtain ⟨a, en1⟩ := p
    intro H01 H1 v st sr r
    refine k a en1 H01 H1 v rfl st sr r ?_
    have h : PostA C H0 H σ en Q2 (f a en1) := h
    revert h
    cases f a en1 with
    | ok q => exact fun h H0' H' vs st' sr' => h H0' H' vs (st.trans st') sr'
    | exc n => exact fun h => Ct.err_at h st.fm st.ow
    | bad => exact fun h => h
  | exc n => exact h
  | bad => exact h.elim
theorem post_bindA {rel2 : En → Hp → Hp → V → β → Prop} {Q : List V → Hp → Prop} {Q2 : VK} {x : R (List Op × En)} {f : List Op → En → R (β × En)}
    (h : Post C rel2 H0 H σ en Q2 (x >>= fun p => f p.1 p.2))
    (k : ∀ a en1 H01 H1 vs, x = .ok (a, en1) → Stp σ en H0 H σ en1 H01 H1 → SR C.K C.T H01 H1 σ en1 → OpdsR C.K H01 σ vs a → Post C rel2 H01 H1 σ en1 Q2 (f a en1) → Q vs H1) : PostA C H0 H σ en Q x := by
  cases x with
  | ok p =>
    obtain ⟨a, en1⟩ := p
    intro H01 H1 vs st sr r
    refine k a en1 H01 H1 vs rfl st sr r ?_
    have h : Post C rel2 H0 H σ en Q2 (f a en1) := h
    revert h
    cases f a en1 with
    | ok q => exact fun h H0' H' v' st' sr' r' => h H0' H' v' (st.trans st') sr' r'
    | exc n => exact fun h => Ct.err_at h st.fm st.ow
    | bad => exact fun h => h
  | exc n => exact h
  | bad => exact h.elim
theorem postA_bindA {Q Q2 : List V → Hp → Prop} {x : R (List Op × En)} {f : List Op → En → R (List Op × En)}
    (h : PostA C H0 H σ en Q2 (x >>= fun p => f p.1 p.2))
    (k : ∀ a en1 H01 H1 vs, x = .ok (a, en1) → Stp σ en H0 H σ en1 H01 H1 → SR C.K C.T H01 H1 σ en1 → OpdsR C.K H01 σ vs a → PostA C H01 H1 σ en1 Q2 (f a en1) → Q vs H1) : PostA C H0 H σ en Q x := by
  cases x with
  | ok p =>
    obtain ⟨a, en1⟩ := p
    intro H01 H1 vs st sr r
    refine k a en1 H01 H1 vs rfl st sr r ?_
    have h : PostA C H0 H σ en Q2 (f a en1) := h
    revert h
    cases f a en1 with
    | ok q => exact fun h H0' H' v' st' sr' r' => h H0' H' v' (st.trans st') sr' r'
    | exc n => exact fun h => Ct.err_at h st.fm st.ow
    | bad => exact fun h => h
  | exc n => exact h
  | bad => exact h.elim
theorem da_cons {F : Sem' Op} {G : Sem' (List Op)} {es : List Expr} (ha : PE X a (tO C F)) (hr : PA X es (tA C G)) (hs : starEach (a :: es) X.env = (false, eval a X.env) :: starEach es X.env := by rfl) : PA X (a :: es) (tA C (aCons F G)) :=
  (pa_cons ha hr hs).imp fun σ H Q ⟨H0, en, s, p⟩ => ⟨H0, en, s,
    postA_bind (f := fun x e => G e >>= fun q => .ok (x :: q.1, q.2)) (Q2 := Q) p fun x en1 H01 H1 v _ st sr r p1 => ⟨H01, en1, sr,
      postA_bindA (f := fun xs e => .ok (x :: xs, e)) (Q2 := Q) p1 fun xs en2 H02 H2 vs _ st2 sr2 rs p2 => p2 H02 H2 (v :: vs) Stp.refl sr2 ⟨r.mono st2.fm.ex, rs⟩⟩⟩
/-- data, all of them -/
def vals : List Op → R (List PyData)
  | [] => .ok []
  | .val d :: os => vals os >>= fun ds => .ok (d :: ds)
  | .own _ :: _ => .bad
theorem vals_rp : ∀ {vs : List V} {os : List Op} {ds : List PyData}, OpdsR C.K H0 σ vs os → vals os = .ok ds → RpAll C.K H0 vs ds
  | [], [], ds, _, e => by
    have e : R.ok ([] : List PyData) = .ok ds := e
    cases e
    exact .nil
  | v :: vs, .val d :: os, ds, h, e => by
    have e : (vals os >>= fun ds => R.ok (d :: ds)) = .ok ds := e
    cases e2 : vals os with
    | ok ds' =>
      rw [e2] at e
      cases e
      exact .cons h.1 (vals_rp h.2 e2)
    | exc n => rw [e2] at e; cases e
    | bad => rw [e2] at e; cases e
  | v :: vs, .own i :: os, ds, h, e => by cases (show R.bad = R.ok ds from e)
  | [], _ :: _, _, h, _ => h.elim
  | _ :: _, [], _, h, _ => h.elim
def few {α : Type} (n : Nat) (x : R α) : R α := if n ≤ 100000 then x else .bad
def dTup (F : Sem' (List Op)) : Sem' PyData := fun en => F en >>= fun p => lift (vals p.1) >>= fun ds => few ds.length (.ok (.tuple ds, p.2))
def dLst (F : Sem' (List Op)) : Sem' (List PyData) := fun en => F en >>= fun p => lift (vals p.1) >>= fun ds => few ds.length (.ok (ds, p.2))
theorem dA_go {γ : Type} {rel : En → Hp → Hp → V → γ → Prop} {fin : List Op → En → R (List PyData)} {op : List PyData → En → R (γ × En)} {F : Sem' (List Op)} {Q : VK} {K' : List V → Hp → Prop}
    (s : SR C.K C.T H0 H σ en) (p : Post C rel H0 H σ en Q (F en >>= fun p => lift (fin p.1 p.2) >>= fun ds => op ds p.2))
    (k : ∀ H01 H1 en1 vs os ds, SR C.K C.T H01 H1 σ en1 → (∀ q, H1 q = none → Nw H q) → OpdsR C.K H01 σ vs os → fin os en1 = .ok ds → Post C rel H01 H1 σ en1 Q (op ds en1) → K' vs H1) : tA C F σ H K' :=
  ⟨H0, en, s, post_bindA (rel2 := rel) (f := fun os e => lift (fin os e) >>= fun ds => op ds e) (Q2 := Q) p fun os en1 H01 H1 vs _ st sr rs p1 => by
    have p1 : Post C rel H01 H1 σ en1 Q (lift (fin os en1) >>= fun ds => op ds en1) := p1
    cases e1 : fin os en1 with
    | ok ds =>
      rw [e1] at p1
      exact k H01 H1 en1 vs os ds sr (fun q hq => st.fm.kp q (nw_of hq)) rs e1 p1
    | exc n => rw [e1] at p1; exact p1.elim
    | bad => rw [e1] at p1; exact p1.elim⟩
theorem few_ok {α : Type} {n : Nat} {x : R α} (p : R α → Prop) (hb : ¬ p .bad) (h : p (few n x)) : n ≤ 100000 ∧ p x := by
  unfold few at h
  split at h
  · exact ⟨by assumption, h⟩
  · exact absurd h hb
theorem de_tup {F : Sem' (List Op)} {es : List Expr} {x1} (h : PA X es (tA C F)) : PE X (.Tuple es x1 pos) (tE C (dTup F)) := (pe_tup h).imp fun σ H Q ⟨H0, en, s, p⟩ =>
  dA_go (fin := fun os _ => vals os) (op := fun ds e => few ds.length (R.ok (PyData.tuple ds, e))) s p fun H01 H1 en1 vs os ds s1 _ rs e p1 => by
    have r := vals_rp rs e
    obtain ⟨hl, p2⟩ := few_ok (fun x => Post C (fun _ H0' _ v a => Rp C.K H0' v a) H01 H1 σ en1 Q x) (fun h => h) p1
    refine ⟨sz_of (by rw [r.length]; exact hl), fun q hq => ?_⟩
    exact out_post s1 p2 _ _ (.ref q) (Fm.new s1.ex hq) (s1.good.new hq fun _ z => by cases z) (.tup (st_of upd_same) (r.mono (Ex.new (fresh_back s1.ex hq))))
theorem dn_lst {F : Sem' (List Op)} {es : List Expr} (h : PA X es (tA C F)) : PE X (.List es pos) (tN C (dLst F)) := (pe_lst h).imp fun σ H Q ⟨H0, en, s, p⟩ =>
  dA_go (fin := fun os _ => vals os) (op := fun ds e => few ds.length (.ok (ds, e))) s p fun H01 H1 en1 vs os ds s1 hn rs e p1 => by
    have r := vals_rp rs e
    obtain ⟨hl, p2⟩ := few_ok (fun x => Post C (NewL C.K σ H) H01 H1 σ en1 Q x) (fun h => h) p1
    refine ⟨sz_of (by rw [r.length]; exact hl), fun q hq => ?_⟩
    exact outN_post s1 hn p2 q vs _ (Fm.newO hq) (s1.good.newO hq) hq upd_same r
/-! ### built-ins by their names -/
theorem de_callB {x : Str} {p : Pos} {es : List Expr} {id : String} {r : List V → Hp → VK → Prop} {f : List PyData → R PyData} {F : Sem' (List Op)} (hc : CallR X (.builtin id) r) (hr : RuleC C r f) (hg : Gl X x) (hm : X.mg x = none) (hv : bootBuiltins x = some (.builtin id)) (ha : PA X (a :: es) (tA C F)) (hn : x ≠ "__name__" := by decide) (hdb : (x == ("__debug__" : Str)) = false := by decide)
    (he : starEach (a :: es) X.env = (false, eval a X.env) :: starEach es X.env := by rfl) (hpl : (backTo pos (starEach es X.env)).any (·.1) = false := by rfl) : PE X (.Call (.Name x p) (a :: es) [] pos) (tE C (dA f F)) :=
  (pe_callB hc hg hm hv ha hn hdb he hpl).imp fun σ H Q ⟨H0, en, s, p⟩ => dA_go (fin := fun os e => resAll e os) (op := fun ds e => lift (f ds) >>= fun z => .ok (z, e)) s p fun H01 H1 en1 vs os ds s1 hn rs e p1 => by
    have p1 : Post C (fun _ H0' _ v a => Rp C.K H0' v a) H01 H1 σ en1 Q (lift (f ds) >>= fun z => .ok (z, en1)) := p1
    cases e1 : f ds with
    | ok z =>
      rw [e1] at p1
      exact hr H01 H1 vs ds z Q s1.good (RpXs.of s1 rs e) e1 (out_post s1 p1)
    | exc n => rw [e1] at p1; exact p1.elim
    | bad => rw [e1] at p1; exact p1.elim
theorem de_callT {x : Str} {p : Pos} {es : List Expr} {id : String} {r : List V → Hp → VK → Prop} {f : List PyData → R PyData} {F : Sem' (List Op)} (hc : CallR X (.type id) r) (hr : RuleC C r f) (hg : Gl X x) (hm : X.mg x = none) (hv : bootBuiltins x = some (.type id)) (ha : PA X (a :: es) (tA C F)) (hn : x ≠ "__name__" := by decide) (hdb : (x == ("__debug__" : Str)) = false := by decide)
    (he : starEach (a :: es) X.env = (false, eval a X.env) :: starEach es X.env := by rfl) (hpl : (backTo pos (starEach es X.env)).any (·.1) = false := by rfl) : PE X (.Call (.Name x p) (a :: es) [] pos) (tE C (dA f F)) :=
  (pe_callTy hc hg hm hv ha hn hdb he hpl).imp fun σ H Q ⟨H0, en, s, p⟩ => dA_go (fin := fun os e => resAll e os) (op := fun ds e => lift (f ds) >>= fun z => .ok (z, e)) s p fun H01 H1 en1 vs os ds s1 hn rs e p1 => by
    have p1 : Post C (fun _ H0' _ v a => Rp C.K H0' v a) H01 H1 σ en1 Q (lift (f ds) >>= fun z => .ok (z, en1)) := p1
    cases e1 : f ds with
    | ok z =>
      rw [e1] at p1
      exact hr H01 H1 vs ds z Q s1.good (RpXs.of s1 rs e) e1 (out_post s1 p1)
    | exc n => rw [e1] at p1; exact p1.elim
    | bad => rw [e1] at p1; exact p1.elim
theorem dn_callB {x : Str} {p : Pos} {es : List Expr} {id : String} {r : List V → Hp → VK → Prop} {f : List PyData → R (List PyData)} {F : Sem' (List Op)} (hc : CallR X (.builtin id) r) (hr : RuleCN C r f) (hg : Gl X x) (hm : X.mg x = none) (hv : bootBuiltins x = some (.builtin id)) (ha : PA X (a :: es) (tA C F)) (hn : x ≠ "__name__" := by decide) (hdb : (x == ("__debug__" : Str)) = false := by decide)
    (he : starEach (a :: es) X.env = (false, eval a X.env) :: starEach es X.env := by rfl) (hpl : (backTo pos (starEach es X.env)).any (·.1) = false := by rfl) : PE X (.Call (.Name x p) (a :: es) [] pos) (tN C (dA f F)) :=
  (pe_callB hc hg hm hv ha hn hdb he hpl).imp fun σ H Q ⟨H0, en, s, p⟩ => dA_go (fin := fun os e => resAll e os) (op := fun ds e => lift (f ds) >>= fun z => .ok (z, e)) s p fun H01 H1 en1 vs os ds s1 hn rs e p1 => by
    have p1 : Post C (NewL C.K σ H) H01 H1 σ en1 Q (lift (f ds) >>= fun z => .ok (z, en1)) := p1
    cases e1 : f ds with
    | ok z =>
      rw [e1] at p1
      exact hr H01 H1 vs ds z Q s1.good (RpXs.of s1 rs e) e1 (outN_post s1 hn p1)
    | exc n => rw [e1] at p1; exact p1.elim
    | bad => rw [e1] at p1; exact p1.elim
theorem dn_callT {x : Str} {p : Pos} {es : List Expr} {id : String} {r : List V → Hp → VK → Prop} {f : List PyData → R (List PyData)} {F : Sem' (List Op)} (hc : CallR X (.type id) r) (hr : RuleCN C r f) (hg : Gl X x) (hm : X.mg x = none) (hv : bootBuiltins x = some (.type id)) (ha : PA X (a :: es) (tA C F)) (hn : x ≠ "__name__" := by decide) (hdb : (x == ("__debug__" : Str)) = false := by decide)
    (he : starEach (a :: es) X.env = (false, eval a X.env) :: starEach es X.env := by rfl) (hpl : (backTo pos (starEach es X.env)).any (·.1) = false := by rfl) : PE X (.Call (.Name x p) (a :: es) [] pos) (tN C (dA f F)) :=
  (pe_callTy hc hg hm hv ha hn hdb he hpl).imp fun σ H Q ⟨H0, en, s, p⟩ => dA_go (fin := fun os e => resAll e os) (op := fun ds e => lift (f ds) >>= fun z => .ok (z, e)) s p fun H01 H1 en1 vs os ds s1 hn rs e p1 => by
    have p1 : Post C (NewL C.K σ H) H01 H1 σ en1 Q (lift (f ds) >>= fun z => .ok (z, en1)) := p1
    cases e1 : f ds with
    | ok z =>
      rw [e1] at p1
      exact hr H01 H1 vs ds z Q s1.good (RpXs.of s1 rs e) e1 (outN_post s1 hn p1)
    | exc n => rw [e1] at p1; exact p1.elim
    | bad => rw [e1] at p1; exact p1.elim
end
end PD
end
section
namespace PD
open PySem PySem.Spec PyProof.Rows L2 Evl

/-! ### what is walked -/
structure ItD (C : Ct) (J : It) (xs : List PyData) (P : Hp → Hp → Prop) : Prop where
  go : ∀ H0' H' (i : Nat) (x : PyData), P H0' H' → Good C H0' H' → xs[i]? = some x → J.go i H' ∧ ∀ v H3, J.yld i H' v H3 → ∃ H03, Fm (fun _ => False) H0' H' H03 H3 ∧ Good C H03 H3 ∧ Rp C.K H03 v x
  stop : ∀ H0' H', P H0' H' → Good C H0' H' → J.stop xs.length H'
/-- the items, the slots whose lists are walked -/
abbrev Its' := List PyData × List Nat
def Keeps (C : Ct) (ws : List Nat) (σ : L2.St) (en : En) (H0 : Hp) (P : Hp → Hp → Prop) : Prop := ∀ H0' H' σ' e, Ex H0 H0' → SR C.K C.T H0' H' σ' e → (∀ i ∈ ws, σ'[i]? = σ[i]? ∧ e[i]? = en[i]?) → P H0' H'
def PostI (C : Ct) (H0 H : Hp) (σ : L2.St) (en : En) (Rk : It → Hp → Prop) : R (Its' × En) → Prop
  | .ok (q, en') => ∀ H0' H' J P, Stp σ en H0 H σ en' H0' H' → SR C.K C.T H0' H' σ en' → ItD C J q.1 P → Keeps C q.2 σ en' H0' P → Rk J H'
  | .exc n => C.err (OwnA σ en) H0 H n
  | .bad => False
def tI (C : Ct) (F : Sem' Its') : TI := fun σ H Rk => ∃ H0 en, SR C.K C.T H0 H σ en ∧ PostI C H0 H σ en Rk (F en)
/-- targets: is, the slots that may change -/
def PostG (C : Ct) (js : List Nat) (H0 H : Hp) (σ : L2.St) (en : En) (Q : L2.St → Hp → Prop) : R En → Prop
  | .ok en' => ∀ σ', σ'.length = σ.length → (∀ j : Nat, j ∉ js → σ'[j]? = σ[j]?) → Stp σ en H0 H σ' en' H0 H → SR C.K C.T H0 H σ' en' → Q σ' H
  | _ => False
def gD (C : Ct) (js : List Nat) (G : PyData → En → R En) : TG := fun v σ H Q => ∃ H0 en d, SR C.K C.T H0 H σ en ∧ Rp C.K H0 v d ∧ PostG C js H0 H σ en Q (G d en)
def gsD (C : Ct) (js : List Nat) (G : List PyData → En → R En) : TGs := fun vs σ H Q => ∃ H0 en ds, SR C.K C.T H0 H σ en ∧ RpAll C.K H0 vs ds ∧ PostG C js H0 H σ en Q (G ds en)
def ioAt (en : En) (i : Nat) : Bool := match en[i]? with
  | some (.own true _) => true
  | _ => false
def tgN (i : Nat) : PyData → En → R En := fun d en => if ioAt en i then .bad else .ok (en.set i (.dat d))
def tgNil : List PyData → En → R En := fun ds en => match ds with
  | [] => .ok en
  | _ => .bad
def tgCons (g : PyData → En → R En) (gs : List PyData → En → R En) : List PyData → En → R En := fun ds en => match ds with
  | d :: r => g d en >>= fun e => gs r e
  | [] => .bad
def tgT (n : Nat) (gs : List PyData → En → R En) : PyData → En → R En := fun d en => match d with
  | .tuple ds => if ds.length = n then gs ds en else .bad
  | _ => .bad
section
variable {C : Ct} {X : Cx} {H0 H H0' H' : Hp} {σ : L2.St} {en en' : En} {a b c tg : Expr} {pos : Pos}
theorem ioAt_no {i : Nat} (h : ioAt en i = false) {ds : List PyData} : en[i]? ≠ some (.own true ds) := fun e => by
  unfold ioAt at h
  rw [e] at h
  cases h
theorem set_sr {i : Nat} {v : V} {d : PyData} (s : SR C.K C.T H0 H σ en) (r : Rp C.K H0 v d) : SR C.K C.T H0 H (σ.set i (some v)) (en.set i (.dat d)) where
  len := by rw [List.length_set, List.length_set]; exact s.len
  ex := s.ex
  tb := s.tb
  nt := s.nt
  dat := fun j e h => by
    by_cases z : i = j
    · subst z
      have hl : i < en.length := by
        have := (List.getElem?_eq_some_iff.mp h).1
        rwa [List.length_set] at this
      rw [List.getElem?_set_self hl] at h
      cases h
      exact ⟨v, by rw [List.getElem?_set_self (by rw [s.len]; exact hl)], r⟩
    · rw [List.getElem?_set_ne z] at h ⊢
      exact s.dat j e h
  own := fun j io ds h => by
    by_cases z : i = j
    · subst z
      have hl : i < en.length := by
        have := (List.getElem?_eq_some_iff.mp h).1
        rwa [List.length_set] at this
      rw [List.getElem?_set_self hl] at h
      cases h
    · rw [List.getElem?_set_ne z] at h ⊢
      exact s.own j io ds h
  sep := fun j k io ds jo es p n h1 h2 e1 => by
    have ne : ∀ {j io ds}, (en.set i (Sl.dat d))[j]? = some (Sl.own io ds) → i ≠ j := fun {j io ds} h z => by
      subst z
      have hl : i < en.length := by
        have := (List.getElem?_eq_some_iff.mp h).1
        rwa [List.length_set] at this
      rw [List.getElem?_set_self hl] at h
      cases h
    have n1 := ne h1
    have n2 := ne h2
    rw [List.getElem?_set_ne n1] at h1 e1
    rw [List.getElem?_set_ne n2] at h2 ⊢
    exact s.sep j k io ds jo es p n h1 h2 e1
theorem set_stp {i : Nat} {v : V} {d : PyData} (hi : ioAt en i = false) : Stp σ en H0 H (σ.set i (some v)) (en.set i (.dat d)) H0 H where
  fm := Fm.refl
  ow := fun p ⟨j, io, ds, h1, h2⟩ => by
    by_cases z : i = j
    · subst z
      have hl : i < en.length := by
        have := (List.getElem?_eq_some_iff.mp h1).1
        rwa [List.length_set] at this
      rw [List.getElem?_set_self hl] at h1
      cases h1
    · rw [List.getElem?_set_ne z] at h1 h2
      exact .inl ⟨j, io, ds, h1, h2⟩
  io := fun j ds h => by
    have z : i ≠ j := fun z => by subst z; exact ioAt_no hi h
    rw [List.getElem?_set_ne z, List.getElem?_set_ne z]
    exact ⟨rfl, ds, h⟩
theorem dg_name {i : Nat} (h : PG X tg (gName i)) : PG X tg (gD C [i] (tgN i)) := ⟨fun pins s σ H v u Q I r ⟨H0, en, d, sr, rd, p⟩ => h.run pins s σ H v u Q I r (by
  unfold tgN at p
  split at p
  · exact p.elim
  · rename_i hi
    exact p _ (by rw [List.length_set]) (fun j hj => List.getElem?_set_ne (fun z => hj (by simp [z]))) (set_stp (by simpa using hi)) (set_sr sr rd))⟩
theorem postG_bind {js ks : List Nat} {Q : L2.St → Hp → Prop} {x : R En} {f : En → R En} (p : PostG C (js ++ ks) H0 H σ en Q (x >>= f)) : PostG C js H0 H σ en (fun σ1 H1 => ∃ en1, x = .ok en1 ∧ SR C.K C.T H0 H σ1 en1 ∧ H1 = H ∧ PostG C ks H0 H σ1 en1 Q (f en1)) x := by
  cases x with
  | ok e1 =>
    intro σ1 hl hk st sr
    refine ⟨e1, rfl, sr, rfl, ?_⟩
    have p : PostG C (js ++ ks) H0 H σ en Q (f e1) := p
    revert p
    cases f e1 with
    | ok e2 => exact fun p σ2 hl2 hk2 st2 sr2 => p σ2 (hl2.trans hl) (fun j hj => (hk2 j (fun z => hj (List.mem_append_right _ z))).trans (hk j (fun z => hj (List.mem_append_left _ z)))) (st.trans st2) sr2
    | exc n => exact fun p => p
    | bad => exact fun p => p
  | exc n => exact p
  | bad => exact p
theorem dgs_nil : PGs X [] (gsD C [] tgNil) := ⟨fun pins s σ H vs us Q I r ⟨H0, en, ds, sr, rd, p⟩ => pgs_nil.run pins s σ H vs us Q I r (by
  cases ds with
  | nil =>
    cases rd
    exact ⟨rfl, p σ rfl (fun _ _ => rfl) Stp.refl sr⟩
  | cons d r => exact p.elim)⟩
theorem dgs_cons {e : Expr} {es : List Expr} {js ks : List Nat} {g : PyData → En → R En} {gs : List PyData → En → R En} (h1 : PG X e (gD C js g)) (h2 : PGs X es (gsD C ks gs))
    (hs : (assignEach (e :: es) X.env).map (·.2) = assign e X.env :: (assignEach es X.env).map (·.2) := by rfl) : PGs X (e :: es) (gsD C (js ++ ks) (tgCons g gs)) :=
  ⟨fun pins s σ H vs us Q I r ⟨H0, en, ds, sr, rd, p⟩ => (pgs_cons h1 h2 hs).run pins s σ H vs us Q I r (by
    cases ds with
    | nil => exact p.elim
    | cons d rest =>
      cases rd with
      | cons r1 r2 =>
        refine ⟨_, _, rfl, H0, en, d, sr, r1, ?_⟩
        have q := postG_bind (x := g d en) (f := fun e => gs rest e) p
        revert q
        cases g d en with
        | ok e1 =>
          intro q σ1 hl hk st sr1
          obtain ⟨en1, e, s1, _, q1⟩ := q σ1 hl hk st sr1
          cases e
          exact ⟨H0, _, rest, s1, r2, q1⟩
        | exc n => exact fun q => q
        | bad => exact fun q => q)⟩
theorem dg_tup {es : List Expr} {k : Nat} {js : List Nat} {gs : List PyData → En → R En} {n : Nat} (hc : X.calm = true) (hK : C.K = X.K) (h : PGs X es (gsD C js gs))
    (hn : (assignEach es X.env).length = n := by rfl) (hst : (assignEach es X.env).findIdx? (·.1) = none := by rfl) : PG X (.Tuple es k pos) (gD C js (tgT n gs)) :=
  ⟨fun pins s σ H v u Q I r ⟨H0, en, d, sr, rd, p⟩ => (pg_tup hc h hn hst).run pins s σ H v u Q I r (by
    unfold tgT at p
    cases d with
    | tuple ds =>
      cases rd with
      | tup ht ra =>
        dsimp only at p
        split at p
        · rename_i hl
          exact ⟨_, _, rfl, by rw [← hK]; exact ex_t sr.ex ht, by rw [ra.length]; exact hl, H0, en, ds, sr, ra, p⟩
        · exact p.elim
    | _ => exact p.elim)⟩

/-! ### iterables -/
def seqOf (d : PyData) : R (List PyData) := match d with
  | .list ds => .ok ds
  | .tuple ds => .ok ds
  | _ => .bad
def ownIx : List Op → List Nat
  | [] => []
  | .val _ :: os => ownIx os
  | .own i :: os => i :: ownIx os
/-- what a source tells of its operands -/
def itA (f : List PyData → R (List PyData)) (F : Sem' (List Op)) : Sem' Its' := fun en => F en >>= fun p => lift (resAll p.2 p.1) >>= fun ds => lift (f ds) >>= fun z => .ok ((z, ownIx p.1), p.2)
def it1 (F : Sem' Op) : Sem' (List Op) := fun en => F en >>= fun p => .ok ([p.1], p.2)
def seq1 (ds : List PyData) : R (List PyData) := match ds with
  | [d] => seqOf d
  | _ => .bad
theorem post_bindAI {Q : List V → Hp → Prop} {Q2 : It → Hp → Prop} {x : R (List Op × En)} {f : List Op → En → R (Its' × En)}
    (h : PostI C H0 H σ en Q2 (x >>= fun p => f p.1 p.2))
    (k : ∀ a en1 H01 H1 vs, x = .ok (a, en1) → Stp σ en H0 H σ en1 H01 H1 → SR C.K C.T H01 H1 σ en1 → OpdsR C.K H01 σ vs a → PostI C H01 H1 σ en1 Q2 (f a en1) → Q vs H1) : PostA C H0 H σ en Q x := by
  cases x with
  | ok p =>
    obtain ⟨a, en1⟩ := p
    intro H01 H1 vs st sr r
    refine k a en1 H01 H1 vs rfl st sr r ?_
    have h : PostI C H0 H σ en Q2 (f a en1) := h
    revert h
    cases f a en1 with
    | ok q => exact fun h H0' H' v' P st' sr' r' => h H0' H' v' P (st.trans st') sr' r'
    | exc n => exact fun h => Ct.err_at h st.fm st.ow
    | bad => exact fun h => h
  | exc n => exact h
  | bad => exact h.elim
theorem res_same {o : Op} (h : ∀ i ∈ ownIx [o], en'[i]? = en[i]?) : o.res en' = o.res en := by
  cases o with
  | val d => rfl
  | own i =>
    have := h i (by simp [ownIx])
    simp only [Op.res, this]
theorem resAll_same : ∀ {os : List Op}, (∀ i ∈ ownIx os, en'[i]? = en[i]?) → resAll en' os = resAll en os
  | [], _ => rfl
  | o :: os, h => by
    have h1 : o.res en' = o.res en := res_same fun i hi => h i (by cases o <;> simp_all [ownIx])
    have h2 : resAll en' os = resAll en os := resAll_same fun i hi => h i (by cases o <;> simp_all [ownIx])
    unfold resAll
    rw [h1, h2]
theorem opds_same {σ' : L2.St} (e : Ex H0 H0') : ∀ {vs : List V} {os : List Op}, (∀ i ∈ ownIx os, σ'[i]? = σ[i]?) → OpdsR C.K H0 σ vs os → OpdsR C.K H0' σ' vs os
  | [], [], _, _ => trivial
  | v :: vs, o :: os, h, r => by
    refine ⟨?_, opds_same e (fun i hi => h i (by cases o <;> simp_all [ownIx])) r.2⟩
    cases o with
    | val d => exact Rp.mono e r.1
    | own i =>
      show σ'[i]? = some (some v)
      rw [h i (by simp [ownIx])]
      exact r.1
  | [], _ :: _, _, r => r.elim
  | _ :: _, [], _, r => r.elim
theorem dI_go {f : List PyData → R (List PyData)} {F : Sem' (List Op)} {Rk : It → Hp → Prop} {K' : List V → Hp → Prop}
    (s : SR C.K C.T H0 H σ en) (p : PostI C H0 H σ en Rk (itA f F en))
    (k : ∀ H01 H1 en1 vs ds z, SR C.K C.T H01 H1 σ en1 → RpXs C.K H01 H1 vs ds → f ds = .ok z → (∀ J, ItD C J z (fun H0' H' => RpXs C.K H0' H' vs ds) → Rk J H1) → K' vs H1) : tA C F σ H K' :=
  ⟨H0, en, s, post_bindAI (Q2 := Rk) (f := fun os e => lift (resAll e os) >>= fun ds => lift (f ds) >>= fun z => .ok ((z, ownIx os), e)) p fun os en1 H01 H1 vs _ st sr rs p1 => by
    have p1 : PostI C H01 H1 σ en1 Rk (lift (resAll en1 os) >>= fun ds => lift (f ds) >>= fun z => .ok ((z, ownIx os), en1)) := p1
    cases e1 : resAll en1 os with
    | ok ds =>
      rw [e1] at p1
      have p1 : PostI C H01 H1 σ en1 Rk (lift (f ds) >>= fun z => .ok ((z, ownIx os), en1)) := p1
      cases e2 : f ds with
      | ok z =>
        rw [e2] at p1
        exact k H01 H1 en1 vs ds z sr (RpXs.of sr rs e1) e2 fun J hJ => p1 H01 H1 J _ Stp.refl sr hJ fun H0' H' σ' e x s' w =>
          RpXs.of s' (opds_same x (fun i hi => (w i hi).1) rs) (by rw [resAll_same fun i hi => (w i hi).2]; exact e1)
      | exc n => rw [e2] at p1; exact p1.elim
      | bad => rw [e2] at p1; exact p1.elim
    | exc n => rw [e1] at p1; exact p1.elim
    | bad => rw [e1] at p1; exact p1.elim⟩
theorem PI.or {l : Expr} {w1 w2 : TI} (h1 : PI X tg l w1) (h2 : PI X tg l w2) : PI X tg l (fun σ H Rk => w1 σ H Rk ∨ w2 σ H Rk) := ⟨fun pins s σ H Rk I h => h.elim (h1.run pins s σ H Rk I) (h2.run pins s σ H Rk I)⟩
theorem itl_d {ds : List PyData} {v : V} {p : Addr} (e : v = .ref p) : ItD C (Itl C.K p) ds (fun H0' H' => RpX C.K H0' H' v (.list ds)) where
  go := fun H0' H' i x hp g hx => by
    obtain ⟨a, vs, ea, hr, r⟩ := hp.list g.ex
    rw [e] at ea; cases ea
    obtain ⟨u, hv, rv⟩ := r.get hx
    have q : SqL C.K H' p vs := .inl hr
    exact ⟨⟨vs, u, q, hv⟩, fun w H3 ⟨e3, hw⟩ => by
      subst e3
      have : u = w := by have := hw vs q; rw [hv] at this; exact Option.some.inj this
      subst this
      exact ⟨H0', Fm.refl, g, rv⟩⟩
  stop := fun H0' H' hp g => by
    obtain ⟨a, vs, ea, hr, r⟩ := hp.list g.ex
    rw [e] at ea; cases ea
    exact ⟨vs, .inl hr, by rw [r.length]; exact Nat.le_refl _⟩
theorem itt_d {ds : List PyData} {v : V} {p : Addr} (e : v = .ref p) : ItD C (Itt C.K p) ds (fun H0' H' => RpX C.K H0' H' v (.tuple ds)) where
  go := fun H0' H' i x hp g hx => by
    obtain ⟨a, vs, ea, hr, r⟩ := hp.tup g.ex
    rw [e] at ea; cases ea
    obtain ⟨u, hv, rv⟩ := r.get hx
    exact ⟨⟨vs, u, hr, hv⟩, fun w H3 ⟨e3, hw⟩ => by
      subst e3
      have : u = w := by have := hw vs hr; rw [hv] at this; exact Option.some.inj this
      subst this
      exact ⟨H0', Fm.refl, g, rv⟩⟩
  stop := fun H0' H' hp g => by
    obtain ⟨a, vs, ea, hr, r⟩ := hp.tup g.ex
    rw [e] at ea; cases ea
    exact ⟨vs, hr, by rw [r.length]; exact Nat.le_refl _⟩
theorem itD_imp {J : It} {xs : List PyData} {P P' : Hp → Hp → Prop} (h : ItD C J xs P) (i : ∀ H0 H, P' H0 H → P H0 H) : ItD C J xs P' := ⟨fun a b c d p => h.go a b c d (i _ _ p), fun a b p => h.stop a b (i _ _ p)⟩
/-- for x in e -/
theorem di_seq {l : Expr} {F : Sem' Op} (hK : C.K = X.K) (hl : PE X l (tO C F)) : PI X tg l (tI C (itA seq1 (it1 F))) := by
  refine ⟨fun pins s σ H Rk I ⟨H0, en, sr, p⟩ => ?_⟩
  -- by what the operand comes to
  cases e : F en with
  | exc n =>
    refine (pi_list hl).run pins s σ H Rk I ⟨H0, en, sr, ?_⟩
    have := p
    unfold itA it1 at this
    rw [e] at this ⊢
    exact this
  | bad =>
    have := p
    unfold itA it1 at this
    rw [e] at this
    exact this.elim
  | ok q =>
    obtain ⟨o, en1⟩ := q
    have p2 : PostI C H0 H σ en Rk (lift (resAll en1 [o]) >>= fun ds => lift (seq1 ds) >>= fun z => .ok ((z, ownIx [o]), en1)) := by
      have := p
      unfold itA it1 at this
      rw [e] at this
      exact this
    cases e1 : o.res en1 with
    | exc n => unfold resAll at p2; rw [e1] at p2; exact p2.elim
    | bad => unfold resAll at p2; rw [e1] at p2; exact p2.elim
    | ok d =>
      unfold resAll resAll at p2
      rw [e1] at p2
      have p2 : PostI C H0 H σ en Rk (lift (seqOf d) >>= fun z => .ok ((z, ownIx [o]), en1)) := p2
      have kp : ∀ H01 v, OpdR C.K H01 σ v o → Keeps C (ownIx [o]) σ en1 H01 (fun H0' H' => RpX C.K H0' H' v d) := fun H01 v r H0' H' σ' e x s' w => by
        have r' : OpdsR C.K H0' σ' [v] [o] := opds_same (C := C) x (fun i hi => (w i hi).1) (show OpdsR C.K H01 σ [v] [o] from ⟨r, trivial⟩)
        exact OpdR.res s' r'.1 (by rw [res_same fun i hi => (w i hi).2]; exact e1)
      cases d with
      | list ds =>
        refine (pi_list hl).run pins s σ H Rk I ⟨H0, en, sr, ?_⟩
        rw [e]
        intro H01 H1 v st s1 r
        obtain ⟨a, vs, ea, hr, ra⟩ := (OpdR.res s1 r e1).list s1.ex
        exact ⟨a, ea, ⟨vs, .inl hr⟩, by rw [← hK]; exact p2 H01 H1 _ _ st s1 (itl_d ea) (kp H01 v r)⟩
      | tuple ds =>
        refine (pi_tup hl).run pins s σ H Rk I ⟨H0, en, sr, ?_⟩
        rw [e]
        intro H01 H1 v st s1 r
        obtain ⟨a, vs, ea, hr, ra⟩ := (OpdR.res s1 r e1).tup s1.ex
        exact ⟨a, ea, ⟨vs, by rw [← hK]; exact hr⟩, by rw [← hK]; exact p2 H01 H1 _ _ st s1 (itt_d ea) (kp H01 v r)⟩
      | _ => exact p2.elim
def numsFrom (lo : Int) (n : Nat) : List PyData := (List.range n).map fun (k : Nat) => PyData.int (lo + (k : Int))
theorem itr_d {lo : Int} {n : Nat} {P : Hp → Hp → Prop} : ItD C (Itr lo n) (numsFrom lo n) P where
  go := fun H0' H' i x e g hx => by
    have hi : i < n := by
      have := (List.getElem?_eq_some_iff.mp hx).1
      simpa [numsFrom] using this
    have ex : x = .int (lo + (i : Int)) := by
      unfold numsFrom at hx
      rw [List.getElem?_map, List.getElem?_range hi] at hx
      exact (Option.some.inj hx).symm
    subst ex
    exact ⟨hi, fun v H3 ⟨e3, hv⟩ => by
      subst e3; subst hv
      exact ⟨H0', Fm.refl, g, .int _⟩⟩
  stop := fun H0' H' e g => by
    show n ≤ (numsFrom lo n).length
    simp [numsFrom]
def in62 {α : Type} (i : Int) (x : R α) : R α := if -(2 ^ 62) ≤ i ∧ i < 2 ^ 62 then x else .bad
def rng1 (os : List PyData) : R (List PyData) := match os with
  | [.int n] => in62 n (.ok (numsFrom 0 n.toNat))
  | _ => .bad
def rng2 (os : List PyData) : R (List PyData) := match os with
  | [.int i, .int j] => in62 i (in62 j (.ok (numsFrom i (j - i).toNat)))
  | _ => .bad
theorem in62_ok {α : Type} {i : Int} {x : R α} {z : α} (h : in62 i x = .ok z) : (-(2 ^ 62) ≤ i ∧ i < 2 ^ 62) ∧ x = .ok z := by
  unfold in62 at h
  split at h
  · exact ⟨by assumption, h⟩
  · cases h
theorem rpxs1 {vs : List V} {d : PyData} (h : RpXs C.K H0 H vs [d]) : ∃ v, vs = [v] ∧ RpX C.K H0 H v d := by
  match vs, h with
  | [v], h => exact ⟨v, rfl, h.1⟩
theorem rpxs2 {vs : List V} {d e : PyData} (h : RpXs C.K H0 H vs [d, e]) : ∃ v w, vs = [v, w] ∧ RpX C.K H0 H v d ∧ RpX C.K H0 H w e := by
  match vs, h with
  | [v, w], h => exact ⟨v, w, rfl, h.1, h.2.1⟩
theorem di_range1 {F : Sem' (List Op)} {p : Pos} (hg : Gl X "range") (hm : X.mg "range" = none) (ha : PA X [a] (tA C F)) (hs : starEach [a] X.env = [(false, eval a X.env)] := by rfl) : PI X tg (.Call (.Name "range" p) [a] [] pos) (tI C (itA rng1 F)) :=
  (pi_range1 hg hm ha hs).imp fun σ H Rk ⟨H0, en, s, p⟩ => dI_go s p fun H01 H1 en1 vs ds z s1 r e k => by
    unfold rng1 at e
    split at e
    · rename_i n
      obtain ⟨h1, h2⟩ := in62_ok e
      cases h2
      obtain ⟨v, rfl, rv⟩ := rpxs1 r
      exact ⟨n, by rw [rv.int], h1.1, h1.2, k _ itr_d⟩
    · cases e
theorem di_range2 {F : Sem' (List Op)} {p : Pos} (hg : Gl X "range") (hm : X.mg "range" = none) (ha : PA X [a, b] (tA C F)) (hs : starEach [a, b] X.env = [(false, eval a X.env), (false, eval b X.env)] := by rfl) (hs2 : starEach [b] X.env = [(false, eval b X.env)] := by rfl) : PI X tg (.Call (.Name "range" p) [a, b] [] pos) (tI C (itA rng2 F)) :=
  (pi_range2 hg hm ha hs hs2).imp fun σ H Rk ⟨H0, en, s, p⟩ => dI_go s p fun H01 H1 en1 vs ds z s1 r e k => by
    unfold rng2 at e
    split at e
    · rename_i i j
      obtain ⟨h1, h2⟩ := in62_ok e
      obtain ⟨h3, h4⟩ := in62_ok h2
      cases h4
      obtain ⟨v, w, rfl, rv, rw'⟩ := rpxs2 r
      exact ⟨i, j, by rw [rv.int, rw'.int], ⟨h1.1, h1.2, h3.1, h3.2⟩, k _ itr_d⟩
    · cases e
end
end PD
end
section
namespace PD
open PySem PySem.Spec PyProof.Rows L2 Evl

/-! ### list comprehensions -/
def wipeE (en : En) : List Nat → En
  | [] => en
  | v :: vs => (wipeE en vs).set v .no
def restE (en1 e : En) : List Nat → En
  | [] => e
  | v :: vs => (restE en1 e vs).set v (en1.getD v .no)
def slFree : Sl → Bool
  | .own _ _ => false
  | _ => true
def freeOf (en : En) (vs : List Nat) : Bool := vs.all fun v => slFree (en.getD v .no)
open Classical in
/-- the walked slots stand -/
noncomputable def keepW {α : Type} (ws : List Nat) (en1 e : En) (x : R α) : R α := if ∀ i ∈ ws, e[i]? = en1[i]? then x else .bad
theorem keepW_nil {α : Type} (en1 e : En) (x : R α) : keepW [] en1 e x = x := by
  unfold keepW
  rw [if_pos (fun i h => by cases h)]
theorem keepW_self {α : Type} (ws : List Nat) (en : En) (x : R α) : keepW ws en en x = x := by
  unfold keepW
  rw [if_pos (fun i h => rfl)]
noncomputable def lcLoop (ws : List Nat) (en1 : En) (vs : List Nat) (tg : PyData → En → R En) (tst : Sem' Bool) (elt : Sem' PyData) : List PyData → En → R (List PyData × En)
  | [], e => keepW ws en1 e (.ok ([], e))
  | x :: xs, e => keepW ws en1 e (lift (tg x e) >>= fun e1 => lift (tst e1) >>= fun p => if p.1 then lift (elt p.2) >>= fun q => lcLoop ws en1 vs tg tst elt xs (wipeE q.2 vs) >>= fun r => .ok (q.1 :: r.1, r.2) else lcLoop ws en1 vs tg tst elt xs (wipeE p.2 vs))
noncomputable def dLc (it : Sem' Its') (vs : List Nat) (tg : PyData → En → R En) (tst : Sem' Bool) (elt : Sem' PyData) : Sem' (List PyData) := fun en => it en >>= fun p =>
  if freeOf p.2 vs = true ∧ p.1.1.length ≤ 100000 ∧ p.1.2.all (fun i => !vs.contains i) = true then lcLoop p.1.2 (wipeE p.2 vs) vs tg tst elt p.1.1 (wipeE p.2 vs) >>= fun q => .ok (q.1, restE p.2 q.2 vs) else .bad
theorem keepW_post {C : Ct} {α : Type} {rel : En → Hp → Hp → V → α → Prop} {H0 H : Hp} {σ : L2.St} {en en1 e : En} {Q : VK} {ws : List Nat} {β : Type} {x : R β} {f : β → R (α × En)} (h : Post C rel H0 H σ en Q (keepW ws en1 e x >>= f)) : (∀ i ∈ ws, e[i]? = en1[i]?) ∧ Post C rel H0 H σ en Q (x >>= f) := by
  unfold keepW at h
  split at h
  · exact ⟨by assumption, h⟩
  · exact h.elim
def Ct.non (C : Ct) : Ct := { C with E := E0 }
section
variable {C : Ct} {X : Cx} {H0 H H0' H' H01 H1 : Hp} {σ σ' : L2.St} {en en' en1 e : En} {vs : List Nat}
theorem wipe_get (σ : L2.St) (j : Nat) : ∀ vs : List Nat, (wipe σ vs)[j]? = if j ∈ vs then (if j < σ.length then some none else none) else σ[j]?
  | [] => by simp [wipe]
  | v :: vs => by
    unfold wipe
    by_cases z : v = j
    · subst z
      rw [if_pos (List.mem_cons_self)]
      by_cases hl : v < σ.length
      · rw [List.getElem?_set_self (by rw [wipe_length]; exact hl), if_pos hl]
      · rw [if_neg hl, List.getElem?_eq_none (by rw [List.length_set, wipe_length]; omega)]
    · rw [List.getElem?_set_ne z, wipe_get σ j vs]
      have : (j ∈ v :: vs) ↔ j ∈ vs := by simp [Ne.symm z]
      simp only [this]
theorem wipeE_length (en : En) : ∀ vs : List Nat, (wipeE en vs).length = en.length
  | [] => rfl
  | v :: vs => by unfold wipeE; rw [List.length_set, wipeE_length en vs]
theorem wipeE_get (en : En) (j : Nat) : ∀ vs : List Nat, (wipeE en vs)[j]? = if j ∈ vs then (if j < en.length then some .no else none) else en[j]?
  | [] => by simp [wipeE]
  | v :: vs => by
    unfold wipeE
    by_cases z : v = j
    · subst z
      rw [if_pos (List.mem_cons_self)]
      by_cases hl : v < en.length
      · rw [List.getElem?_set_self (by rw [wipeE_length]; exact hl), if_pos hl]
      · rw [if_neg hl, List.getElem?_eq_none (by rw [List.length_set, wipeE_length]; omega)]
    · rw [List.getElem?_set_ne z, wipeE_get en j vs]
      have : (j ∈ v :: vs) ↔ j ∈ vs := by simp [Ne.symm z]
      simp only [this]
theorem restE_length (en1 e : En) : ∀ vs : List Nat, (restE en1 e vs).length = e.length
  | [] => rfl
  | v :: vs => by unfold restE; rw [List.length_set, restE_length en1 e vs]
theorem restE_get (en1 e : En) (j : Nat) : ∀ vs : List Nat, (restE en1 e vs)[j]? = if j ∈ vs then (if j < e.length then some (en1.getD j .no) else none) else e[j]?
  | [] => by simp [restE]
  | v :: vs => by
    unfold restE
    by_cases z : v = j
    · subst z
      rw [if_pos (List.mem_cons_self)]
      by_cases hl : v < e.length
      · rw [List.getElem?_set_self (by rw [restE_length]; exact hl), if_pos hl]
      · rw [if_neg hl, List.getElem?_eq_none (by rw [List.length_set, restE_length]; omega)]
    · rw [List.getElem?_set_ne z, restE_get en1 e j vs]
      have : (j ∈ v :: vs) ↔ j ∈ vs := by simp [Ne.symm z]
      simp only [this]
theorem wipe_eq (σ σ' : L2.St) (hl : σ'.length = σ.length) (hk : ∀ j : Nat, j ∉ vs → σ'[j]? = σ[j]?) : wipe σ' vs = wipe σ vs := by
  refine List.ext_getElem? fun j => ?_
  rw [wipe_get, wipe_get, hl]
  by_cases h : j ∈ vs
  · rw [if_pos h, if_pos h]
  · rw [if_neg h, if_neg h, hk j h]
theorem wipe_wipe (σ : L2.St) : wipe (wipe σ vs) vs = wipe σ vs := wipe_eq σ _ (wipe_length σ vs) fun j h => by rw [wipe_get, if_neg h]
theorem free_at (h : freeOf en vs = true) {j : Nat} (hj : j ∈ vs) : slFree (en.getD j .no) = true := List.all_eq_true.mp h j hj
theorem sr_wipe (s : SR C.K C.T H0 H σ en) : SR C.K C.T H0 H (wipe σ vs) (wipeE en vs) where
  len := by rw [wipe_length, wipeE_length]; exact s.len
  ex := s.ex
  tb := s.tb
  nt := s.nt
  dat := fun j d h => by
    rw [wipeE_get] at h
    by_cases z : j ∈ vs
    · rw [if_pos z] at h; split at h <;> cases h
    · rw [if_neg z] at h; rw [wipe_get, if_neg z]; exact s.dat j d h
  own := fun j io ds h => by
    rw [wipeE_get] at h
    by_cases z : j ∈ vs
    · rw [if_pos z] at h; split at h <;> cases h
    · rw [if_neg z] at h; rw [wipe_get, if_neg z]; exact s.own j io ds h
  sep := fun j k io ds jo es p n h1 h2 e1 => by
    rw [wipeE_get] at h1 h2
    by_cases z : j ∈ vs
    · rw [if_pos z] at h1; split at h1 <;> cases h1
    · rw [if_neg z] at h1
      by_cases y : k ∈ vs
      · rw [if_pos y] at h2; split at h2 <;> cases h2
      · rw [if_neg y] at h2
        rw [wipe_get, if_neg z] at e1
        rw [wipe_get, if_neg y]
        exact s.sep j k io ds jo es p n h1 h2 e1
theorem own_wipe {p : Addr} (h : OwnA (wipe σ vs) (wipeE en vs) p) : OwnA σ en p := by
  obtain ⟨j, io, ds, h1, h2⟩ := h
  rw [wipeE_get] at h1
  by_cases z : j ∈ vs
  · rw [if_pos z] at h1; split at h1 <;> cases h1
  · rw [if_neg z] at h1; rw [wipe_get, if_neg z] at h2; exact ⟨j, io, ds, h1, h2⟩
theorem rest_own (f : freeOf en1 vs = true) {j : Nat} {io : Bool} {ds : List PyData} (h : (restE en1 e vs)[j]? = some (.own io ds)) : j ∉ vs ∧ e[j]? = some (.own io ds) := by
  rw [restE_get] at h
  by_cases z : j ∈ vs
  · rw [if_pos z] at h
    split at h
    · have := free_at f z
      rw [Option.some.inj h] at this
      cases this
    · cases h
  · rw [if_neg z] at h
    exact ⟨z, h⟩
theorem own_unwipe (f : freeOf en1 vs = true) {p : Addr} (h : OwnA σ (restE en1 e vs) p) : OwnA (wipe σ vs) e p := by
  obtain ⟨j, io, ds, h1, h2⟩ := h
  obtain ⟨z, h1⟩ := rest_own f h1
  exact ⟨j, io, ds, h1, by rw [wipe_get, if_neg z]; exact h2⟩
theorem sr_unwipe (s : SR C.K C.T H01 H1 σ en1) (f : freeOf en1 vs = true) (x : Ex H01 H0') (r : SR C.K C.T H0' H' (wipe σ vs) e) : SR C.K C.T H0' H' σ (restE en1 e vs) where
  len := by rw [restE_length, ← r.len, wipe_length]
  ex := r.ex
  tb := r.tb
  nt := r.nt
  dat := fun j d h => by
    rw [restE_get] at h
    by_cases z : j ∈ vs
    · rw [if_pos z] at h
      split at h
      · have h : en1.getD j .no = .dat d := Option.some.inj h
        have h : en1[j]? = some (.dat d) := by
          rw [List.getD_eq_getElem?_getD] at h
          cases q : en1[j]? with
          | none => rw [q] at h; cases h
          | some y => rw [q] at h; exact congrArg some h
        obtain ⟨v, e1, rr⟩ := s.dat j d h
        exact ⟨v, e1, rr.mono x⟩
      · cases h
    · rw [if_neg z] at h
      obtain ⟨v, e1, rr⟩ := r.dat j d h
      rw [wipe_get, if_neg z] at e1
      exact ⟨v, e1, rr⟩
  own := fun j io ds h => by
    obtain ⟨z, h⟩ := rest_own f h
    obtain ⟨p, ws, e1, rr⟩ := r.own j io ds h
    rw [wipe_get, if_neg z] at e1
    exact ⟨p, ws, e1, rr⟩
  sep := fun j k io ds jo es p n h1 h2 e1 => by
    obtain ⟨z, h1⟩ := rest_own f h1
    obtain ⟨y, h2⟩ := rest_own f h2
    have := r.sep j k io ds jo es p n h1 h2 (by rw [wipe_get, if_neg z]; exact e1)
    rw [wipe_get, if_neg y] at this
    exact this
theorem stp_unwipe (f : freeOf en1 vs = true) (t : Stp (wipe σ vs) (wipeE en1 vs) H01 H1 (wipe σ vs) e H0' H') : Stp σ en1 H01 H1 σ (restE en1 e vs) H0' H' where
  fm := t.fm.weak fun _ h => own_wipe h
  ow := fun p h => (t.ow p (own_unwipe f h)).imp own_wipe id
  io := fun i ds h => by
    have z : i ∉ vs := fun z => by
      have := free_at f z
      rw [List.getD_eq_getElem?_getD, h] at this
      cases this
    obtain ⟨_, ds', h'⟩ := t.io i ds (by rw [wipeE_get, if_neg z]; exact h)
    exact ⟨rfl, ds', by rw [restE_get, if_neg z]; exact h'⟩
/-- an object beside the slots and the protected part may change -/
theorem SR.side (s : SR C.K C.T H0 H σ en) {p : Addr} {o : HO} (h0 : H0 p = none) (hl : H p = none ∨ ∃ xs, H p = some (.lst xs)) (no : ¬ OwnA σ en p) (ho : ∀ ps, o ≠ .tbl ps := by intro _ z; cases z) : SR C.K C.T H0 (upd H p o) σ en where
  len := s.len
  ex := fun a u h => by
    rw [upd_ne (ne_of_none h h0)]
    exact s.ex a u h
  tb := tabs_upd s.tb hl
  nt := s.nt
  dat := s.dat
  own := fun i io ds h => by
    obtain ⟨q, vs, e1, e2, e3, r⟩ := s.own i io ds h
    have ne : q ≠ p := fun z => no ⟨i, io, ds, h, by rw [← z]; exact e1⟩
    exact ⟨q, vs, e1, by rw [upd_ne ne]; exact e2, e3, r⟩
  sep := s.sep
theorem Fm.side {own : Addr → Prop} {p : Addr} {o : HO} (f : Fm own H0 H H0' H') (hp : H p = none) : Fm own H0 H H0' (upd H' p o) where
  ex := f.ex
  fr := fun a u h n t => by rw [upd_ne (ne_of_none h hp)]; exact f.fr a u h n t
  kp := fun a h => by
    by_cases z : a = p
    · subst z; exact nw_of hp
    · exact f.kp a fun u e => h u (by rw [upd_ne z]; exact e)
  nw := f.nw
theorem Stp.side {p : Addr} {o : HO} (t : Stp σ en H0 H σ' en' H0' H') (hp : H p = none) : Stp σ en H0 H σ' en' H0' (upd H' p o) := ⟨t.fm.side hp, t.ow, t.io⟩
theorem stp_wipe2 (t : Stp σ en H0 H σ' en' H0' H') (w : ∀ i ds, en[i]? = some (.own true ds) → i ∉ vs) : Stp σ en H0 H (wipe σ' vs) (wipeE en' vs) H0' H' := ⟨t.fm, fun p h => t.ow p (own_wipe h), fun i ds h => by
  obtain ⟨e1, ds', h'⟩ := t.io i ds h
  have z := w i ds h
  exact ⟨by rw [wipe_get, if_neg z]; exact e1, ds', by rw [wipeE_get, if_neg z]; exact h'⟩⟩

theorem lc_tn {it : Sem' Its'} {js : List Nat} {g : PyData → En → R En} {tst : Sem' Bool} {el : Sem' PyData} (hj : ∀ j ∈ js, j ∈ vs) (σ : L2.St) (H : Hp) (Q : VK) (h : tN C (dLc it vs g tst el) σ H Q) : tLc (tI C it) (gD C.non js g) (tT C.non tst) (tE C.non el) vs σ H Q := by
  obtain ⟨H0, en, s, p⟩ := h
  unfold dLc at p
  refine ⟨H0, en, s, ?_⟩
  cases e0 : it en with
  | exc n => rw [e0] at p; exact p
  | bad => rw [e0] at p; exact p.elim
  | ok q =>
    obtain ⟨⟨xs, ws⟩, en1⟩ := q
    rw [e0] at p
    intro H01 H1 J P st0 s1 hJ hP D hD
    have hJ : ItD C J xs P := hJ
    have p : Post C (NewL C.K σ H) H0 H σ en Q (if freeOf en1 vs = true ∧ xs.length ≤ 100000 ∧ ws.all (fun i => !vs.contains i) = true then lcLoop ws (wipeE en1 vs) vs g tst el xs (wipeE en1 vs) >>= fun q => .ok (q.1, restE en1 q.2 vs) else .bad) := p
    split at p
    case isFalse => exact p.elim
    rename_i hf
    obtain ⟨hf, hlen, hws⟩ := hf
    have wsn : ∀ i ∈ ws, i ∉ vs := fun i hi z => by
      have := List.all_eq_true.mp hws i hi
      simp only [Bool.not_eq_true', List.contains_eq_mem, decide_eq_false_iff_not] at this
      exact this z
    have toP : ∀ (H0' H' : Hp) (e : En), Ex H01 H0' → SR C.K C.T H0' H' (wipe σ vs) e → (∀ i ∈ ws, e[i]? = (wipeE en1 vs)[i]?) → P H0' H' := fun H0' H' e x s' w => hP H0' H' (wipe σ vs) e x s' fun i hi => ⟨by rw [wipe_get, if_neg (wsn i hi)], by rw [w i hi, wipeE_get, if_neg (wsn i hi)]⟩
    have iov : ∀ (i : Nat) (ds : List PyData), (wipeE en1 vs)[i]? = some (.own true ds) → i ∉ vs := fun i ds h z => by
      rw [wipeE_get, if_pos z] at h
      split at h <;> cases h
    have hD0 : H01 D = none := fresh_back s1.ex hD
    have hDH : Nw H D := st0.fm.kp D (nw_of hD)
    let Wn : Nat → Hp → Prop := fun i H' => i ≤ xs.length ∧ ∃ H0' e acc ys, H' D = some (.lst acc) ∧ H0' D = none ∧ RpAll C.K H0' acc ys ∧ ys.length ≤ i ∧ SR C.K C.T H0' H' (wipe σ vs) e ∧ ¬ OwnA (wipe σ vs) e D ∧
      Stp (wipe σ vs) (wipeE en1 vs) H01 H1 (wipe σ vs) e H0' H' ∧ Post C (NewL C.K σ H) H0 H σ en Q (lcLoop ws (wipeE en1 vs) vs g tst el (xs.drop i) e >>= fun q => .ok (ys ++ q.1, restE en1 q.2 vs))
    refine ⟨fun i m H' => m = xs.length - i ∧ Wn i H', ⟨xs.length, rfl, Nat.zero_le _, H01, wipeE en1 vs, [], [], upd_same, hD0, .nil, Nat.le_refl _, ?_, ?_, ?_, ?_⟩, ?_⟩
    · exact (sr_wipe s1).newO hD
    · rintro ⟨j, io, ds, h1, h2⟩
      obtain ⟨q, ws, e1, e2, _⟩ := (sr_wipe (vs := vs) s1).own j io ds h1
      rw [h2] at e1
      cases e1
      rw [hD] at e2
      cases e2
    · exact Stp.refl.side hD
    · simpa using p
    · rintro i m H' ⟨rfl, hi, H0', e, acc, ys, d1, d2, ra, hy, sr, no, st, pp⟩
      by_cases hlt : i < xs.length
      case neg =>
        have ei : i = xs.length := by omega
        subst ei
        have pp : Post C (NewL C.K σ H) H0 H σ en Q (lcLoop ws (wipeE en1 vs) vs g tst el (xs.drop xs.length) e >>= fun q => .ok (ys ++ q.1, restE en1 q.2 vs)) := pp
        rw [List.drop_length] at pp
        obtain ⟨hw, pp⟩ := keepW_post pp
        refine .inl ⟨hJ.stop H0' H' (toP H0' H' e st.fm.ex sr hw) sr.good, ?_⟩
        have pp : Post C (NewL C.K σ H) H0 H σ en Q (.ok (ys ++ [], restE en1 e vs)) := pp
        rw [List.append_nil] at pp
        exact pp H0' H' (.ref D) (st0.trans (stp_unwipe hf st)) (sr_unwipe s1 hf st.fm.ex sr) ⟨D, acc, rfl, hDH, d1, d2, ra, fun h => no (own_unwipe hf h)⟩
      case pos =>
        have hx : xs[i]? = some xs[i] := List.getElem?_eq_getElem hlt
        rw [List.drop_eq_getElem_cons hlt] at pp
        obtain ⟨hwt, pp⟩ := keepW_post pp
        obtain ⟨go, yld⟩ := hJ.go H0' H' i xs[i] (toP H0' H' e st.fm.ex sr hwt) sr.good hx
        refine .inr ⟨go, fun H' => Wn (i + 1) H', fun H' w => ⟨xs.length - (i + 1), by omega, rfl, w⟩, fun v H3 hy3 => ?_⟩
        obtain ⟨H03, f3, g3, rx⟩ := yld v H3 hy3
        have s3 : SR C.K C.T H03 H3 (wipe σ vs) e := sr.grown f3 g3
        have d31 : H3 D = some (.lst acc) := f3.fr D _ d1 (fun z => z) fun _ z => by cases z
        have d32 : H03 D = none := f3.nw D (nw_lst d1) (fun z => z) d2
        have st3 : Stp (wipe σ vs) (wipeE en1 vs) H01 H1 (wipe σ vs) e H03 H3 := st.trans f3.stp
        have pp : Post C (NewL C.K σ H) H0 H σ en Q ((lift (g xs[i] e) >>= fun e1 => lift (tst e1) >>= fun p => if p.1 then lift (el p.2) >>= fun q => lcLoop ws (wipeE en1 vs) vs g tst el (xs.drop (i + 1)) (wipeE q.2 vs) >>= fun r => .ok (q.1 :: r.1, r.2) else lcLoop ws (wipeE en1 vs) vs g tst el (xs.drop (i + 1)) (wipeE p.2 vs)) >>= fun q => .ok (ys ++ q.1, restE en1 q.2 vs)) := pp
        refine ⟨H03, e, xs[i], s3, rx, ?_⟩
        cases eg : g xs[i] e with
        | exc n => rw [eg] at pp; exact pp.elim
        | bad => rw [eg] at pp; exact pp.elim
        | ok e1 =>
          rw [eg] at pp
          intro σ2 hl2 hk2 st2 sr2
          have hw : wipe σ2 vs = wipe σ vs := by
            rw [wipe_eq (vs := vs) (wipe σ vs) σ2 hl2 fun j hjv => hk2 j fun z => hjv (hj j z)]
            exact wipe_wipe σ
          refine ⟨hw, ?_⟩
          have stA := st3.trans st2
          have noA : ¬ OwnA σ2 e1 D := fun z => (st2.ow D z).elim no fun z => nw_lst d31 z
          have pp : Post C (NewL C.K σ H) H0 H σ en Q ((lift (tst e1) >>= fun p => if p.1 then lift (el p.2) >>= fun q => lcLoop ws (wipeE en1 vs) vs g tst el (xs.drop (i + 1)) (wipeE q.2 vs) >>= fun r => .ok (q.1 :: r.1, r.2) else lcLoop ws (wipeE en1 vs) vs g tst el (xs.drop (i + 1)) (wipeE p.2 vs)) >>= fun q => .ok (ys ++ q.1, restE en1 q.2 vs)) := pp
          refine ⟨H03, e1, sr2, ?_⟩
          cases et : tst e1 with
          | exc n => rw [et] at pp; exact pp.elim
          | bad => rw [et] at pp; exact pp.elim
          | ok q =>
            obtain ⟨b, e2⟩ := q
            rw [et] at pp
            intro H0b Hb stb srb
            have stB := stA.trans stb
            have db1 : Hb D = some (.lst acc) := stb.fm.fr D _ d31 noA fun _ z => by cases z
            have db2 : H0b D = none := stb.fm.nw D (nw_lst d31) noA d32
            have noB : ¬ OwnA σ2 e2 D := fun z => (stb.ow D z).elim noA fun z => nw_lst d31 z
            cases b with
            | false =>
              have pp : Post C (NewL C.K σ H) H0 H σ en Q (lcLoop ws (wipeE en1 vs) vs g tst el (xs.drop (i + 1)) (wipeE e2 vs) >>= fun q => .ok (ys ++ q.1, restE en1 q.2 vs)) := pp
              rw [if_neg Bool.false_ne_true]
              have sw := sr_wipe (vs := vs) srb
              have stw := stp_wipe2 (vs := vs) stB iov
              rw [hw] at sw stw
              exact ⟨hlt, H0b, wipeE e2 vs, acc, ys, db1, db2, ra.mono (f3.ex.trans stb.fm.ex), by omega, sw, fun z => noB (own_wipe (vs := vs) (by rw [hw]; exact z)), stw, pp⟩
            | true =>
              have pp : Post C (NewL C.K σ H) H0 H σ en Q ((lift (el e2) >>= fun q => lcLoop ws (wipeE en1 vs) vs g tst el (xs.drop (i + 1)) (wipeE q.2 vs) >>= fun r => .ok (q.1 :: r.1, r.2)) >>= fun q => .ok (ys ++ q.1, restE en1 q.2 vs)) := pp
              rw [if_pos rfl]
              refine ⟨H0b, e2, srb, ?_⟩
              cases ee : el e2 with
              | exc n => rw [ee] at pp; exact pp.elim
              | bad => rw [ee] at pp; exact pp.elim
              | ok q =>
                obtain ⟨y, e3⟩ := q
                rw [ee] at pp
                intro H0c Hc yv stc src ry
                have stC := stB.trans stc
                have dc1 : Hc D = some (.lst acc) := stc.fm.fr D _ db1 noB fun _ z => by cases z
                have dc2 : H0c D = none := stc.fm.nw D (nw_lst db1) noB db2
                have noC : ¬ OwnA σ2 e3 D := fun z => (stc.ow D z).elim noB fun z => nw_lst db1 z
                refine ⟨acc, dc1, Nat.lt_of_le_of_lt (Nat.le_of_eq ra.length) (sz_lt (by omega)), hlt, H0c, wipeE e3 vs, acc ++ [yv], ys ++ [y], upd_same, dc2, (ra.mono ((f3.ex.trans stb.fm.ex).trans stc.fm.ex)).append (.cons ry .nil), by rw [List.length_append]; exact Nat.succ_le_succ hy, ?_, ?_, ?_, ?_⟩
                · have sw := sr_wipe (vs := vs) (src.side (o := .lst (acc ++ [yv])) dc2 (.inr ⟨_, dc1⟩) noC)
                  rw [hw] at sw
                  exact sw
                · exact fun z => noC (own_wipe (vs := vs) (by rw [hw]; exact z))
                · have stw := (stp_wipe2 (vs := vs) stC iov).side (p := D) (o := .lst (acc ++ [yv])) hD
                  rw [hw] at stw
                  exact stw
                · revert pp
                  show Post C (NewL C.K σ H) H0 H σ en Q ((lcLoop ws (wipeE en1 vs) vs g tst el (xs.drop (i + 1)) (wipeE e3 vs) >>= fun r => .ok (y :: r.1, r.2)) >>= fun q => .ok (ys ++ q.1, restE en1 q.2 vs)) → _
                  cases lcLoop ws (wipeE en1 vs) vs g tst el (xs.drop (i + 1)) (wipeE e3 vs) with
                  | ok r =>
                    intro pp
                    have pp : Post C (NewL C.K σ H) H0 H σ en Q (.ok (ys ++ (y :: r.1), restE en1 r.2 vs)) := pp
                    rw [List.append_cons] at pp
                    exact pp
                  | exc n => exact fun pp => pp
                  | bad => exact fun pp => pp
theorem dn_lc {elt tg iter : Expr} {ifs : List Expr} {scope : Scope} {own : List (Str × Nat)} {pos : Pos} {it : Sem' Its'} {js : List Nat} {g : PyData → En → R En} {tst : Sem' Bool} {el : Sem' PyData} (hc : X.calm = true) (hN : X.N.Nodup) (hi : PI X tg iter (tI C it)) (ok : BlkOk X.N X.env.scope scope own)
    (hg : ∀ (s : Shared) (H : Hp) (a : Addr) (cl : List (Str × Addr)) (fp : List Addr), PG (X.blk s H scope (compEnvC scope cl a X.env) fp) tg (gD C.non js g)) (ht : ∀ (s : Shared) (H : Hp) (a : Addr) (cl : List (Str × Addr)) (fp : List Addr), PTs (X.blk s H scope (compEnvC scope cl a X.env) fp) ifs (tT C.non tst))
    (he : ∀ (s : Shared) (H : Hp) (a : Addr) (cl : List (Str × Addr)) (fp : List Addr), PE (X.blk s H scope (compEnvC scope cl a X.env) fp) elt (tE C.non el)) (hj : ∀ j ∈ js, j ∈ own.map (·.2)) (hs : ∀ x, foldedSetIterable iter X.env x = pure x := by intro _; rfl) :
    PE X (.ListComp elt [⟨tg, iter, ifs, 0⟩] scope pos) (tN C (dLc it (own.map (·.2)) g tst el)) := (pe_lc hc hN hi ok hg ht he hs).imp (lc_tn hj)
end
end PD
end
section
namespace PD
open PySem PySem.Spec PyProof.Rows L2 Evl

/-! ### statements -/
inductive Rv where
  | dat (d : PyData)
  | new (ds : List PyData)
inductive RS where
  | next (en : En)
  | ret (r : Rv) (en : En)
  | brk (en : En)
  | cont (en : En)
  | exc (n : Nat)
  | bad
abbrev SemS := En → RS
def RvR (K : PySem.W.Frag) (σ : L2.St) (Hs : Hp) (en' : En) (H0' H' : Hp) (v : V) : Rv → Prop
  | .dat d => Rp K H0' v d
  | .new ds => NewL K σ Hs en' H0' H' v ds
def PostS (C : Ct) (H0 H : Hp) (σ : L2.St) (en : En) (D : Ends) : RS → Prop
  | .next en' => ∀ H0' H' σ', Stp σ en H0 H σ' en' H0' H' → SR C.K C.T H0' H' σ' en' → D.nx σ' H'
  | .ret r en' => ∀ H0' H' σ' v, Stp σ en H0 H σ' en' H0' H' → SR C.K C.T H0' H' σ' en' → RvR C.K σ' H en' H0' H' v r → D.rt v H'
  | .brk en' => ∀ H0' H' σ', Stp σ en H0 H σ' en' H0' H' → SR C.K C.T H0' H' σ' en' → D.bk σ' H'
  | .cont en' => ∀ H0' H' σ', Stp σ en H0 H σ' en' H0' H' → SR C.K C.T H0' H' σ' en' → D.ct σ' H'
  | .exc n => C.err (OwnA σ en) H0 H n
  | .bad => False
def tS (C : Ct) (S : SemS) : TS := fun D σ H => ∃ H0 en, SR C.K C.T H0 H σ en ∧ PostS C H0 H σ en D (S en)
def ofR {α : Type} (x : R α) (f : α → RS) : RS := match x with
  | .ok a => f a
  | .exc n => .exc n
  | .bad => .bad
@[simp] theorem ofR_ok {α : Type} (a : α) (f : α → RS) : ofR (.ok a) f = f a := rfl
@[simp] theorem ofR_exc {α : Type} (n : Nat) (f : α → RS) : ofR (.exc n) f = .exc n := rfl
@[simp] theorem ofR_bad {α : Type} (f : α → RS) : ofR .bad f = .bad := rfl
def sNext : SemS := fun en => .next en
def sThen (x : RS) (f : SemS) : RS := match x with
  | .next en => f en
  | y => y
def sSeq (S T : SemS) : SemS := fun en => sThen (S en) T
def sAsg (F : Sem' PyData) (g : PyData → En → R En) : SemS := fun en => ofR (F en) fun p => ofR (lift (g p.1 p.2)) fun e => .next e
/-- a new list that slot i alone holds -/
def sOwn (F : Sem' (List PyData)) (i : Nat) : SemS := fun en => ofR (F en) fun p => if ioAt p.2 i then .bad else .next (p.2.set i (.own false p.1))
def sDrop (F : Sem' PyData) : SemS := fun en => ofR (F en) fun p => .next p.2
def sRet (F : Sem' PyData) : SemS := fun en => ofR (F en) fun p => .ret (.dat p.1) p.2
def sRetN : SemS := fun en => .ret (.dat .none) en
def sRetL (F : Sem' (List PyData)) : SemS := fun en => ofR (F en) fun p => .ret (.new p.1) p.2
def sIf (T : Sem' Bool) (S U : SemS) : SemS := fun en => ofR (T en) fun p => if p.1 then S p.2 else U p.2
def sBrk : SemS := fun en => .brk en
def sCont : SemS := fun en => .cont en
def sExc (n : Nat) : SemS := fun _ => .exc n
def forLoop (g : PyData → En → R En) (S : SemS) : List PyData → En → RS
  | [], e => .next e
  | x :: xs, e => ofR (lift (g x e)) fun e1 => match S e1 with
    | .next e2 => forLoop g S xs e2
    | .cont e2 => forLoop g S xs e2
    | .brk e2 => .next e2
    | y => y
def sFor (it : Sem' Its') (g : PyData → En → R En) (S : SemS) : SemS := fun en => ofR (it en) fun p => if p.1.2.isEmpty = true then forLoop g S p.1.1 p.2 else .bad
def whLoop (T : Sem' Bool) (S : SemS) : Nat → En → RS
  | 0, _ => .bad
  | n + 1, e => ofR (T e) fun p => if p.1 then match S p.2 with
    | .next e2 => whLoop T S n e2
    | .cont e2 => whLoop T S n e2
    | .brk e2 => .next e2
    | y => y
    else .next p.2
def sWhile (n : En → Nat) (T : Sem' Bool) (S : SemS) : SemS := fun en => whLoop T S (n en) en

section
variable {C : Ct} {X : Cx} {H0 H H0' H' H01 H1 : Hp} {σ σ' : L2.St} {en en' en1 e : En} {a b c tg : Expr} {pos : Pos} {D : Ends}
/-- a later start of the same -/
theorem postS_at {D' : Ends} {r : RS} (h : PostS C H0 H σ en D r) (st : Stp σ en H0 H σ' en' H0' H') (hn : D'.nx = D.nx) (hr : D'.rt = D.rt) (hb : D'.bk = D.bk) (hc : D'.ct = D.ct) : PostS C H0' H' σ' en' D' r := by
  cases r with
  | next e => exact fun a b c st2 sr => by rw [hn]; exact h a b c (st.trans st2) sr
  | brk e => exact fun a b c st2 sr => by rw [hb]; exact h a b c (st.trans st2) sr
  | cont e => exact fun a b c st2 sr => by rw [hc]; exact h a b c (st.trans st2) sr
  | ret r e =>
      intro a b c v st2 sr rr
      rw [hr]
      refine h a b c v (st.trans st2) sr ?_
      cases r with
      | dat d => exact rr
      | new ds =>
        obtain ⟨p, vs, e1, e2, e3⟩ := rr
        exact ⟨p, vs, e1, st.fm.kp p e2, e3⟩
  | exc n => exact Ct.err_at h st.fm st.ow
  | bad => exact h
theorem postS_bind {α : Type} {rel : En → Hp → Hp → V → α → Prop} {Q : VK} {x : R (α × En)} {f : α → En → RS}
    (h : PostS C H0 H σ en D (ofR x fun p => f p.1 p.2))
    (k : ∀ a en1 H01 H1 v, x = .ok (a, en1) → Stp σ en H0 H σ en1 H01 H1 → SR C.K C.T H01 H1 σ en1 → rel en1 H01 H1 v a → PostS C H01 H1 σ en1 D (f a en1) → Q v H1) : Post C rel H0 H σ en Q x := by
  cases x with
  | ok p =>
    obtain ⟨a, en1⟩ := p
    intro H01 H1 v st sr r
    exact k a en1 H01 H1 v rfl st sr r (postS_at (h : PostS C H0 H σ en D (f a en1)) st rfl rfl rfl rfl)
  | exc n => exact h
  | bad => exact h.elim
theorem postS_bindB {Q : Bool → Hp → Prop} {x : R (Bool × En)} {f : Bool → En → RS}
    (h : PostS C H0 H σ en D (ofR x fun p => f p.1 p.2))
    (k : ∀ a en1 H01 H1, x = .ok (a, en1) → Stp σ en H0 H σ en1 H01 H1 → SR C.K C.T H01 H1 σ en1 → PostS C H01 H1 σ en1 D (f a en1) → Q a H1) : PostB C H0 H σ en Q x := by
  cases x with
  | ok p =>
    obtain ⟨a, en1⟩ := p
    intro H01 H1 st sr
    exact k a en1 H01 H1 rfl st sr (postS_at (h : PostS C H0 H σ en D (f a en1)) st rfl rfl rfl rfl)
  | exc n => exact h
  | bad => exact h.elim
theorem ds_nil : PSs X [] (tS C sNext) := pss_nil.imp fun D σ H ⟨H0, en, s, p⟩ => p H0 H σ Stp.refl s
theorem ds_pass : PS X (.Pass pos) (tS C sNext) := ps_pass.imp fun D σ H ⟨H0, en, s, p⟩ => p H0 H σ Stp.refl s
theorem ds_break : PS X (.Break pos) (tS C sBrk) := ps_break.imp fun D σ H ⟨H0, en, s, p⟩ => p H0 H σ Stp.refl s
theorem ds_continue : PS X (.Continue pos) (tS C sCont) := ps_continue.imp fun D σ H ⟨H0, en, s, p⟩ => p H0 H σ Stp.refl s
theorem ds_one {st : Stmt} {S : SemS} (h : PS X st (tS C S)) : PSs X [st] (tS C S) := pss_one h
/-- what follows a step -/
theorem postS_seq {r : RS} {T : SemS} (p : PostS C H0 H σ en D (sThen r T)) : PostS C H0 H σ en { D with nx := tS C T D } r := by
  cases r with
  | next e => exact fun H0' H' σ' st sr => ⟨H0', e, sr, postS_at (p : PostS C H0 H σ en D (T e)) st rfl rfl rfl rfl⟩
  | _ => exact p
theorem ds_cons {st : Stmt} {rest : List Stmt} {S T : SemS} (h1 : PS X st (tS C S)) (h2 : PSs X rest (tS C T)) : PSs X (st :: rest) (tS C (sSeq S T)) :=
  (pss_cons h1 h2).imp fun D σ H ⟨H0, en, s, p⟩ => ⟨H0, en, s, postS_seq p⟩
theorem asg_go {F : Sem' PyData} {js : List Nat} {g : PyData → En → R En} (s : SR C.K C.T H0 H σ en) (p : PostS C H0 H σ en D (sAsg F g en)) : tAsg (tE C F) (gD C js g) D σ H :=
  ⟨H0, en, s, postS_bind (f := fun d e => ofR (lift (g d e)) fun e => .next e) (D := D) p fun d en1 H01 H1 v _ st sr r p1 => ⟨H01, en1, d, sr, r, by
    cases eg : g d en1 with
    | ok e2 =>
      rw [eg] at p1
      exact fun σ' hl hk st2 sr2 => p1 H01 H1 σ' st2 sr2
    | exc n => rw [eg] at p1; exact p1.elim
    | bad => rw [eg] at p1; exact p1.elim⟩⟩
/-- target = e -/
theorem ds_asg {F : Sem' PyData} {js : List Nat} {g : PyData → En → R En} (he : PE X a (tE C F)) (hg : PG X tg (gD C js g)) (hs : swapsWithSole [tg] a pos.line X.env = pure false := by rfl) (hw : swappedStores [tg] a X.env = pure none := by rfl)
    (h1 : (assignEach [tg] X.env).map (·.2) = [assign tg X.env] := by rfl) : PS X (.Assign [tg] a pos) (tS C (sAsg F g)) :=
  (ps_asg he hg hs hw h1).imp fun D σ H ⟨H0, en, s, p⟩ => asg_go s p
theorem setN_go {F : Sem' PyData} {i : Nat} (s : SR C.K C.T H0 H σ en) (p : PostS C H0 H σ en D (sAsg F (tgN i) en)) : tAsg (tE C F) (gName i) D σ H :=
  ⟨H0, en, s, postS_bind (f := fun d e => ofR (lift (tgN i d e)) fun e => .next e) (D := D) p fun d en1 H01 H1 v _ st sr r p1 => by
    unfold tgN at p1
    split at p1
    · exact p1.elim
    · rename_i hi
      exact p1 H01 H1 _ (set_stp (by simpa using hi)) (set_sr sr r)⟩
/-- name = e -/
theorem ds_set {F : Sem' PyData} {i : Nat} {x : Str} {pos' : Pos} (hN : X.N.Nodup) (hi : X.N[i]? = some x) (hx : Loc X.env.scope x) (he : PE X a (tE C F)) (hs : swapsWith a (some (.Name x pos')) pos.line X.env = pure false := by rfl) (hf : X.fn x = true ∨ X.env.scope.names.lookup x = some .local := by first | exact .inl rfl | exact .inr rfl | assumption) :
    PS X (.Assign [.Name x pos'] a pos) (tS C (sAsg F (tgN i))) :=
  (ps_set hN hi hx he hs hf).imp fun D σ H ⟨H0, en, s, p⟩ => setN_go s p
theorem own_sr {i : Nat} {p : Addr} {ws : List V} {ds : List PyData} (s : SR C.K C.T H0 H σ en) (hp : H p = some (.lst ws)) (h0 : H0 p = none) (r : RpAll C.K H0 ws ds) (no : ¬ OwnA σ en p) : SR C.K C.T H0 H (σ.set i (some (.ref p))) (en.set i (.own false ds)) := by
  have at_i : ∀ {y : Sl}, (en.set i (.own false ds))[i]? = some y → i < en.length ∧ y = .own false ds := fun {y} h => by
    have hl : i < en.length := by
      have := (List.getElem?_eq_some_iff.mp h).1
      rwa [List.length_set] at this
    rw [List.getElem?_set_self hl] at h
    exact ⟨hl, (Option.some.inj h).symm⟩
  refine ⟨by rw [List.length_set, List.length_set]; exact s.len, s.ex, s.tb, s.nt, fun j d h => ?_, fun j io es h => ?_, fun j k io es jo fs q n h1 h2 e1 => ?_⟩
  · by_cases z : i = j
    · subst z
      cases (at_i h).2
    · rw [List.getElem?_set_ne z] at h ⊢
      exact s.dat j d h
  · by_cases z : i = j
    · subst z
      obtain ⟨hl, e⟩ := at_i h
      cases e
      exact ⟨p, ws, by rw [List.getElem?_set_self (by rw [s.len]; exact hl)], hp, h0, r⟩
    · rw [List.getElem?_set_ne z] at h ⊢
      exact s.own j io es h
  · by_cases z : i = j
    · subst z
      obtain ⟨hl, e⟩ := at_i h1
      rw [List.getElem?_set_self (by rw [s.len]; exact hl)] at e1
      cases e1
      rw [List.getElem?_set_ne n] at h2 ⊢
      exact fun e2 => no ⟨k, jo, fs, h2, e2⟩
    · rw [List.getElem?_set_ne z] at h1 e1
      by_cases y : i = k
      · subst y
        obtain ⟨hl, e⟩ := at_i h2
        rw [List.getElem?_set_self (by rw [s.len]; exact hl)]
        intro e2
        cases e2
        exact no ⟨j, io, es, h1, e1⟩
      · rw [List.getElem?_set_ne y] at h2 ⊢
        exact s.sep j k io es jo fs q n h1 h2 e1
theorem own_stp {Hs Hs0 : Hp} {i : Nat} {p : Addr} {ds : List PyData} (st : Stp σ en1 Hs0 Hs σ en H0 H) (hs : Nw Hs p) (hi : ioAt en i = false) : Stp σ en1 Hs0 Hs (σ.set i (some (.ref p))) (en.set i (.own false ds)) H0 H where
  fm := st.fm
  ow := fun q ⟨j, io, es, h1, h2⟩ => by
    by_cases z : i = j
    · subst z
      have hl : i < σ.length := by
        have := (List.getElem?_eq_some_iff.mp h2).1
        rwa [List.length_set] at this
      rw [List.getElem?_set_self hl] at h2
      cases h2
      exact .inr hs
    · rw [List.getElem?_set_ne z] at h1 h2
      exact st.ow q ⟨j, io, es, h1, h2⟩
  io := fun j es h => by
    obtain ⟨e1, ds', h'⟩ := st.io j es h
    have z : i ≠ j := fun z => by subst z; exact ioAt_no hi h'
    rw [List.getElem?_set_ne z, List.getElem?_set_ne z]
    exact ⟨rfl, ds', h'⟩
theorem own_go {F : Sem' (List PyData)} {i : Nat} (s : SR C.K C.T H0 H σ en) (p : PostS C H0 H σ en D (sOwn F i en)) : tAsg (tN C F) (gName i) D σ H := by
  refine ⟨H0, en, s, ?_⟩
  unfold sOwn at p
  cases e : F en with
  | exc n => rw [e] at p; exact p
  | bad => rw [e] at p; exact p.elim
  | ok q =>
    obtain ⟨ds, e1⟩ := q
    rw [e] at p
    intro H01 H1 v st sr ⟨q, ws, ev, hn, hq, h0, r, no⟩
    subst ev
    have p : PostS C H0 H σ en D (if ioAt e1 i then .bad else .next (e1.set i (.own false ds))) := p
    split at p
    · exact p.elim
    · rename_i hi
      exact p H01 H1 _ (own_stp st hn (by simpa using hi)) (own_sr sr hq h0 r no)
/-- name = a new list that is changed later -/
theorem ds_own {F : Sem' (List PyData)} {i : Nat} {x : Str} {pos' : Pos} (hN : X.N.Nodup) (hi : X.N[i]? = some x) (hx : Loc X.env.scope x) (he : PE X a (tN C F)) (hs : swapsWith a (some (.Name x pos')) pos.line X.env = pure false := by rfl) (hf : X.fn x = true ∨ X.env.scope.names.lookup x = some .local := by first | exact .inl rfl | exact .inr rfl | assumption) :
    PS X (.Assign [.Name x pos'] a pos) (tS C (sOwn F i)) :=
  (ps_set hN hi hx he hs hf).imp fun D σ H ⟨H0, en, s, p⟩ => own_go s p
theorem ds_expr {F : Sem' PyData} (he : PE X a (tE C F)) (hs : swapsWith a none pos.line X.env = pure false := by rfl) : PS X (.Expr a pos) (tS C (sDrop F)) :=
  (ps_expr he hs).imp fun D σ H ⟨H0, en, s, p⟩ => ⟨H0, en, s, postS_bind (f := fun _ e => .next e) (D := D) p fun d en1 H01 H1 v _ st sr r p1 => p1 H01 H1 σ Stp.refl sr⟩
theorem ds_doc {x : Str} {j : Nat} {pos' : Pos} : PS X (.Expr (.Constant (.str x) j pos) pos') (tS C sNext) := ps_doc.imp fun D σ H ⟨H0, en, s, p⟩ => p H0 H σ Stp.refl s
theorem ds_ret {F : Sem' PyData} (he : PE X a (tE C F)) : PS X (.Return (some a) pos) (tS C (sRet F)) :=
  (ps_ret he).imp fun D σ H ⟨H0, en, s, p⟩ => ⟨H0, en, s, postS_bind (f := fun d e => .ret (.dat d) e) (D := D) p fun d en1 H01 H1 v _ st sr r p1 => p1 H01 H1 σ v Stp.refl sr r⟩
theorem ds_retL {F : Sem' (List PyData)} (he : PE X a (tN C F)) : PS X (.Return (some a) pos) (tS C (sRetL F)) :=
  (ps_ret he).imp fun D σ H ⟨H0, en, s, p⟩ => ⟨H0, en, s, by
    unfold sRetL at p
    cases e : F en with
    | exc n => rw [e] at p; exact p
    | bad => rw [e] at p; exact p.elim
    | ok q =>
      rw [e] at p
      exact fun H01 H1 v st sr r => p H01 H1 σ v st sr r⟩
theorem ds_retN : PS X (.Return none pos) (tS C sRetN) := ps_retN.imp fun D σ H ⟨H0, en, s, p⟩ => p H0 H σ .non Stp.refl s .non
theorem ds_if {T : Sem' Bool} {S U : SemS} {x y : List Stmt} (hc : PT X c (tT C T)) (ha : PSs X x (tS C S)) (hb : PSs X y (tS C U)) : PS X (.If c x y pos) (tS C (sIf T S U)) :=
  (ps_if hc ha hb).imp fun D σ H ⟨H0, en, s, p⟩ => ⟨H0, en, s, postS_bindB (f := fun b e => if b then S e else U e) (D := D) p fun b en1 H01 H1 _ st sr p1 => by
    cases b with
    | true => rw [if_pos rfl]; exact ⟨H01, en1, sr, p1⟩
    | false => rw [if_neg Bool.false_ne_true]; exact ⟨H01, en1, sr, p1⟩⟩
theorem ds_for {iter : Expr} {body : List Stmt} {it : Sem' Its'} {js : List Nat} {g : PyData → En → R En} {S : SemS} (hp : PassesOwn (model X.prog X.w) X.A X.env X.xe) (hc : X.calm = true) (hi : PI X tg iter (tI C it)) (hg : PG X tg (gD C js g)) (hb : PSs X body (tS C S))
    (hs : ∀ x, foldedSetIterable iter X.env x = pure x := by intro _; rfl) : PS X (.For tg iter body [] pos) (tS C (sFor it g S)) :=
  (ps_for hp hc hi hg hb hs).imp fun D σ H ⟨H0, en, s, p⟩ => by
    refine ⟨H0, en, s, ?_⟩
    unfold sFor at p
    cases e0 : it en with
    | exc n => rw [e0] at p; exact p
    | bad => rw [e0] at p; exact p.elim
    | ok q =>
      obtain ⟨⟨xs, ws⟩, en1⟩ := q
      rw [e0] at p
      have p : PostS C H0 H σ en D (if ws.isEmpty = true then forLoop g S xs en1 else .bad) := p
      split at p
      case isFalse => exact p.elim
      rename_i hws
      have hws : ws = [] := by simpa using hws
      subst hws
      intro H01 H1 J P st0 s1 hJ hP
      have hJ : ItD C J xs P := hJ
      have toP : ∀ (H0' H' : Hp) (σ' : L2.St) (e : En), Ex H01 H0' → SR C.K C.T H0' H' σ' e → P H0' H' := fun H0' H' σ' e x s' => hP H0' H' σ' e x s' fun i hi => by cases hi
      have p := postS_at (D' := D) p st0 rfl rfl rfl rfl
      let Wn : Nat → L2.St → Hp → Prop := fun i σ' H' => i ≤ xs.length ∧ ∃ H0' e, Ex H01 H0' ∧ SR C.K C.T H0' H' σ' e ∧ PostS C H0' H' σ' e D (forLoop g S (xs.drop i) e)
      refine ⟨fun i m σ' H' => m = xs.length - i ∧ Wn i σ' H', ⟨xs.length, rfl, Nat.zero_le _, H01, en1, Ex.refl _, s1, p⟩, ?_⟩
      rintro i m σ' H' ⟨rfl, hi, H0', e, hx, sr, pp⟩
      by_cases hlt : i < xs.length
      case neg =>
        have ei : i = xs.length := by omega
        subst ei
        refine .inl ⟨hJ.stop H0' H' (toP H0' H' σ' e hx sr) sr.good, ?_⟩
        rw [List.drop_length] at pp
        exact pp H0' H' σ' Stp.refl sr
      case pos =>
        obtain ⟨go, yld⟩ := hJ.go H0' H' i xs[i] (toP H0' H' σ' e hx sr) sr.good (List.getElem?_eq_getElem hlt)
        refine .inr ⟨go, fun σ' H' => Wn (i + 1) σ' H', fun σ' H' w => ⟨xs.length - (i + 1), by omega, rfl, w⟩, fun v H3 hy3 => ?_⟩
        obtain ⟨H03, f3, g3, rx⟩ := yld v H3 hy3
        rw [List.drop_eq_getElem_cons hlt] at pp
        have pp := postS_at (D' := D) pp (f3.stp (σ := σ') (en := e)) rfl rfl rfl rfl
        have pp : PostS C H03 H3 σ' e D (ofR (lift (g xs[i] e)) fun e1 => match S e1 with
          | .next e2 => forLoop g S (xs.drop (i + 1)) e2
          | .cont e2 => forLoop g S (xs.drop (i + 1)) e2
          | .brk e2 => .next e2
          | y => y) := pp
        refine ⟨H03, e, xs[i], sr.grown f3 g3, rx, ?_⟩
        cases eg : g xs[i] e with
        | exc n => rw [eg] at pp; exact pp.elim
        | bad => rw [eg] at pp; exact pp.elim
        | ok e1 =>
          rw [eg] at pp
          intro σ2 hl2 hk2 st2 sr2
          have pp := postS_at (D' := D) pp st2 rfl rfl rfl rfl
          have pp : PostS C H03 H3 σ2 e1 D (match S e1 with
            | .next e2 => forLoop g S (xs.drop (i + 1)) e2
            | .cont e2 => forLoop g S (xs.drop (i + 1)) e2
            | .brk e2 => .next e2
            | y => y) := pp
          refine ⟨H03, e1, sr2, ?_⟩
          cases es : S e1 with
          | next e2 =>
            rw [es] at pp
            exact fun H0b Hb σb st sr => ⟨hlt, H0b, e2, (hx.trans f3.ex).trans st.fm.ex, sr, postS_at pp st rfl rfl rfl rfl⟩
          | cont e2 =>
            rw [es] at pp
            exact fun H0b Hb σb st sr => ⟨hlt, H0b, e2, (hx.trans f3.ex).trans st.fm.ex, sr, postS_at pp st rfl rfl rfl rfl⟩
          | brk e2 =>
            rw [es] at pp
            exact fun H0b Hb σb st sr => pp H0b Hb σb st sr
          | ret r e2 => rw [es] at pp; exact pp
          | exc n => rw [es] at pp; exact pp
          | bad => rw [es] at pp; exact pp
theorem ds_while {body : List Stmt} {T : Sem' Bool} {S : SemS} (n : En → Nat) (hp : PassesOwn (model X.prog X.w) X.A X.env X.xe) (hc : PT X c (tT C T)) (hb : PSs X body (tS C S)) : PS X (.While c body [] pos) (tS C (sWhile n T S)) :=
  (ps_while hp hc hb).imp fun D σ H ⟨H0, en, s, p⟩ => by
    refine ⟨fun m σ' H' => ∃ H0' e, SR C.K C.T H0' H' σ' e ∧ PostS C H0' H' σ' e D (whLoop T S m e), ⟨n en, H0, en, s, p⟩, ?_⟩
    rintro m σ' H' ⟨H0', e, sr, pp⟩
    cases m with
    | zero => exact pp.elim
    | succ m =>
      refine ⟨H0', e, sr, ?_⟩
      have pp : PostS C H0' H' σ' e D (ofR (T e) fun p => if p.1 then match S p.2 with
        | .next e2 => whLoop T S m e2
        | .cont e2 => whLoop T S m e2
        | .brk e2 => .next e2
        | y => y
        else .next p.2) := pp
      refine postS_bindB (f := fun b e => if b then match S e with
        | .next e2 => whLoop T S m e2
        | .cont e2 => whLoop T S m e2
        | .brk e2 => .next e2
        | y => y
        else .next e) (D := D) pp fun b e1 H01 H1 _ st s1 p1 => ?_
      cases b with
      | false =>
        rw [if_neg Bool.false_ne_true]
        exact p1 H01 H1 σ' Stp.refl s1
      | true =>
        rw [if_pos rfl]
        have p1 : PostS C H01 H1 σ' e1 D (match S e1 with
          | .next e2 => whLoop T S m e2
          | .cont e2 => whLoop T S m e2
          | .brk e2 => .next e2
          | y => y) := p1
        refine ⟨fun σ2 H2 => ∃ H0' e, SR C.K C.T H0' H2 σ2 e ∧ PostS C H0' H2 σ2 e D (whLoop T S m e), fun σ2 H2 w => ⟨m, Nat.lt_succ_self m, w⟩, H01, e1, s1, ?_⟩
        cases es : S e1 with
        | next e2 =>
          rw [es] at p1
          exact fun H0b Hb σb st sr => ⟨H0b, e2, sr, postS_at p1 st rfl rfl rfl rfl⟩
        | cont e2 =>
          rw [es] at p1
          exact fun H0b Hb σb st sr => ⟨H0b, e2, sr, postS_at p1 st rfl rfl rfl rfl⟩
        | brk e2 =>
          rw [es] at p1
          exact fun H0b Hb σb st sr => p1 H0b Hb σb st sr
        | ret r e2 => rw [es] at p1; exact p1
        | exc n => rw [es] at p1; exact p1
        | bad => rw [es] at p1; exact p1
end
end PD
end
section
namespace PD
open PySem PySem.Spec PyProof.Rows L2 Evl

/-! ### defs -/
abbrev Fn := List Sl → R (Rv × List Sl)
def spD (K : PySem.W.Frag) (T : List (Addr × Str)) (ca : Nat → Addr) (n : Nat) (f : Fn) : Sp := fun vs H Q E => vs.length = n ∧ ∃ H0 args, SR K T H0 H (vs.map some) args ∧ (∀ (i : Nat) (ds : List PyData), args[i]? ≠ some (.own false ds)) ∧
  match f args with
  | .ok (r, args') => ∀ H0' H' v, Stp (vs.map some) args H0 H (vs.map some) args' H0' H' → SR K T H0' H' (vs.map some) args' → RvR K (vs.map some) H args' H0' H' v r → Q v H'
  | .exc m => Ct.err ⟨K, T, ca, E⟩ (OwnA (vs.map some) args) H0 H m
  | .bad => False
def backArgs : List Sl → En → List Sl
  | [], _ => []
  | a :: as, e => (match a with
    | .own true _ => e.headD .no
    | a => a) :: backArgs as e.tail
def runF (m : Nat) (B : SemS) : Fn := fun args => match B (args ++ List.replicate (m - args.length) .no) with
  | .ret r e => .ok (r, backArgs args e)
  | .next e => .ok (.dat .none, backArgs args e)
  | .exc n => .exc n
  | _ => .bad
section
variable {K : PySem.W.Frag} {T : List (Addr × Str)} {ca : Nat → Addr} {H0 H H0' H' : Hp} {σ σ' : L2.St} {en en' e : En}
theorem backArgs_length : ∀ (as : List Sl) (e : En), (backArgs as e).length = as.length
  | [], _ => rfl
  | a :: as, e => by unfold backArgs; rw [List.length_cons, List.length_cons, backArgs_length as e.tail]
theorem back_dat : ∀ (as : List Sl) (e : En) (i : Nat), (∀ ds, as[i]? ≠ some (.own true ds)) → (backArgs as e)[i]? = as[i]?
  | [], _, i, _ => rfl
  | a :: as, e, 0, h => by
    unfold backArgs
    cases a with
    | own io ds =>
      cases io with
      | true => exact absurd rfl (h ds)
      | false => rfl
    | _ => rfl
  | a :: as, e, i + 1, h => by
    unfold backArgs
    have := back_dat as e.tail i (by simpa using h)
    simpa using this
theorem back_own : ∀ (as : List Sl) (e : En) (i : Nat) (ds : List PyData) (y : Sl), as[i]? = some (.own true ds) → e[i]? = some y → (backArgs as e)[i]? = some y
  | [], _, i, _, _, h, _ => by simp at h
  | a :: as, e, 0, ds, y, h, hy => by
    have h : a = .own true ds := Option.some.inj h
    subst h
    unfold backArgs
    cases e with
    | nil => simp at hy
    | cons z r => simpa using hy
  | a :: as, e, i + 1, ds, y, h, hy => by
    unfold backArgs
    have := back_own as e.tail i ds y (by simpa using h) (by cases e with
      | nil => simp at hy
      | cons z r => simpa using hy)
    simpa using this
theorem start_get {N : List Str} {vs : List V} {i : Nat} (h : i < vs.length) : (start N vs)[i]? = (vs.map some)[i]? := by
  unfold L2.start
  rw [List.getElem?_append_left (by rw [List.length_map]; exact h)]
theorem pad_get {as : List Sl} {m i : Nat} {y : Sl} (h : (as ++ List.replicate m .no)[i]? = some y) (hy : y ≠ .no) : as[i]? = some y := by
  by_cases hl : i < as.length
  · rwa [List.getElem?_append_left hl] at h
  · rw [List.getElem?_append_right (by omega)] at h
    have := List.mem_of_getElem? h
    exact absurd (List.eq_of_mem_replicate this) hy
theorem sr_pad {N : List Str} {vs : List V} {args : List Sl} (s : SR K T H0 H (vs.map some) args) (hl : vs.length ≤ N.length) : SR K T H0 H (start N vs) (args ++ List.replicate (N.length - args.length) .no) := by
  have hlen : vs.length = args.length := by have := s.len; rwa [List.length_map] at this
  have lt : ∀ {i : Nat} {y : Sl}, args[i]? = some y → i < vs.length := fun {i y} h => by rw [hlen]; exact (List.getElem?_eq_some_iff.mp h).1
  refine ⟨?_, s.ex, s.tb, s.nt, fun i d h => ?_, fun i io ds h => ?_, fun i j io ds jo es p n h1 h2 e1 => ?_⟩
  · unfold L2.start
    rw [List.length_append, List.length_append, List.length_map, List.length_replicate, List.length_replicate, hlen]
  · have h := pad_get h (fun z => by cases z)
    rw [start_get (lt h)]
    exact s.dat i d h
  · have h := pad_get h (fun z => by cases z)
    rw [start_get (lt h)]
    exact s.own i io ds h
  · have h1 := pad_get h1 (fun z => by cases z)
    have h2 := pad_get h2 (fun z => by cases z)
    rw [start_get (lt h1)] at e1
    rw [start_get (lt h2)]
    exact s.sep i j io ds jo es p n h1 h2 e1
theorem own_pad {N : List Str} {vs : List V} {args : List Sl} {m : Nat} (hl : vs.length = args.length) {p : Addr} (h : OwnA (start N vs) (args ++ List.replicate m .no) p) : OwnA (vs.map some) args p := by
  obtain ⟨i, io, ds, h1, h2⟩ := h
  have h1 := pad_get h1 (fun z => by cases z)
  rw [start_get (by rw [hl]; exact (List.getElem?_eq_some_iff.mp h1).1)] at h2
  exact ⟨i, io, ds, h1, h2⟩
theorem pad_own {args : List Sl} {m i : Nat} {y : Sl} (h : args[i]? = some y) : (args ++ List.replicate m .no)[i]? = some y := by
  rw [List.getElem?_append_left (List.getElem?_eq_some_iff.mp h).1]; exact h
/-- what a body leaves, told of the arguments -/
theorem back_all {N : List Str} {vs : List V} {args : List Sl} (s : SR K T H0 H (vs.map some) args) (ho : ∀ (i : Nat) (ds : List PyData), args[i]? ≠ some (.own false ds)) (t : Stp (start N vs) (args ++ List.replicate (N.length - args.length) .no) H0 H σ' e H0' H') (sr : SR K T H0' H' σ' e) :
    Stp (vs.map some) args H0 H (vs.map some) (backArgs args e) H0' H' ∧ SR K T H0' H' (vs.map some) (backArgs args e) := by
  have hlen : vs.length = args.length := by have := s.len; rwa [List.length_map] at this
  have key : ∀ {i : Nat} {io : Bool} {ds : List PyData}, (backArgs args e)[i]? = some (.own io ds) → (∃ ds0, args[i]? = some (.own true ds0)) ∧ e[i]? = some (.own io ds) ∧ σ'[i]? = (vs.map some)[i]? := fun {i io ds} h => by
    by_cases z : ∃ ds0, args[i]? = some (.own true ds0)
    · obtain ⟨ds0, z⟩ := z
      obtain ⟨e1, ds1, e2⟩ := t.io i ds0 (pad_own z)
      rw [back_own args e i ds0 _ z e2] at h
      cases h
      rw [start_get (by rw [hlen]; exact (List.getElem?_eq_some_iff.mp z).1)] at e1
      exact ⟨⟨ds0, z⟩, e2, e1⟩
    · rw [back_dat args e i (fun ds0 y => z ⟨ds0, y⟩)] at h
      cases io with
      | true => exact absurd ⟨ds, h⟩ z
      | false => exact absurd h (ho i ds)
  refine ⟨⟨t.fm.weak fun p h => own_pad hlen h, fun p ⟨i, io, ds, h1, h2⟩ => ?_, fun i ds h => ?_⟩, ⟨?_, sr.ex, sr.tb, sr.nt, fun i d h => ?_, fun i io ds h => ?_, fun i j io ds jo es p n h1 h2 e1 => ?_⟩⟩
  · obtain ⟨⟨ds0, z⟩, _, _⟩ := key h1
    exact .inl ⟨i, true, ds0, z, h2⟩
  · obtain ⟨e1, ds1, e2⟩ := t.io i ds (pad_own h)
    exact ⟨rfl, ds1, back_own args e i ds _ h e2⟩
  · rw [backArgs_length]; exact s.len
  · by_cases z : ∃ ds0, args[i]? = some (.own true ds0)
    · obtain ⟨ds0, z⟩ := z
      obtain ⟨e1, ds1, e2⟩ := t.io i ds0 (pad_own z)
      rw [back_own args e i ds0 _ z e2] at h
      cases h
    · rw [back_dat args e i (fun ds0 y => z ⟨ds0, y⟩)] at h
      obtain ⟨v, e1, r⟩ := s.dat i d h
      exact ⟨v, e1, r.mono t.fm.ex⟩
  · obtain ⟨_, e2, e3⟩ := key h
    rw [← e3]
    exact sr.own i io ds e2
  · obtain ⟨⟨d1, z1⟩, _, _⟩ := key h1
    obtain ⟨⟨d2, z2⟩, _, _⟩ := key h2
    exact s.sep i j true d1 true d2 p n z1 z2 e1
/-- the def's promise starts its body -/
theorem run_start {N : List Str} {n : Nat} {vs : List V} {Q : VK} {E : XK} {B : SemS} (h : spD K T ca n (runF N.length B) vs H Q E) (hl : n ≤ N.length) : tS ⟨K, T, ca, E⟩ B { nx := fun _ H' => Q .non H', rt := Q } (start N vs) H := by
  obtain ⟨hn, H0, args, sr, ho, p⟩ := h
  have hlen : vs.length = args.length := by have := sr.len; rwa [List.length_map] at this
  refine ⟨H0, _, sr_pad sr (by omega), ?_⟩
  unfold runF at p
  cases e : B (args ++ List.replicate (N.length - args.length) Sl.no) with
  | next e1 =>
    rw [e] at p
    intro H0' H' σ' t s1
    obtain ⟨a, b⟩ := back_all sr ho t s1
    exact p H0' H' .non a b .non
  | ret r e1 =>
    rw [e] at p
    intro H0' H' σ' v t s1 rr
    obtain ⟨a, b⟩ := back_all sr ho t s1
    refine p H0' H' v a b ?_
    cases r with
    | dat d => exact rr
    | new ds =>
      obtain ⟨q, ws, e1, e2, e3, e4, e5, e6⟩ := rr
      refine ⟨q, ws, e1, e2, e3, e4, e5, fun h => ?_⟩
      rcases a.ow q h with ⟨i, io, es, h1, h2⟩ | _
      · obtain ⟨q', ws', f1, f2, _⟩ := sr.own i io es h1
        rw [h2] at f1
        cases f1
        exact nw_lst f2 e2
      · obtain ⟨i, io, es, h1, h2⟩ := h
        by_cases z : ∃ ds0, args[i]? = some (.own true ds0)
        · obtain ⟨ds0, z⟩ := z
          obtain ⟨q', ws', f1, f2, _⟩ := sr.own i true ds0 z
          rw [h2] at f1
          cases f1
          exact nw_lst f2 e2
        · rw [back_dat args _ i (fun ds0 y => z ⟨ds0, y⟩)] at h1
          cases io with
          | true => exact z ⟨es, h1⟩
          | false => exact ho i es h1
  | exc n =>
    rw [e] at p
    exact Ct.err_at (C := ⟨K, T, ca, E⟩) p Fm.refl fun q h => .inl (own_pad hlen h)
  | brk e1 => rw [e] at p; exact p.elim
  | cont e1 => rw [e] at p; exact p.elim
  | bad => rw [e] at p; exact p.elim
/-- THE RULE for a def: its body's reading over plain data -/
theorem fn_D {P : Program} {w : World} {mg : Str → Option Value} {base : Heap} {x qual : Str} {st : Stmt} {f : Addr} {fd : FuncData} {N ps : List Str} {k : Nat} {B : SemS} (F : Fun K x qual st f fd) (S : FnScope N ps (defScope st)) (hl : ps.length ≤ N.length)
    (hb : ∀ (cdv : Value) (A : Around) (outer : List Env) (s : Shared) (H : Hp) (E : XK), Room k (A.deeper (envOfC qual (defScope st) s.heap.objs.size f cdv)) →
      PSs (cxOf (L2.CX P w) P w K mg base N qual (defScope st) f cdv A outer s H E) (defBody st) (tS ⟨K, T, ca, E⟩ B)) : FnOk P w K mg base (L2.CX P w) (k + 1) f fd ps (spD K T ca ps.length (runF N.length B)) := by
  exact F.okX S (fun vs H Q E h => h.1) fun cdv A outer s H vs Q E hr h => ⟨_, hb cdv A outer s H E hr, run_start h hl⟩
/-- the same, by a nicer function -/
theorem fn_like {P : Program} {w : World} {mg : Str → Option Value} {base : Heap} {CX : CXT} {k n : Nat} {f : Addr} {fd : FuncData} {ps : List Str} {g h : Fn} (F : FnOk P w K mg base CX k f fd ps (spD K T ca n g)) (e : ∀ args, h args ≠ .bad → g args = h args) : FnOk P w K mg base CX k f fd ps (spD K T ca n h) :=
  F.imp fun vs H Q E ⟨hn, H0, args, sr, ho, p⟩ => ⟨hn, H0, args, sr, ho, by
    rw [e args (fun z => by rw [z] at p; exact p)]
    exact p⟩
end

/-! ### calls -/
def argOf (en : En) : Op → R Sl
  | .val d => .ok (.dat d)
  | .own i => match en[i]? with
    | some (.own _ ds) => .ok (.own true ds)
    | _ => .bad
def argsOf (en : En) : List Op → R (List Sl)
  | [] => .ok []
  | o :: os => lift (argOf en o) >>= fun a => argsOf en os >>= fun as => .ok (a :: as)
def ownsOf : List Op → Nat → List (Nat × Nat)
  | [], _ => []
  | .val _ :: os, n => ownsOf os (n + 1)
  | .own i :: os, n => (n, i) :: ownsOf os (n + 1)
def callEn (en : En) (os : List Op) (args' : List Sl) : R En := match ownsOf os 0 with
  | [] => .ok en
  | [(k, i)] => match en[i]?, args'[k]? with
    | some (.own io _), some (.own _ ds) => .ok (en.set i (.own io ds))
    | _, _ => .bad
  | _ => .bad
def dCall (n : Nat) (f : Fn) (F : Sem' (List Op)) : Sem' Rv := fun en => F en >>= fun p => lift (argsOf p.2 p.1) >>= fun as => if as.length = n ∧ (ownsOf p.1 0).length ≤ 1 then f as >>= fun q => lift (callEn p.2 p.1 q.2) >>= fun e => .ok (q.1, e) else .bad
def tV (C : Ct) (F : Sem' Rv) : TE := fun σ H Q => ∃ H0 en, SR C.K C.T H0 H σ en ∧ Post C (fun en' H0' H' v a => RvR C.K σ H en' H0' H' v a) H0 H σ en Q (F en)
def rvE (F : Sem' Rv) : Sem' PyData := fun en => F en >>= fun p => match p.1 with
  | .dat d => .ok (d, p.2)
  | .new ds => .ok (.list ds, p.2)
def rvN (F : Sem' Rv) : Sem' (List PyData) := fun en => F en >>= fun p => match p.1 with
  | .dat _ => .bad
  | .new ds => .ok (ds, p.2)
section
variable {C : Ct} {X : Cx} {H0 H H0' H' : Hp} {σ : L2.St} {en en1 : En} {a : Expr} {pos : Pos}
theorem argsOf_get : ∀ {os : List Op} {as : List Sl} {k : Nat} {y : Sl}, argsOf en os = .ok as → as[k]? = some y → ∃ o, os[k]? = some o ∧ argOf en o = .ok y
  | [], as, k, y, h, e => by
    have h : R.ok ([] : List Sl) = .ok as := h
    cases h
    simp at e
  | o :: os, as, k, y, h, e => by
    have h : (lift (argOf en o) >>= fun a => argsOf en os >>= fun as => R.ok (a :: as)) = .ok as := h
    cases h1 : argOf en o with
    | ok z =>
      rw [h1] at h
      have h : (argsOf en os >>= fun as => R.ok (z :: as)) = .ok as := h
      cases h2 : argsOf en os with
      | ok zs =>
        rw [h2] at h
        have h : R.ok (z :: zs) = .ok as := h
        cases h
        cases k with
        | zero =>
          have e : z = y := Option.some.inj e
          subst e
          exact ⟨o, rfl, h1⟩
        | succ k => exact argsOf_get (k := k) h2 (by simpa using e)
      | exc n => rw [h2] at h; cases h
      | bad => rw [h2] at h; cases h
    | exc n => rw [h1] at h; cases h
    | bad => rw [h1] at h; cases h
theorem argsOf_len : ∀ {os : List Op} {as : List Sl}, argsOf en os = .ok as → as.length = os.length
  | [], as, h => by
    have h : R.ok ([] : List Sl) = .ok as := h
    cases h
    rfl
  | o :: os, as, h => by
    have h : (lift (argOf en o) >>= fun a => argsOf en os >>= fun as => R.ok (a :: as)) = .ok as := h
    cases h1 : argOf en o with
    | ok z =>
      rw [h1] at h
      have h : (argsOf en os >>= fun as => R.ok (z :: as)) = .ok as := h
      cases h2 : argsOf en os with
      | ok zs =>
        rw [h2] at h
        have h : R.ok (z :: zs) = .ok as := h
        cases h
        rw [List.length_cons, List.length_cons, argsOf_len h2]
      | exc n => rw [h2] at h; cases h
      | bad => rw [h2] at h; cases h
    | exc n => rw [h1] at h; cases h
    | bad => rw [h1] at h; cases h
theorem opds_get : ∀ {vs : List V} {os : List Op} {k : Nat} {o : Op}, OpdsR C.K H0 σ vs os → os[k]? = some o → ∃ v, vs[k]? = some v ∧ OpdR C.K H0 σ v o
  | [], [], k, o, _, e => by simp at e
  | v :: vs, o' :: os, 0, o, h, e => by
    have e : o' = o := Option.some.inj e
    subst e
    exact ⟨v, rfl, h.1⟩
  | v :: vs, o' :: os, k + 1, o, h, e => by
    obtain ⟨w, h1, h2⟩ := opds_get (k := k) h.2 (by simpa using e)
    exact ⟨w, by simpa using h1, h2⟩
  | [], _ :: _, _, _, h, _ => h.elim
  | _ :: _, [], _, _, h, _ => h.elim
theorem opds_len : ∀ {vs : List V} {os : List Op}, OpdsR C.K H0 σ vs os → vs.length = os.length
  | [], [], _ => rfl
  | _ :: _, _ :: _, h => by rw [List.length_cons, List.length_cons, opds_len h.2]
  | [], _ :: _, h => h.elim
  | _ :: _, [], h => h.elim
theorem owns_mem : ∀ {os : List Op} {n k i : Nat}, os[k]? = some (.own i) → (n + k, i) ∈ ownsOf os n
  | [], n, k, i, h => by simp at h
  | o :: os, n, 0, i, h => by
    have h : o = .own i := Option.some.inj h
    subst h
    exact List.mem_cons_self
  | o :: os, n, k + 1, i, h => by
    have := owns_mem (os := os) (n := n + 1) (k := k) (i := i) (by simpa using h)
    have e : n + 1 + k = n + (k + 1) := by omega
    rw [e] at this
    cases o with
    | val d => exact this
    | own j => exact List.mem_cons_of_mem _ this
theorem owns_at : ∀ {os : List Op} {n k i : Nat}, (k, i) ∈ ownsOf os n → ∃ j, k = n + j ∧ os[j]? = some (.own i)
  | [], n, k, i, h => by cases h
  | .val d :: os, n, k, i, h => by
    obtain ⟨j, e, h⟩ := owns_at (os := os) h
    exact ⟨j + 1, by omega, by simpa using h⟩
  | .own j' :: os, n, k, i, h => by
    rcases List.mem_cons.mp h with e | h
    · cases e
      exact ⟨0, rfl, rfl⟩
    · obtain ⟨j, e, h⟩ := owns_at (os := os) h
      exact ⟨j + 1, by omega, by simpa using h⟩
theorem arg_own {o : Op} {io : Bool} {ds : List PyData} (h : argOf en o = .ok (.own io ds)) : io = true ∧ ∃ i jo, o = .own i ∧ en[i]? = some (.own jo ds) := by
  cases o with
  | val d => cases h
  | own i =>
    have h : (match en[i]? with
      | some (.own _ ds) => R.ok (Sl.own true ds)
      | _ => R.bad) = .ok (.own io ds) := h
    split at h
    · rename_i jo ds' he
      cases h
      exact ⟨rfl, i, jo, rfl, he⟩
    · cases h
theorem arg_dat {o : Op} {d : PyData} (h : argOf en o = .ok (.dat d)) : o = .val d := by
  cases o with
  | val d' => cases h; rfl
  | own i =>
    have h : (match en[i]? with
      | some (.own _ ds) => R.ok (Sl.own true ds)
      | _ => R.bad) = .ok (.dat d) := h
    split at h <;> cases h
/-- the arguments as slots -/
theorem args_sr {vs : List V} {os : List Op} {as : List Sl} (s : SR C.K C.T H0 H σ en) (h : OpdsR C.K H0 σ vs os) (e : argsOf en os = .ok as) (o1 : (ownsOf os 0).length ≤ 1) : SR C.K C.T H0 H (vs.map some) as where
  len := by rw [List.length_map, opds_len h, argsOf_len e]
  ex := s.ex
  tb := s.tb
  nt := s.nt
  dat := fun k d hk => by
    obtain ⟨o, h1, h2⟩ := argsOf_get e hk
    have := arg_dat h2
    subst this
    obtain ⟨v, h3, h4⟩ := opds_get h h1
    exact ⟨v, by rw [List.getElem?_map, h3]; rfl, h4⟩
  own := fun k io ds hk => by
    obtain ⟨o, h1, h2⟩ := argsOf_get e hk
    obtain ⟨_, i, jo, rfl, h5⟩ := arg_own h2
    obtain ⟨v, h3, h4⟩ := opds_get h h1
    obtain ⟨p, ws, f1, f2, f3, f4⟩ := s.own i jo ds h5
    have h4 : σ[i]? = some (some v) := h4
    rw [h4] at f1
    cases f1
    exact ⟨p, ws, by rw [List.getElem?_map, h3]; rfl, f2, f3, f4⟩
  sep := fun k l io ds jo es p n hk hl _ => by
    obtain ⟨o, h1, h2⟩ := argsOf_get e hk
    obtain ⟨_, i, _, rfl, _⟩ := arg_own h2
    obtain ⟨o', h1', h2'⟩ := argsOf_get e hl
    obtain ⟨_, i', _, rfl, _⟩ := arg_own h2'
    have m1 := owns_mem (n := 0) h1
    have m2 := owns_mem (n := 0) h1'
    exfalso
    cases q : ownsOf os 0 with
    | nil => rw [q] at m1; cases m1
    | cons z r =>
      rw [q] at m1 m2 o1
      have : r = [] := by
        cases r with
        | nil => rfl
        | cons _ _ => simp at o1
      subst this
      have a1 := List.mem_singleton.mp m1
      have a2 := List.mem_singleton.mp m2
      have a3 := a1.trans a2.symm
      simp at a3
      exact n a3.1
theorem args_own {vs : List V} {os : List Op} {as : List Sl} (h : OpdsR C.K H0 σ vs os) (e : argsOf en os = .ok as) {p : Addr} (o : OwnA (vs.map some) as p) : ∃ k i io ds, (k, i) ∈ ownsOf os 0 ∧ en[i]? = some (.own io ds) ∧ σ[i]? = some (some (.ref p)) := by
  obtain ⟨k, io, ds, h1, h2⟩ := o
  obtain ⟨o, g1, g2⟩ := argsOf_get e h1
  obtain ⟨_, i, jo, rfl, h5⟩ := arg_own g2
  obtain ⟨v, h3, h4⟩ := opds_get h g1
  rw [List.getElem?_map, h3] at h2
  have h2 : some v = some (V.ref p) := Option.some.inj h2
  cases h2
  have := owns_mem (n := 0) g1
  exact ⟨_, i, jo, ds, this, h5, h4⟩
/-- behind a call -/
theorem call_back {vs : List V} {os : List Op} {as as' : List Sl} {e2 : En} (s : SR C.K C.T H0 H σ en) (h : OpdsR C.K H0 σ vs os) (e : argsOf en os = .ok as) (ce : callEn en os as' = .ok e2)
    (t : Stp (vs.map some) as H0 H (vs.map some) as' H0' H') (sr : SR C.K C.T H0' H' (vs.map some) as') : Stp σ en H0 H σ e2 H0' H' ∧ SR C.K C.T H0' H' σ e2 ∧ ∀ q, OwnA σ e2 q → OwnA σ en q := by
  have own_in : ∀ p, OwnA (vs.map some) as p → OwnA σ en p := fun p o => by
    obtain ⟨k, i, io, ds, _, h1, h2⟩ := args_own h e o
    exact ⟨i, io, ds, h1, h2⟩
  unfold callEn at ce
  cases q : ownsOf os 0 with
  | nil =>
    rw [q] at ce
    have ce : R.ok en = .ok e2 := ce
    cases ce
    have none_own : ∀ p, OwnA (vs.map some) as p → False := fun p o => by
      obtain ⟨k, i, io, ds, m, _⟩ := args_own h e o
      rw [q] at m
      cases m
    have f : Fm (fun _ => False) H0 H H0' H' := t.fm.weak fun p o => none_own p o
    exact ⟨f.stp, s.grown f sr.good, fun _ h => h⟩
  | cons z r =>
    obtain ⟨k, i⟩ := z
    cases r with
    | cons _ _ => rw [q] at ce; cases ce
    | nil =>
      rw [q] at ce
      have ce : (match en[i]?, as'[k]? with
        | some (.own io _), some (.own _ ds) => R.ok (en.set i (.own io ds))
        | _, _ => R.bad) = .ok e2 := ce
      split at ce
      case h_2 => cases ce
      rename_i io ds0 jo ds' h1 h2
      cases ce
      obtain ⟨p, ws, f1, f2, f3, f4⟩ := s.own i io ds0 h1
      obtain ⟨p', ws', g1, g2, g3, g4⟩ := sr.own k jo ds' h2
      have hil : i < en.length := (List.getElem?_eq_some_iff.mp h1).1
      have hp : p' = p := by
        obtain ⟨j, ej, hj⟩ := owns_at (os := os) (n := 0) (k := k) (i := i) (by rw [q]; exact List.mem_singleton.mpr rfl)
        have ej : k = j := by omega
        subst ej
        obtain ⟨v, h3, h4⟩ := opds_get h hj
        have h4 : σ[i]? = some (some v) := h4
        rw [f1] at h4
        cases h4
        rw [List.getElem?_map, h3] at g1
        cases g1
        rfl
      subst hp
      have only : ∀ p2, OwnA (vs.map some) as p2 → p2 = p' := fun p2 o => by
        obtain ⟨k2, i2, io2, ds2, m, a1, a2⟩ := args_own h e o
        rw [q] at m
        have m := List.mem_singleton.mp m
        cases m
        rw [f1] at a2
        cases a2
        rfl
      have ati : ∀ {j : Nat} {y : Sl}, (en.set i (.own io ds'))[j]? = some y → (j = i ∧ y = .own io ds') ∨ (j ≠ i ∧ en[j]? = some y) := fun {j y} hj => by
        by_cases z : i = j
        · subst z
          rw [List.getElem?_set_self hil] at hj
          exact .inl ⟨rfl, (Option.some.inj hj).symm⟩
        · rw [List.getElem?_set_ne z] at hj
          exact .inr ⟨Ne.symm z, hj⟩
      have own_back : ∀ q, OwnA σ (en.set i (.own io ds')) q → OwnA σ en q := fun q ⟨j, jo2, es, a1, a2⟩ => by
        rcases ati a1 with ⟨e1, e2⟩ | ⟨_, c1⟩
        · subst e1; cases e2
          exact ⟨j, io, ds0, h1, a2⟩
        · exact ⟨j, jo2, es, c1, a2⟩
      refine ⟨⟨t.fm.weak own_in, fun p2 o => .inl (own_back p2 o), fun j es hj => ?_⟩, ⟨?_, sr.ex, sr.tb, sr.nt, fun j d hj => ?_, fun j jo2 es hj => ?_, fun j l jo2 es lo fs p2 n a1 a2 b1 => ?_⟩, own_back⟩
      · by_cases z : i = j
        · subst z
          rw [h1] at hj
          cases hj
          exact ⟨rfl, ds', List.getElem?_set_self hil⟩
        · exact ⟨rfl, es, by rw [List.getElem?_set_ne z]; exact hj⟩
      · rw [List.length_set]; exact s.len
      · rcases ati hj with ⟨_, e2⟩ | ⟨_, hj⟩
        · cases e2
        · obtain ⟨v, b1, b2⟩ := s.dat j d hj
          exact ⟨v, b1, b2.mono t.fm.ex⟩
      · rcases ati hj with ⟨e1, e2⟩ | ⟨n, hj⟩
        · subst e1; cases e2
          exact ⟨p', ws', f1, g2, g3, g4⟩
        · obtain ⟨p2, ws2, b1, b2, b3, b4⟩ := s.own j jo2 es hj
          have ne : ¬ OwnA (vs.map some) as p2 := fun o => by
            have := only p2 o
            subst this
            exact s.sep j i jo2 es io ds0 p2 n hj h1 b1 f1
          exact ⟨p2, ws2, b1, t.fm.fr p2 _ b2 ne (fun _ z => by cases z), t.fm.nw p2 (nw_lst b2) ne b3, b4.mono t.fm.ex⟩
      · rcases ati a1 with ⟨e1, e2⟩ | ⟨n1, c1⟩
        · subst e1; cases e2
          rcases ati a2 with ⟨e1, _⟩ | ⟨_, c2⟩
          · exact absurd e1.symm n
          · exact s.sep j l io ds0 lo fs p2 n h1 c2 b1
        · rcases ati a2 with ⟨e1, e2⟩ | ⟨_, c2⟩
          · subst e1; cases e2
            exact s.sep j l jo2 es io ds0 p2 n c1 h1 b1
          · exact s.sep j l jo2 es lo fs p2 n c1 c2 b1
variable {x : Str} {p : Pos} {es : List Expr} {k n : Nat} {f : Addr} {fd : FuncData} {ps : List Str} {g : Fn} {G : Sem' (List Op)}
theorem call_imp {σ : L2.St} {H : Hp} {Q : VK} (h : tV C (dCall n g G) σ H Q) : tCall (spD C.K C.T C.ca n g) [] C.E (tA C G) σ H Q := by
  obtain ⟨H0, en, s, p⟩ := h
  refine ⟨H0, en, s, post_bindA (rel2 := fun en' H0' H' v a => RvR C.K σ H en' H0' H' v a) (f := fun os e => lift (argsOf e os) >>= fun as => if as.length = n ∧ (ownsOf os 0).length ≤ 1 then g as >>= fun q => lift (callEn e os q.2) >>= fun e => .ok (q.1, e) else .bad) (Q2 := Q) p fun os en1 H01 H1 vs _ st sr rs p1 => ?_⟩
  have p1 : Post C (fun en' H0' H' v a => RvR C.K σ H en' H0' H' v a) H01 H1 σ en1 Q (lift (argsOf en1 os) >>= fun as => if as.length = n ∧ (ownsOf os 0).length ≤ 1 then g as >>= fun q => lift (callEn en1 os q.2) >>= fun e => .ok (q.1, e) else .bad) := p1
  rw [List.append_nil]
  cases e1 : argsOf en1 os with
  | exc n => rw [e1] at p1; exact p1.elim
  | bad => rw [e1] at p1; exact p1.elim
  | ok as =>
    rw [e1] at p1
    have p1 : Post C (fun en' H0' H' v a => RvR C.K σ H en' H0' H' v a) H01 H1 σ en1 Q (if as.length = n ∧ (ownsOf os 0).length ≤ 1 then g as >>= fun q => lift (callEn en1 os q.2) >>= fun e => .ok (q.1, e) else .bad) := p1
    split at p1
    case isFalse => exact p1.elim
    rename_i hn
    obtain ⟨hn, o1⟩ := hn
    refine ⟨by rw [opds_len rs, ← argsOf_len e1]; exact hn, H01, as, ?_⟩
    cases eg : g as with
    | bad => rw [eg] at p1; exact p1.elim
    | exc m =>
      rw [eg] at p1
      refine ⟨args_sr sr rs e1 o1, fun i ds h => ?_, Ct.err_at (C := C) p1 Fm.refl fun q o => .inl (by
          obtain ⟨k, i, io, ds, _, h1, h2⟩ := args_own rs e1 o
          exact ⟨i, io, ds, h1, h2⟩)⟩
      obtain ⟨o, g1, g2⟩ := argsOf_get e1 h
      exact absurd (arg_own g2).1 (by decide)
    | ok q =>
      obtain ⟨r, as'⟩ := q
      rw [eg] at p1
      have p1 : Post C (fun en' H0' H' v a => RvR C.K σ H en' H0' H' v a) H01 H1 σ en1 Q (lift (callEn en1 os as') >>= fun e => .ok (r, e)) := p1
      cases ec : callEn en1 os as' with
      | exc n => rw [ec] at p1; exact p1.elim
      | bad => rw [ec] at p1; exact p1.elim
      | ok e2 =>
        rw [ec] at p1
        refine ⟨args_sr sr rs e1 o1, fun i ds h => ?_, fun H0' H' v t s2 rr => ?_⟩
        · obtain ⟨o, g1, g2⟩ := argsOf_get e1 h
          exact absurd (arg_own g2).1 (by decide)
        · obtain ⟨t1, t2, t3⟩ := call_back sr rs e1 ec t s2
          refine p1 H0' H' v t1 t2 ?_
          cases r with
          | dat d => exact rr
          | new ds =>
            obtain ⟨q, ws, a1, a2, a3, a4, a5, a6⟩ := rr
            have hq : Nw H q := st.fm.kp q a2
            refine ⟨q, ws, a1, hq, a3, a4, a5, fun o => ?_⟩
            obtain ⟨i, io, es, h1, h2⟩ := t3 q o
            obtain ⟨q', ws', f1, f2, _⟩ := sr.own i io es h1
            rw [h2] at f1
            cases f1
            exact nw_lst f2 a2
/-- f(e, ..), f a def of the text -/
theorem dv_call {fa : Addr} (F : FnOk X.prog X.w X.K X.mg X.base (L2.CX X.prog X.w) k fa fd ps (spD C.K C.T C.ca n g)) (hr : Room k X.A) (hg : Gl X x) (hm : X.mg x = some (.ref fa)) (hk : PySem.W.keepIn X.K (.ref fa) = true) (hb : Binds X.K fd ps []) (hx : Passes (L2.CX X.prog X.w) X C.E)
    (ha : PA X (a :: es) (tA C G)) (hdb : (x == ("__debug__" : Str)) = false := by decide) (he : starEach (a :: es) X.env = (false, eval a X.env) :: starEach es X.env := by rfl) (hpl : (backTo pos (starEach es X.env)).any (·.1) = false := by rfl) :
    PE X (.Call (.Name x p) (a :: es) [] pos) (tV C (dCall n g G)) := (pe_call F hr hg hm hk hb .nil hx ha hdb he hpl).imp fun σ H Q h => call_imp h
theorem dv_call0 {fa : Addr} (F : FnOk X.prog X.w X.K X.mg X.base (L2.CX X.prog X.w) k fa fd ps (spD C.K C.T C.ca 0 g)) (hr : Room k X.A) (hg : Gl X x) (hm : X.mg x = some (.ref fa)) (hk : PySem.W.keepIn X.K (.ref fa) = true) (hb : Binds X.K fd ps []) (hx : Passes (L2.CX X.prog X.w) X C.E)
    (hdb : (x == ("__debug__" : Str)) = false := by decide) : PE X (.Call (.Name x p) [] [] pos) (tV C (dCall 0 g aNil)) := (pe_call0 F hr hg hm hk hb .nil hx hdb).imp fun σ H Q h => by
  obtain ⟨H0, en, s, p⟩ := call_imp h
  exact p H0 H [] Stp.refl s trivial
theorem dn_ofV {F : Sem' Rv} (h : PE X a (tV C F)) : PE X a (tN C (rvN F)) := h.imp fun σ H Q ⟨H0, en, s, p⟩ => ⟨H0, en, s, by
  unfold rvN at p
  cases e : F en with
  | exc n => rw [e] at p; exact p
  | bad => rw [e] at p; exact p
  | ok q =>
    obtain ⟨r, e1⟩ := q
    rw [e] at p
    cases r with
    | dat d => exact p.elim
    | new ds => exact fun H0' H' v st sr r => p H0' H' v st sr r⟩
theorem de_ofV {F : Sem' Rv} (h : PE X a (tV C F)) : PE X a (tE C (rvE F)) := h.imp fun σ H Q ⟨H0, en, s, p⟩ => ⟨H0, en, s, by
  unfold rvE at p
  cases e : F en with
  | exc n => rw [e] at p; exact p
  | bad => rw [e] at p; exact p.elim
  | ok q =>
    obtain ⟨r, en'⟩ := q
    rw [e] at p
    cases r with
    | dat d => exact fun H0' H' v st sr r => p H0' H' v st sr r
    | new ds =>
      intro H0' H' v st sr ⟨q, vs, ev, hn, hq, h0, r, no⟩
      subst ev
      refine p (upd H0' q (.lst vs)) H' (.ref q) ⟨Fm.frz hn hq st.fm h0, st.ow, st.io⟩ ?_ (.lst (Rd.of upd_same) (r.mono (Ex.new h0)))
      refine ⟨sr.len, (sr.good.frz hq h0 fun _ z => by cases z).ex, sr.tb, (sr.good.frz hq h0 fun _ z => by cases z).nt, fun i d hi => ?_, fun i io es hi => ?_, sr.sep⟩
      · obtain ⟨v, e1, r1⟩ := sr.dat i d hi
        exact ⟨v, e1, r1.mono (Ex.new h0)⟩
      · obtain ⟨p', ws, e1, e2, e3, r1⟩ := sr.own i io es hi
        have ne : p' ≠ q := fun z => no ⟨i, io, es, hi, by rw [← z]; exact e1⟩
        exact ⟨p', ws, e1, e2, by rw [upd_ne ne]; exact e3, r1.mono (Ex.new h0)⟩⟩
end
end PD
end
section
namespace PD
open PySem PySem.Spec PyProof.Rows L2 Evl

/-! ### lists that one slot holds, changed -/
def ownAt (en : En) (i : Nat) : R (Bool × List PyData) := match en[i]? with
  | some (.own io ds) => .ok (io, ds)
  | _ => .bad
def sAug (i : Nat) (op : PyData → PyData → R PyData) (F : Sem' PyData) : SemS := fun en => match en[i]? with
  | some (.dat x) => ofR (F en) fun p => ofR (lift (op x p.1)) fun d => ofR (lift (tgN i d p.2)) fun e => .next e
  | _ => .bad
def ixR (n : Nat) (i : PyData) : R Nat := match i with
  | .int k => R.get (ixN n k)
  | _ => .bad
/-- x[i] = e -/
def sSetIx (s : Nat) (I F : Sem' PyData) : SemS := fun en => ofR (F en) fun p => ofR (ownAt p.2 s) fun _ => ofR (I p.2) fun q => ofR (ownAt q.2 s) fun o => ofR (ixR o.2.length q.1) fun j => .next (q.2.set s (.own o.1 (o.2.set j p.1)))
/-- x[i] op= e -/
def sAugIx (s : Nat) (op : PyData → PyData → R PyData) (I F : Sem' PyData) : SemS := fun en => ofR (ownAt en s) fun _ => ofR (I en) fun p => ofR (ownAt p.2 s) fun o => ofR (ixR o.2.length p.1) fun j => ofR (R.get o.2[j]?) fun x => ofR (F p.2) fun q => ofR (lift (op x q.1)) fun d =>
  ofR (ownAt q.2 s) fun o2 => ofR (ixR o2.2.length p.1) fun j2 => .next (q.2.set s (.own o2.1 (o2.2.set j2 d)))
def sApp (s : Nat) (F : Sem' PyData) : SemS := fun en => ofR (F en) fun p => ofR (ownAt p.2 s) fun o => if o.2.length < 100000 then .next (p.2.set s (.own o.1 (o.2 ++ [p.1]))) else .bad
def dPopAt (s : Nat) (F : Sem' PyData) : Sem' PyData := fun en => F en >>= fun p => ownAt p.2 s >>= fun o => match p.1 with
  | .int k => if -(2 ^ 62) ≤ k ∧ k < 2 ^ 62 then R.get (ixN o.2.length k) >>= fun j => R.get o.2[j]? >>= fun x => .ok (x, p.2.set s (.own o.1 (o.2.eraseIdx j))) else .bad
  | _ => .bad
def dPop (s : Nat) (F : Sem' PyData) : Sem' PyData := fun en => ownAt en s >>= fun _ => dPopAt s F en
def sAppend (s : Nat) (F : Sem' PyData) : SemS := fun en => ofR (ownAt en s) fun _ => sApp s F en
/-- reading a list that a slot holds, from then on data -/
def dVarF (i : Nat) : Sem' PyData := fun en => match en[i]? with
  | some (.own false ds) => .ok (.list ds, en.set i (.dat (.list ds)))
  | some (.dat d) => .ok (d, en)
  | _ => .bad
section
variable {C : Ct} {X : Cx} {H0 H H0' H' H01 H1 : Hp} {σ σ' : L2.St} {en en' en1 e : En} {a b c tg : Expr} {pos : Pos} {D : Ends}
theorem set_at {i : Nat} {y z : Sl} {j : Nat} (hl : i < en.length) (h : (en.set i y)[j]? = some z) : (j = i ∧ z = y) ∨ (j ≠ i ∧ en[j]? = some z) := by
  by_cases e : i = j
  · subst e
    rw [List.getElem?_set_self hl] at h
    exact .inl ⟨rfl, (Option.some.inj h).symm⟩
  · rw [List.getElem?_set_ne e] at h
    exact .inr ⟨Ne.symm e, h⟩
theorem mut_sr {i : Nat} {io : Bool} {ds ds' : List PyData} {p : Addr} {ws ws' : List V} (s : SR C.K C.T H0 H σ en) (h : en[i]? = some (.own io ds)) (hσ : σ[i]? = some (some (.ref p))) (hp : H p = some (.lst ws)) (r : RpAll C.K H0 ws' ds') :
    SR C.K C.T H0 (upd H p (.lst ws')) σ (en.set i (.own io ds')) ∧ Stp σ en H0 H σ (en.set i (.own io ds')) H0 (upd H p (.lst ws')) := by
  have hl : i < en.length := (List.getElem?_eq_some_iff.mp h).1
  obtain ⟨p', _, f1, f2, f3, _⟩ := s.own i io ds h
  rw [hσ] at f1
  cases f1
  have back : ∀ q, OwnA σ (en.set i (.own io ds')) q → OwnA σ en q := fun q ⟨j, jo, es, a1, a2⟩ => by
    rcases set_at hl a1 with ⟨e1, e2⟩ | ⟨_, c1⟩
    · subst e1; cases e2
      exact ⟨j, io, ds, h, a2⟩
    · exact ⟨j, jo, es, c1, a2⟩
  refine ⟨⟨by rw [List.length_set]; exact s.len, fun q u hq => by rw [upd_ne (ne_of_none hq f3)]; exact s.ex q u hq, tabs_upd s.tb (.inr ⟨_, hp⟩), s.nt, fun j d hj => ?_, fun j jo es hj => ?_, fun j l jo es lo fs q n a1 a2 b1 => ?_⟩, ⟨Fm.mut hp ⟨i, io, ds, h, hσ⟩, fun q o => .inl (back q o), fun j es hj => ?_⟩⟩
  · rcases set_at hl hj with ⟨_, e2⟩ | ⟨_, c1⟩
    · cases e2
    · exact s.dat j d c1
  · rcases set_at hl hj with ⟨e1, e2⟩ | ⟨n, c1⟩
    · subst e1; cases e2
      exact ⟨p, ws', hσ, upd_same, f3, r⟩
    · obtain ⟨q, vs, g1, g2, g3, g4⟩ := s.own j jo es c1
      have ne : q ≠ p := fun z => by
        subst z
        exact s.sep j i jo es io ds q n c1 h g1 hσ
      exact ⟨q, vs, g1, by rw [upd_ne ne]; exact g2, g3, g4⟩
  · rcases set_at hl a1 with ⟨e1, e2⟩ | ⟨_, c1⟩
    · subst e1; cases e2
      rcases set_at hl a2 with ⟨e1, _⟩ | ⟨_, c2⟩
      · exact absurd e1.symm n
      · exact s.sep j l io ds lo fs q n h c2 b1
    · rcases set_at hl a2 with ⟨e1, e2⟩ | ⟨_, c2⟩
      · subst e1; cases e2
        exact s.sep j l jo es io ds q n c1 h b1
      · exact s.sep j l jo es lo fs q n c1 c2 b1
  · by_cases z : i = j
    · subst z
      rw [h] at hj
      cases hj
      exact ⟨rfl, ds', List.getElem?_set_self hl⟩
    · exact ⟨rfl, es, by rw [List.getElem?_set_ne z]; exact hj⟩
theorem ownAt_ok {i : Nat} {o : Bool × List PyData} (h : ownAt en i = .ok o) : en[i]? = some (.own o.1 o.2) := by
  unfold ownAt at h
  split at h
  · rename_i he
    cases h
    exact he
  · cases h
theorem frz_sr {i : Nat} {ds : List PyData} {p : Addr} {ws : List V} (s : SR C.K C.T H0 H σ en) (h : en[i]? = some (.own false ds)) (hσ : σ[i]? = some (some (.ref p))) (hp : H p = some (.lst ws)) (h0 : H0 p = none) (r : RpAll C.K H0 ws ds) :
    SR C.K C.T (upd H0 p (.lst ws)) H σ (en.set i (.dat (.list ds))) ∧ Stp σ en H0 H σ (en.set i (.dat (.list ds))) (upd H0 p (.lst ws)) H := by
  have hl : i < en.length := (List.getElem?_eq_some_iff.mp h).1
  have x : Ex H0 (upd H0 p (.lst ws)) := Ex.new h0
  have g := s.good.frz hp h0 fun _ z => by cases z
  have rp : Rp C.K (upd H0 p (.lst ws)) (.ref p) (.list ds) := .lst (Rd.of upd_same) (r.mono x)
  refine ⟨⟨by rw [List.length_set]; exact s.len, g.ex, s.tb, g.nt, fun j d hj => ?_, fun j jo es hj => ?_, fun j l jo es lo fs q n a1 a2 b1 => ?_⟩, ⟨⟨x, fun _ _ h _ _ => h, fun _ h => h, fun q hq n e => ?_⟩, fun q ⟨j, jo, es, a1, a2⟩ => ?_, fun j es hj => ?_⟩⟩
  · rcases set_at hl hj with ⟨e1, e2⟩ | ⟨_, c1⟩
    · subst e1; cases e2
      exact ⟨_, hσ, rp⟩
    · obtain ⟨v, e1, r1⟩ := s.dat j d c1
      exact ⟨v, e1, r1.mono x⟩
  · rcases set_at hl hj with ⟨_, e2⟩ | ⟨n, c1⟩
    · cases e2
    · obtain ⟨q, vs, g1, g2, g3, g4⟩ := s.own j jo es c1
      have ne : q ≠ p := fun z => by
        subst z
        exact s.sep j i jo es false ds q n c1 h g1 hσ
      exact ⟨q, vs, g1, g2, by rw [upd_ne ne]; exact g3, g4.mono x⟩
  · rcases set_at hl a1 with ⟨_, e2⟩ | ⟨_, c1⟩
    · cases e2
    · rcases set_at hl a2 with ⟨_, e2⟩ | ⟨_, c2⟩
      · cases e2
      · exact s.sep j l jo es lo fs q n c1 c2 b1
  · have ne : q ≠ p := fun z => n (by subst z; exact ⟨i, false, ds, h, hσ⟩)
    rw [upd_ne ne]; exact e
  · rcases set_at hl a1 with ⟨_, e2⟩ | ⟨_, c1⟩
    · cases e2
    · exact .inl ⟨j, jo, es, c1, a2⟩
  · have z : i ≠ j := fun z => by subst z; rw [h] at hj; cases hj
    exact ⟨rfl, es, by rw [List.getElem?_set_ne z]; exact hj⟩
theorem de_varF {i : Nat} (h : PE X a (tVar i)) : PE X a (tE C (dVarF i)) := h.imp fun σ H Q ⟨H0, en, s, p⟩ => by
  unfold dVarF at p
  split at p
  · rename_i ds hi
    obtain ⟨q, ws, e1, e2, e3, r⟩ := s.own i false ds hi
    obtain ⟨s1, t1⟩ := frz_sr s hi e1 e2 e3 r
    exact ⟨_, e1, p _ H _ t1 s1 (.lst (Rd.of upd_same) (r.mono (Ex.new e3)))⟩
  · rename_i d hi
    obtain ⟨v, e1, r⟩ := s.dat i d hi
    exact ⟨v, e1, p H0 H v Stp.refl s r⟩
  · exact p.elim
/-- an operand that is read at the end: data or a held list -/
def oAny (i : Nat) : Sem' Op := fun en => match en[i]? with
  | some (.own _ _) => .ok (.own i, en)
  | some (.dat d) => .ok (.val d, en)
  | _ => .bad
theorem do_any {i : Nat} (h : PE X a (tVar i)) : PE X a (tO C (oAny i)) := h.imp fun σ H Q ⟨H0, en, s, p⟩ => by
  unfold oAny at p
  split at p
  · rename_i io d hi
    obtain ⟨v, vs, e, r⟩ := s.own i io d hi
    exact ⟨.ref v, e, p H0 H (.ref v) Stp.refl s e⟩
  · rename_i d hi
    obtain ⟨v, e1, r⟩ := s.dat i d hi
    exact ⟨v, e1, p H0 H v Stp.refl s r⟩
  · exact p.elim
theorem frz_tn {F : Sem' (List PyData)} (σ : L2.St) (H : Hp) (Q : VK) (h : tE C (dFrz F) σ H Q) : tN C F σ H Q := by
  obtain ⟨H0, en, s, p⟩ := h
  refine ⟨H0, en, s, ?_⟩
  unfold dFrz at p
  cases e : F en with
  | exc n => rw [e] at p; exact p
  | bad => rw [e] at p; exact p
  | ok q =>
    rw [e] at p
    obtain ⟨ds, en'⟩ := q
    intro H0' H' v st sr ⟨q, vs, ev, hn, hq, h0, r, no⟩
    subst ev
    refine p (upd H0' q (.lst vs)) H' (.ref q) ⟨Fm.frz hn hq st.fm h0, st.ow, st.io⟩ ?_ (.lst (Rd.of upd_same) (r.mono (Ex.new h0)))
    refine ⟨sr.len, (sr.good.frz hq h0 fun _ z => by cases z).ex, sr.tb, (sr.good.frz hq h0 fun _ z => by cases z).nt, fun i d hi => ?_, fun i io es hi => ?_, sr.sep⟩
    · obtain ⟨v, e1, r1⟩ := sr.dat i d hi
      exact ⟨v, e1, r1.mono (Ex.new h0)⟩
    · obtain ⟨p', ws, e1, e2, e3, r1⟩ := sr.own i io es hi
      have ne : p' ≠ q := fun z => no ⟨i, io, es, hi, by rw [← z]; exact e1⟩
      exact ⟨p', ws, e1, e2, by rw [upd_ne ne]; exact e3, r1.mono (Ex.new h0)⟩
theorem tN_mono {F : Sem' (List PyData)} {t : TE} (hi : ∀ σ H Q, tN C F σ H Q → t σ H Q) {g : TG} (σ : L2.St) (H : Hp) (h : tAsg (tN C F) g D σ H) : tAsg t g D σ H := hi σ H _ h

/-! ### name = [.. for ..] -/
section
variable {elt iter : Expr} {ifs : List Expr} {scope : Scope} {own : List (Str × Nat)} {i : Nat} {y : Str} {py spos : Pos} {it : Sem' Its'} {js : List Nat} {g : PyData → En → R En} {tst : Sem' Bool} {el : Sem' PyData}
theorem ps_lcD (hc : X.calm = true) (hN : X.N.Nodup) (hy : X.N[i]? = some y) (hyl : X.env.scope.names.lookup y = some .local)
    (hsw : swapsWith (.ListComp elt [⟨tg, iter, ifs, 0⟩] scope pos) (some (.Name y py)) spos.line X.env = pure true) (hi : PI X tg iter (tI C it)) (ok : BlkOk X.N X.env.scope scope own)
    (hg : ∀ (s : Shared) (H : Hp) (a : Addr) (cl : List (Str × Addr)) (fp : List Addr), PG (X.blk s H scope (compEnvC scope cl a X.env) fp) tg (gD C.non js g)) (ht : ∀ (s : Shared) (H : Hp) (a : Addr) (cl : List (Str × Addr)) (fp : List Addr), PTs (X.blk s H scope (compEnvC scope cl a X.env) fp) ifs (tT C.non tst))
    (he : ∀ (s : Shared) (H : Hp) (a : Addr) (cl : List (Str × Addr)) (fp : List Addr), PE (X.blk s H scope (compEnvC scope cl a X.env) fp) elt (tE C.non el)) (hj : ∀ j ∈ js, j ∈ own.map (·.2)) (hs : ∀ x, foldedSetIterable iter X.env x = pure x := by intro _; rfl) :
    PS X (.Assign [.Name y py] (.ListComp elt [⟨tg, iter, ifs, 0⟩] scope pos) spos) (tAsg (tN C (dLc it (own.map (·.2)) g tst el)) (gName i)) :=
  (ps_setLc hc hN hy hyl hsw hi ok hg ht he hs).imp fun D σ H h => tN_mono (lc_tn hj) σ H h
theorem ds_setLc (hc : X.calm = true) (hN : X.N.Nodup) (hy : X.N[i]? = some y) (hyl : X.env.scope.names.lookup y = some .local)
    (hsw : swapsWith (.ListComp elt [⟨tg, iter, ifs, 0⟩] scope pos) (some (.Name y py)) spos.line X.env = pure true) (hi : PI X tg iter (tI C it)) (ok : BlkOk X.N X.env.scope scope own)
    (hg : ∀ (s : Shared) (H : Hp) (a : Addr) (cl : List (Str × Addr)) (fp : List Addr), PG (X.blk s H scope (compEnvC scope cl a X.env) fp) tg (gD C.non js g)) (ht : ∀ (s : Shared) (H : Hp) (a : Addr) (cl : List (Str × Addr)) (fp : List Addr), PTs (X.blk s H scope (compEnvC scope cl a X.env) fp) ifs (tT C.non tst))
    (he : ∀ (s : Shared) (H : Hp) (a : Addr) (cl : List (Str × Addr)) (fp : List Addr), PE (X.blk s H scope (compEnvC scope cl a X.env) fp) elt (tE C.non el)) (hj : ∀ j ∈ js, j ∈ own.map (·.2)) (hs : ∀ x, foldedSetIterable iter X.env x = pure x := by intro _; rfl) :
    PS X (.Assign [.Name y py] (.ListComp elt [⟨tg, iter, ifs, 0⟩] scope pos) spos) (tS C (sAsg (dFrz (dLc it (own.map (·.2)) g tst el)) (tgN i))) :=
  (ps_lcD hc hN hy hyl hsw hi ok hg ht he hj hs).imp fun D σ H ⟨H0, en, s, p⟩ => frz_tn σ H _ (setN_go s p)
theorem ds_ownLc (hc : X.calm = true) (hN : X.N.Nodup) (hy : X.N[i]? = some y) (hyl : X.env.scope.names.lookup y = some .local)
    (hsw : swapsWith (.ListComp elt [⟨tg, iter, ifs, 0⟩] scope pos) (some (.Name y py)) spos.line X.env = pure true) (hi : PI X tg iter (tI C it)) (ok : BlkOk X.N X.env.scope scope own)
    (hg : ∀ (s : Shared) (H : Hp) (a : Addr) (cl : List (Str × Addr)) (fp : List Addr), PG (X.blk s H scope (compEnvC scope cl a X.env) fp) tg (gD C.non js g)) (ht : ∀ (s : Shared) (H : Hp) (a : Addr) (cl : List (Str × Addr)) (fp : List Addr), PTs (X.blk s H scope (compEnvC scope cl a X.env) fp) ifs (tT C.non tst))
    (he : ∀ (s : Shared) (H : Hp) (a : Addr) (cl : List (Str × Addr)) (fp : List Addr), PE (X.blk s H scope (compEnvC scope cl a X.env) fp) elt (tE C.non el)) (hj : ∀ j ∈ js, j ∈ own.map (·.2)) (hs : ∀ x, foldedSetIterable iter X.env x = pure x := by intro _; rfl) :
    PS X (.Assign [.Name y py] (.ListComp elt [⟨tg, iter, ifs, 0⟩] scope pos) spos) (tS C (sOwn (dLc it (own.map (·.2)) g tst el) i)) :=
  (ps_lcD hc hN hy hyl hsw hi ok hg ht he hj hs).imp fun D σ H ⟨H0, en, s, p⟩ => own_go s p
end

/-! ### stores -/
theorem postS_ofR {α : Type} {x : R α} {f : α → RS} (h : PostS C H0 H σ en D (ofR x f)) (hx : ∀ n, x ≠ .exc n) : ∃ a, x = .ok a ∧ PostS C H0 H σ en D (f a) := by
  cases x with
  | ok a => exact ⟨a, rfl, h⟩
  | exc n => exact absurd rfl (hx n)
  | bad => exact h.elim
theorem ownAt_nx {i : Nat} : ∀ n, ownAt en i ≠ .exc n := fun n h => by
  unfold ownAt at h
  split at h <;> cases h
theorem get_nx {α : Type} {o : Option α} : ∀ n, R.get o ≠ .exc n := fun n h => by cases o <;> cases h
theorem ixR_nx {m : Nat} {d : PyData} : ∀ n, ixR m d ≠ .exc n := fun n h => by
  unfold ixR at h
  split at h
  · exact get_nx n h
  · cases h
theorem lift_nx {α : Type} {x : R α} : ∀ n, lift x ≠ .exc n := fun n h => by cases x <;> cases h
theorem get_ok {α : Type} {o : Option α} {a : α} (h : R.get o = .ok a) : o = some a := by
  cases o with
  | none => cases h
  | some b => cases h; rfl
theorem ixR_ok {m j : Nat} {d : PyData} (h : ixR m d = .ok j) : ∃ k, d = .int k ∧ ixN m k = some j := by
  unfold ixR at h
  split at h
  · rename_i k
    exact ⟨k, rfl, get_ok h⟩
  · cases h
theorem ds_aug {F : Sem' PyData} {i : Nat} {x : Str} {op : Operator} {ti : TIp} {f : PyData → PyData → R PyData} {pos' : Pos} (hN : X.N.Nodup) (hi : X.N[i]? = some x) (hx : Loc X.env.scope x) (he : PE X a (tE C F)) (ho : PIp X op ti) (hr : Rule2 C ti f)
    (hf : X.fn x = true ∨ X.env.scope.names.lookup x = some .local := by first | exact .inl rfl | exact .inr rfl | assumption) : PS X (.AugAssign (.Name x pos') op a pos) (tS C (sAug i f F)) :=
  (ps_aug hN hi hx he ho hf).imp fun D σ H ⟨H0, en, s, p⟩ => by
    unfold sAug at p
    split at p
    · rename_i dx hx
      obtain ⟨v, e1, r⟩ := s.dat i dx hx
      refine ⟨v, e1, H0, en, s, postS_bind (f := fun d e => ofR (lift (f dx d)) fun d => ofR (lift (tgN i d e)) fun e => .next e) (D := D) p fun d en1 H01 H1 w _ st sr r2 p1 => ?_⟩
      obtain ⟨z, ez, p2⟩ := postS_ofR p1 lift_nx
      refine hr H01 H1 v w dx d z _ sr.good (.inl (r.mono st.fm.ex)) (.inl r2) (lift_eq ez) fun H0' H' u fm g ru => ?_
      obtain ⟨e2, ee, p3⟩ := postS_ofR p2 lift_nx
      have ee := lift_eq ee
      unfold tgN at ee
      split at ee
      · cases ee
      · rename_i hio
        cases ee
        have s2 := sr.grown fm g
        exact p3 H0' H' _ (fm.stp.trans (set_stp (by simpa using hio))) (set_sr s2 ru)
    · exact p.elim
theorem ds_setIx {I F : Sem' PyData} {s : Nat} {tpos : Pos} (ho : PE X a (tVar s)) (hi : PE X b (tE C I)) (he : PE X c (tE C F)) (hs : swapsWithSole [.Subscript a b tpos] c pos.line X.env = pure false := by rfl) (hw : swappedStores [.Subscript a b tpos] c X.env = pure none := by rfl)
    (h1 : (assignEach [.Subscript a b tpos] X.env).map (·.2) = [assign (.Subscript a b tpos) X.env] := by rfl)
    (ha : ∀ v, assign (.Subscript a b tpos) X.env v = (do
      let ov ← holding [v] (eval a X.env)
      let iv ← holding [v, ov] (eval b X.env)
      standAt tpos
      holding [v, ov, iv] (setItem ov iv v)
      release [v, ov, iv] []) := by intro _; rfl) : PS X (.Assign [.Subscript a b tpos] c pos) (tS C (sSetIx s I F)) :=
  (ps_asg he (pg_sub ho hi set_list ha) hs hw h1).imp fun D σ H ⟨H0, en, sr, p⟩ => ⟨H0, en, sr, postS_bind (f := fun d e => ofR (ownAt e s) fun _ => ofR (I e) fun q => ofR (ownAt q.2 s) fun o => ofR (ixR o.2.length q.1) fun j => .next (q.2.set s (.own o.1 (o.2.set j d)))) (D := D) p fun d en1 H01 H1 v _ st s1 r p1 => by
    obtain ⟨o0, e0, p1⟩ := postS_ofR p1 ownAt_nx
    obtain ⟨q, ws, f1, f2, f3, f4⟩ := s1.own s _ _ (ownAt_ok e0)
    refine ⟨_, f1, H01, en1, s1, postS_bind (f := fun i e => ofR (ownAt e s) fun o => ofR (ixR o.2.length i) fun j => .next (e.set s (.own o.1 (o.2.set j d)))) (D := D) p1 fun i en2 H02 H2 w _ st2 s2 r2 p2 => ?_⟩
    obtain ⟨o, e1, p3⟩ := postS_ofR p2 ownAt_nx
    obtain ⟨j, e2, p4⟩ := postS_ofR p3 ixR_nx
    obtain ⟨k, rfl, e3⟩ := ixR_ok e2
    cases r2
    obtain ⟨q', ws', g1, g2, g3, g4⟩ := s2.own s _ _ (ownAt_ok e1)
    rw [f1] at g1
    cases g1
    obtain ⟨m1, m2⟩ := mut_sr s2 (ownAt_ok e1) f1 g2 (RpAll.set (r.mono st2.fm.ex) j g4)
    exact ⟨q, ws', k, j, rfl, rfl, g2, by rw [g4.length]; exact e3, p4 _ _ σ m2 m1⟩⟩
/-- o[i] read, in o[i] op= e -/
theorem pget_list : PGet X (rIxL X.K) := by
  intro pins s σ H o i ov iv Q I r1 r2 h
  obtain ⟨p, xs, k, v, rfl, rfl, hs, hv, q⟩ := h
  cases r1
  obtain ⟨t, rfl⟩ := r2
  obtain ⟨its, rv, pl, hz⟩ := I.list hs
  obtain ⟨j, h1, h2, h3, h4, h5⟩ := atI_get hv
  obtain ⟨w, ew, rw'⟩ := rv.get h2
  have hl := rv.length
  have hn := line63
  have fin : EP X pins σ Q w s := ⟨v, H, I, rw', q⟩
  by_cases h0 : 0 ≤ k
  · have hj : k.toNat = j := by
      rw [seqIndex_of h0 h5] at h1
      exact Option.some.inj h1
    exact wpAny_getItem_list pl.isList h0 (by omega) (by rw [hj]; simpa using ew) fin
  · have hj : (k + (its.toArray.size : Int)).toNat = j := by
      rw [seqIndex_neg (by omega) h4] at h1
      rw [List.size_toArray, ← hl]
      exact Option.some.inj h1
    exact wpAny_getItem_list_neg pl.isList (by omega) (by rw [List.size_toArray] <;> omega) (by omega) (by rw [hj]; simpa using ew) fin
theorem ds_augIx {I F : Sem' PyData} {s : Nat} {op : Operator} {ti : TIp} {f : PyData → PyData → R PyData} {tpos : Pos} (hK : C.K = X.K) (ho : PE X a (tVar s)) (hi : PE X b (tE C I)) (he : PE X c (tE C F)) (hp : PIp X op ti) (hr : Rule2 C ti f)
    (ha : ∀ ov iv new, augStore b ov iv new = (do holding [new, ov, iv] (setItem ov iv new); release [new, ov, iv] []; pure .next) := by intros; rfl) : PS X (.AugAssign (.Subscript a b tpos) op c pos) (tS C (sAugIx s f I F)) :=
  (ps_augS ho hi pget_list he hp set_list ha).imp fun D σ H ⟨H0, en, sr, p⟩ => by
    obtain ⟨o0, e0, p⟩ := postS_ofR p ownAt_nx
    obtain ⟨q, ws, f1, f2, f3, f4⟩ := sr.own s _ _ (ownAt_ok e0)
    refine ⟨_, f1, H0, en, sr, postS_bind (f := fun i e => ofR (ownAt e s) fun o => ofR (ixR o.2.length i) fun j => ofR (R.get o.2[j]?) fun x => ofR (F e) fun q => ofR (lift (f x q.1)) fun d =>
      ofR (ownAt q.2 s) fun o2 => ofR (ixR o2.2.length i) fun j2 => .next (q.2.set s (.own o2.1 (o2.2.set j2 d)))) (D := D) p fun i en1 H01 H1 w _ st s1 r1 p1 => ?_⟩
    obtain ⟨o, e1, p1⟩ := postS_ofR p1 ownAt_nx
    obtain ⟨j, e2, p1⟩ := postS_ofR p1 ixR_nx
    obtain ⟨x, e3, p1⟩ := postS_ofR p1 get_nx
    have e3 := get_ok e3
    obtain ⟨k, rfl, e4⟩ := ixR_ok e2
    cases r1
    obtain ⟨q1, ws1, g1, g2, g3, g4⟩ := s1.own s _ _ (ownAt_ok e1)
    rw [f1] at g1
    cases g1
    obtain ⟨v, hv, rx⟩ := g4.get e3
    refine ⟨q, ws1, k, v, rfl, rfl, by rw [← hK]; exact SqL.of g2, ?_, H01, en1, s1, postS_bind (f := fun d e => ofR (lift (f x d)) fun d =>
      ofR (ownAt e s) fun o2 => ofR (ixR o2.2.length (.int k)) fun j2 => .next (e.set s (.own o2.1 (o2.2.set j2 d)))) (D := D) p1 fun d en2 H02 H2 y _ st2 s2 r2 p2 => ?_⟩
    · unfold atI
      rw [g4.length, e4]
      exact hv
    obtain ⟨z, ez, p2⟩ := postS_ofR p2 lift_nx
    refine hr H02 H2 v y x d z _ s2.good (.inl (rx.mono st2.fm.ex)) (.inl r2) (lift_eq ez) fun H03 H3 u fm g ru => ?_
    have s3 := s2.grown fm g
    obtain ⟨o2, e5, p2⟩ := postS_ofR p2 ownAt_nx
    obtain ⟨j2, e6, p2⟩ := postS_ofR p2 ixR_nx
    obtain ⟨k2, ek, e7⟩ := ixR_ok e6
    cases ek
    obtain ⟨q2, ws2, l1, l2, l3, l4⟩ := s3.own s _ _ (ownAt_ok e5)
    rw [f1] at l1
    cases l1
    obtain ⟨m1, m2⟩ := mut_sr s3 (ownAt_ok e5) f1 l2 (RpAll.set ru j2 l4)
    exact ⟨q, ws2, k, j2, rfl, rfl, l2, by rw [l4.length]; exact e7, p2 _ _ σ (fm.stp.trans m2) m1⟩
/-- x.append(e) -/
theorem ds_app {F : Sem' PyData} {s : Nat} {apos cpos : Pos} (ho : PE X a (tVar s)) (he : PE X b (tE C F))
    (hbase : attributeBase a "append" X.env (eval a X.env) = eval a X.env := by rfl)
    (hfew : ((backTo cpos (starEach (b :: []) X.env)).all (fun x => !x.1) && (backToKw cpos (keywordEach [] X.env)).all (fun x => x.1.isSome)
      && decide ((b :: ([] : List Expr)).length + ([] : List Keyword).length + (if ([] : List Keyword).isEmpty then 0 else 1) < 30)) = true := by rfl)
    (hline : (apos.endLine == cpos.line) = true := by rfl) (hs : starEach (b :: []) X.env = (false, eval b X.env) :: starEach [] X.env := by rfl) (hplain : (backTo cpos (starEach [] X.env)).any (·.1) = false := by rfl)
    (hsw : swapsWith (.Call (.Attribute a "append" apos) [b] [] cpos) none pos.line X.env = pure false := by rfl) : PS X (.Expr (.Call (.Attribute a "append" apos) [b] [] cpos) pos) (tS C (sAppend s F)) :=
  (ps_expr (pe_bm PySem.F.plainAttrs_list PySem.F.slot_list_append PySem.F.type_list_append mt_append ho (pa_cons he pa_nil hs) hbase hfew hline hs hplain) hsw).imp fun D σ H ⟨H0, en, sr, p⟩ => by
    obtain ⟨o0, e0, p⟩ := postS_ofR p ownAt_nx
    obtain ⟨q, ws, f1, f2, f3, f4⟩ := sr.own s _ _ (ownAt_ok e0)
    refine ⟨_, f1, .inl ⟨rfl, _, SqL.of f2⟩, H0, en, sr, postS_bind (f := fun d e => ofR (ownAt e s) fun o => if o.2.length < 100000 then .next (e.set s (.own o.1 (o.2 ++ [d]))) else .bad) (D := D) p fun d en1 H01 H1 w _ st s1 r1 p1 => ?_⟩
    obtain ⟨o, e1, p1⟩ := postS_ofR p1 ownAt_nx
    split at p1
    case isFalse => exact p1.elim
    rename_i hl
    obtain ⟨q1, ws1, g1, g2, g3, g4⟩ := s1.own s _ _ (ownAt_ok e1)
    rw [f1] at g1
    cases g1
    obtain ⟨m1, m2⟩ := mut_sr s1 (ownAt_ok e1) f1 g2 (g4.append (.cons r1 .nil))
    exact ⟨q, ws1, w, rfl, rfl, g2, sz_lt (by rw [g4.length]; exact hl), p1 _ _ σ m2 m1⟩
/-- x.pop(e) -/
theorem de_popAt {F : Sem' PyData} {s : Nat} {apos cpos : Pos} (ho : PE X a (tVar s)) (he : PE X b (tE C F))
    (hbase : attributeBase a "pop" X.env (eval a X.env) = eval a X.env := by rfl)
    (hfew : ((backTo cpos (starEach (b :: []) X.env)).all (fun x => !x.1) && (backToKw cpos (keywordEach [] X.env)).all (fun x => x.1.isSome)
      && decide ((b :: ([] : List Expr)).length + ([] : List Keyword).length + (if ([] : List Keyword).isEmpty then 0 else 1) < 30)) = true := by rfl)
    (hline : (apos.endLine == cpos.line) = true := by rfl) (hs : starEach (b :: []) X.env = (false, eval b X.env) :: starEach [] X.env := by rfl) (hplain : (backTo cpos (starEach [] X.env)).any (·.1) = false := by rfl) :
    PE X (.Call (.Attribute a "pop" apos) [b] [] cpos) (tE C (dPop s F)) :=
  (pe_bm PySem.F.plainAttrs_list PySem.F.slot_list_pop PySem.F.type_list_pop mt_popAt ho (pa_cons he pa_nil hs) hbase hfew hline hs hplain).imp fun σ H Q ⟨H0, en, sr, p⟩ => by
    unfold dPop at p
    cases e0 : ownAt en s with
    | exc n => exact absurd e0 (ownAt_nx n)
    | bad => rw [e0] at p; exact p.elim
    | ok o0 =>
      rw [e0] at p
      obtain ⟨q, ws, f1, f2, f3, f4⟩ := sr.own s _ _ (ownAt_ok e0)
      have p : Post C (fun _ H0' _ v a => Rp C.K H0' v a) H0 H σ en Q (dPopAt s F en) := p
      refine ⟨_, f1, .inl ⟨rfl, _, SqL.of f2⟩, H0, en, sr, post_bind (rel2 := fun _ H0' _ v a => Rp C.K H0' v a) (f := fun d e => ownAt e s >>= fun o => match d with
        | .int k => if -(2 ^ 62) ≤ k ∧ k < 2 ^ 62 then R.get (ixN o.2.length k) >>= fun j => R.get o.2[j]? >>= fun x => .ok (x, e.set s (.own o.1 (o.2.eraseIdx j))) else .bad
        | _ => .bad) (Q2 := Q) p fun d en1 H01 H1 w _ st s1 r1 p1 => ?_⟩
      cases e1 : ownAt en1 s with
      | exc n => exact absurd e1 (ownAt_nx n)
      | bad => rw [e1] at p1; exact p1.elim
      | ok o =>
        rw [e1] at p1
        cases d with
        | int k =>
          have p1 : Post C (fun _ H0' _ v a => Rp C.K H0' v a) H01 H1 σ en1 Q (if -(2 ^ 62) ≤ k ∧ k < 2 ^ 62 then R.get (ixN o.2.length k) >>= fun j => R.get o.2[j]? >>= fun x => .ok (x, en1.set s (.own o.1 (o.2.eraseIdx j))) else .bad) := p1
          split at p1
          case isFalse => exact p1.elim
          rename_i hk
          cases r1
          cases e2 : ixN o.2.length k with
          | none => rw [e2] at p1; exact p1.elim
          | some j =>
            rw [e2] at p1
            have p1 : Post C (fun _ H0' _ v a => Rp C.K H0' v a) H01 H1 σ en1 Q (R.get o.2[j]? >>= fun x => .ok (x, en1.set s (.own o.1 (o.2.eraseIdx j)))) := p1
            cases e3 : o.2[j]? with
            | none => rw [e3] at p1; exact p1.elim
            | some x =>
              rw [e3] at p1
              obtain ⟨q1, ws1, g1, g2, g3, g4⟩ := s1.own s _ _ (ownAt_ok e1)
              rw [f1] at g1
              cases g1
              obtain ⟨v, hv, rx⟩ := g4.get e3
              obtain ⟨m1, m2⟩ := mut_sr s1 (ownAt_ok e1) f1 g2 (g4.eraseIdx j)
              refine ⟨q, ws1, k, j, v, rfl, rfl, g2, by omega, by omega, by rw [g4.length]; exact (ixN_seq e2).1, hv, p1 _ _ v m2 m1 rx⟩
        | _ => exact p1.elim
/-- raise of an own error -/
theorem pmk_own0 {Ca : Addr} {bmB : List Value} {B newId initId : String} {x : Str} {p : Pos} (F : ExcBaseFacts B newId initId bmB) (q : PySem.W.excIn X.K Ca bmB newId = true) (gC : X.mg x = some (.ref Ca))
    (kC : PySem.W.keepIn X.K (.ref Ca) = true) (r : Raises X (.ref Ca)) (hg : Gl X x) (hdb : (x == ("__debug__" : Str)) = false := by decide) :
    PMk X (.Call (.Name x p) [] [] pos) (fun _ H Q => Q (.ref Ca) none H) := by
  intro pins s σ H Q I h
  refine wpAny_Call_Name_kw (ld_glob I hg gC ?_ hdb)
  refine PySem.W.callWith_K0 I.kIn kC ?_
  show wpAny _ _ (call (.ref Ca) []) _ _ _
  obtain ⟨bm, N, nm, qn, bs, hdct, sn, sub, ab, col, dd, k0, k1, k2, k3, k5, mN, hC, hN, hni, T⟩ := exc_obj I.kIn q
  refine wpAny_call_exc_subT F T hC hN hni (fun h' e hm => ?_) (by show 0 ≤ sizeLine; exact Nat.zero_le _)
  exact mk_of I hm r h (I.hok.gone hm.new)
theorem ds_raise0 {Ca : Addr} {bmB : List Value} {B newId initId : String} {x : Str} {p pos2 : Pos} {n : Nat} (hc : X.calm = true) (tk : Takes X (fun cls d _ H => C.E cls d H)) (F : ExcBaseFacts B newId initId bmB) (q : PySem.W.excIn X.K Ca bmB newId = true) (gC : X.mg x = some (.ref Ca))
    (kC : PySem.W.keepIn X.K (.ref Ca) = true) (r : Raises X (.ref Ca)) (hn : C.ca n = Ca) (hg : Gl X x) (hdb : (x == ("__debug__" : Str)) = false := by decide) : PS X (.Raise (some (.Call (.Name x p) [] [] pos)) none pos2) (tS C (sExc n)) :=
  (ps_raise hc tk (pmk_own0 F q gC kC r hg hdb)).imp fun D σ H ⟨H0, en, s, p⟩ => by
    rw [← hn]
    exact p H0 H Fm.refl s.ex s.tb s.nt
end
end PD
end
section
namespace PD
open PySem PySem.Spec PyProof.Rows L2 Evl

/-! ### operators over data -/
def bigB : Nat := 2 ^ 100000
def MulOk (i j : Int) : Prop := (i.natAbs < 2 ^ 63 ∨ j.natAbs < 2 ^ 63) ∨ (i.natAbs < bigB ∧ j.natAbs < bigB)
instance (i j : Int) : Decidable (MulOk i j) := by unfold MulOk; infer_instance
def few2 {α : Type} (n : Nat) (x : R α) : R α := if n ≤ 100000 then x else .bad
theorem few2_ok {α : Type} {n : Nat} {x : R α} {z : α} (h : few2 n x = .ok z) : n ≤ 100000 ∧ x = .ok z := by
  unfold few2 at h
  split at h
  · exact ⟨by assumption, h⟩
  · cases h
def pAdd (x y : PyData) : R PyData := match x, y with
  | .int a, .int b => .ok (.int (a + b))
  | _, _ => .bad
def pSub (x y : PyData) : R PyData := match x, y with
  | .int a, .int b => .ok (.int (a - b))
  | _, _ => .bad
def pMul (x y : PyData) : R PyData := match x, y with
  | .int a, .int b => if MulOk a b then .ok (.int (a * b)) else .bad
  | _, _ => .bad
def pFdiv (x y : PyData) : R PyData := match x, y with
  | .int a, .int b => if 0 < b ∧ b.natAbs < 2 ^ 8000 then .ok (.int (a / b)) else .bad
  | _, _ => .bad
def pMod (x y : PyData) : R PyData := match x, y with
  | .int a, .int b => if 0 < b then .ok (.int (a % b)) else .bad
  | _, _ => .bad
def pPow (x y : PyData) : R PyData := match x, y with
  | .int a, .int b => if a.natAbs < 2 ^ 63 ∧ 0 ≤ b ∧ b ≤ 1000 then .ok (.int (a ^ b.toNat)) else .bad
  | _, _ => .bad
def pNeg (x : PyData) : R PyData := match x with
  | .int a => .ok (.int (-a))
  | _ => .bad
def pCatT (x y : PyData) : R PyData := match x, y with
  | .tuple a, .tuple b => few2 (a.length + b.length) (.ok (.tuple (a ++ b)))
  | _, _ => .bad
def pCat (x y : PyData) : R (List PyData) := match x, y with
  | .list a, .list b => few2 (a.length + b.length) (.ok (a ++ b))
  | _, _ => .bad
def pLt (x y : PyData) : R PyData := match x, y with
  | .int a, .int b => .ok (.bool (decide (a < b)))
  | _, _ => .bad
def pLe (x y : PyData) : R PyData := match x, y with
  | .int a, .int b => .ok (.bool (decide (a ≤ b)))
  | _, _ => .bad
def pGt (x y : PyData) : R PyData := match x, y with
  | .int a, .int b => .ok (.bool (decide (b < a)))
  | _, _ => .bad
def pGe (x y : PyData) : R PyData := match x, y with
  | .int a, .int b => .ok (.bool (decide (b ≤ a)))
  | _, _ => .bad
def plainD (d : PyData) : Bool := nd d && SeqAt.shaped d
def pEq (x y : PyData) : R PyData := if plainD x = true ∧ plainD y = true then .ok (.bool (PyData.eqv x y)) else .bad
def pNe (x y : PyData) : R PyData := if plainD x = true ∧ plainD y = true then .ok (.bool (!PyData.eqv x y)) else .bad
def isNon (x : PyData) : Bool := match x with
  | .none => true
  | _ => false
def pIsN (x y : PyData) : R PyData := match y with
  | .none => .ok (.bool (isNon x))
  | _ => .bad
def pNotN (x y : PyData) : R PyData := match y with
  | .none => .ok (.bool (!isNon x))
  | _ => .bad
def flatD : PyData → Bool
  | .none => true
  | .bool _ => true
  | .int _ => true
  | .str _ => true
  | _ => false
/-- x in a list, a tuple of flat things; a list of data -/
def pIn (x y : PyData) : R PyData := match y with
  | .list ds => if plainD x = true ∧ plainD (.list ds) = true then .ok (.bool (ds.any fun z => PyData.eqv z x)) else .bad
  | .tuple ds => if flatD x = true ∧ ds.all flatD = true then .ok (.bool (ds.any fun z => PyData.eqv z x)) else .bad
  | _ => .bad
def pNotIn (x y : PyData) : R PyData := match y with
  | .list ds => if plainD x = true ∧ plainD (.list ds) = true then .ok (.bool (!ds.any fun z => PyData.eqv z x)) else .bad
  | .tuple ds => if flatD x = true ∧ ds.all flatD = true then .ok (.bool (!ds.any fun z => PyData.eqv z x)) else .bad
  | _ => .bad
def pIx (x y : PyData) : R PyData := match x, y with
  | .list ds, .int i => R.get (atI ds i)
  | .tuple ds, .int i => R.get (atI ds i)
  | _, _ => .bad

section
variable {C : Ct} {X : Cx} {H0 H : Hp} {x y v : V} {dx dy d : PyData} {Q : VK}
theorem MulOk.imp {i j : Int} (h : MulOk i j) : CMul i j ∨ CMulW i j := by
  have p : (2 : Nat) ^ 63 < 2 ^ 64 := by decide
  rcases h with (h | h) | ⟨h1, h2⟩
  · exact .inl (.inl ⟨by omega, by omega⟩)
  · exact .inl (.inr ⟨by omega, by omega⟩)
  · exact .inr (wide_mul h1 h2 (by decide) (by decide) (by decide))
theorem op_mulA : OpR X (binaryOp .Mult) (fun x y H Q => rI CMul (fun i j => .int (i * j)) x y H Q ∨ rI CMulW (fun i j => .int (i * j)) x y H Q) := op_mul.or op_mulW
theorem r_add : Rule2 C (rI0 fun i j => .int (i + j)) pAdd := fun H0 H x y dx dy d Q g rx ry e o => by
  unfold pAdd at e
  split at e
  · cases e
    rw [rx.int, ry.int]
    exact ⟨_, _, rfl, rfl, o.now g (.int _)⟩
  · cases e
theorem r_sub : Rule2 C (rI0 fun i j => .int (i - j)) pSub := fun H0 H x y dx dy d Q g rx ry e o => by
  unfold pSub at e
  split at e
  · cases e
    rw [rx.int, ry.int]
    exact ⟨_, _, rfl, rfl, o.now g (.int _)⟩
  · cases e
theorem r_ipadd : Rule2 C (ipI fun i j => i + j) pAdd := fun H0 H x y dx dy d Q g rx ry e o => by
  unfold pAdd at e
  split at e
  · cases e
    rw [rx.int, ry.int]
    exact ⟨_, _, rfl, rfl, o.now g (.int _)⟩
  · cases e
theorem r_ipsub : Rule2 C (ipI fun i j => i - j) pSub := fun H0 H x y dx dy d Q g rx ry e o => by
  unfold pSub at e
  split at e
  · cases e
    rw [rx.int, ry.int]
    exact ⟨_, _, rfl, rfl, o.now g (.int _)⟩
  · cases e
theorem r_mul : Rule2 C (fun x y H Q => rI CMul (fun i j => .int (i * j)) x y H Q ∨ rI CMulW (fun i j => .int (i * j)) x y H Q) pMul := fun H0 H x y dx dy d Q g rx ry e o => by
  unfold pMul at e
  split at e
  · split at e
    · rename_i hm
      cases e
      rw [rx.int, ry.int]
      exact hm.imp.imp (fun h => ⟨_, _, rfl, rfl, h, o.now g (.int _)⟩) (fun h => ⟨_, _, rfl, rfl, h, o.now g (.int _)⟩)
    · cases e
  · cases e
theorem r_fdiv : Rule2 C (rI CDivW fun i j => .int (i / j)) pFdiv := fun H0 H x y dx dy d Q g rx ry e o => by
  unfold pFdiv at e
  split at e
  · split at e
    · rename_i hm
      cases e
      rw [rx.int, ry.int]
      exact ⟨_, _, rfl, rfl, wide_div hm.1 hm.2 (by decide) (by decide), o.now g (.int _)⟩
    · cases e
  · cases e
theorem r_mod : Rule2 C (rI (fun _ j => 0 < j) fun i j => .int (i % j)) pMod := fun H0 H x y dx dy d Q g rx ry e o => by
  unfold pMod at e
  split at e
  · split at e
    · rename_i hm
      cases e
      rw [rx.int, ry.int]
      exact ⟨_, _, rfl, rfl, hm, o.now g (.int _)⟩
    · cases e
  · cases e
theorem r_pow : Rule2 C (rI CPow fun i j => .int (i ^ j.toNat)) pPow := fun H0 H x y dx dy d Q g rx ry e o => by
  unfold pPow at e
  split at e
  · split at e
    · rename_i hm
      cases e
      rw [rx.int, ry.int]
      exact ⟨_, _, rfl, rfl, ⟨hm.2.1, by omega, by have : (2 : Nat) ^ 63 < 2 ^ 64 := by decide
                                                   omega⟩, o.now g (.int _)⟩
    · cases e
  · cases e
theorem r_neg : Rule1 C (rU fun i => .int (-i)) pNeg := fun H0 H x dx d Q g rx e o => by
  unfold pNeg at e
  split at e
  · cases e
    rw [rx.int]
    exact ⟨_, rfl, o.now g (.int _)⟩
  · cases e
theorem r_lt : Rule2 C (rI0 fun i j => .bl (decide (i < j))) pLt := fun H0 H x y dx dy d Q g rx ry e o => by
  unfold pLt at e
  split at e
  · cases e
    rw [rx.int, ry.int]
    exact ⟨_, _, rfl, rfl, o.now g (.bl _)⟩
  · cases e
theorem r_le : Rule2 C (rI0 fun i j => .bl (decide (i ≤ j))) pLe := fun H0 H x y dx dy d Q g rx ry e o => by
  unfold pLe at e
  split at e
  · cases e
    rw [rx.int, ry.int]
    exact ⟨_, _, rfl, rfl, o.now g (.bl _)⟩
  · cases e
theorem r_gt : Rule2 C (rI0 fun i j => .bl (decide (j < i))) pGt := fun H0 H x y dx dy d Q g rx ry e o => by
  unfold pGt at e
  split at e
  · cases e
    rw [rx.int, ry.int]
    exact ⟨_, _, rfl, rfl, o.now g (.bl _)⟩
  · cases e
theorem r_ge : Rule2 C (rI0 fun i j => .bl (decide (j ≤ i))) pGe := fun H0 H x y dx dy d Q g rx ry e o => by
  unfold pGe at e
  split at e
  · cases e
    rw [rx.int, ry.int]
    exact ⟨_, _, rfl, rfl, o.now g (.bl _)⟩
  · cases e
theorem plainD_and {d : PyData} (h : plainD d = true) : nd d = true ∧ SeqAt.shaped d = true := (Bool.and_eq_true _ _).mp h
theorem r_eq : Rule2 C (rEqD C.K) pEq := fun H0 H x y dx dy d Q g rx ry e o => by
  unfold pEq at e
  split at e
  · rename_i hm
    cases e
    exact ⟨dx, dy, (rx.mono g.ex).dp (plainD_and hm.1).1, (ry.mono g.ex).dp (plainD_and hm.2).1, (plainD_and hm.1).2, (plainD_and hm.2).2, o.now g (.bl _)⟩
  · cases e
theorem r_ne : Rule2 C (rNeD C.K) pNe := fun H0 H x y dx dy d Q g rx ry e o => by
  unfold pNe at e
  split at e
  · rename_i hm
    cases e
    exact ⟨dx, dy, (rx.mono g.ex).dp (plainD_and hm.1).1, (ry.mono g.ex).dp (plainD_and hm.2).1, (plainD_and hm.1).2, (plainD_and hm.2).2, o.now g (.bl _)⟩
  · cases e
theorem rpx_non (h : RpX C.K H0 H v d) : decide (v = .non) = isNon d := by
  rcases h with h | ⟨p, ws, ds, rfl, rfl, _, _⟩
  · cases h <;> rfl
  · rfl
theorem r_isN : Rule2 C (fun x y H Q => y = .non ∧ Q (.bl (decide (x = .non))) H) pIsN := fun H0 H x y dx dy d Q g rx ry e o => by
  unfold pIsN at e
  split at e
  · cases e
    exact ⟨ry.non, o.now g (by rw [rpx_non rx]; exact .bl _)⟩
  · cases e
theorem r_notN : Rule2 C (fun x y H Q => y = .non ∧ Q (.bl (!decide (x = .non))) H) pNotN := fun H0 H x y dx dy d Q g rx ry e o => by
  unfold pNotN at e
  split at e
  · cases e
    exact ⟨ry.non, o.now g (by rw [rpx_non rx]; exact .bl _)⟩
  · cases e
theorem eqV_eqv {a b : V} {da db : PyData} (ha : Rp C.K H0 a da) (hb : Rp C.K H0 b db) (fa : flatD da = true) (fb : flatD db = true) : eqV a b = PyData.eqv da db ∧ flatV a = true ∧ flatV b = true := by
  cases ha <;> first | (simp [flatD] at fa; done) | skip
  all_goals (cases hb <;> first | (simp [flatD] at fb; done) | skip)
  all_goals (refine ⟨?_, rfl, rfl⟩; simp [eqV, PyData.eqv])
theorem inV_any {x : V} {dx : PyData} (hx : Rp C.K H0 x dx) (fx : flatD dx = true) : ∀ {vs : List V} {ds : List PyData}, RpAll C.K H0 vs ds → ds.all flatD = true → inV x vs = (ds.any fun z => PyData.eqv z dx) ∧ vs.all flatV = true
  | [], [], _, _ => ⟨rfl, rfl⟩
  | v :: vs, d :: ds, .cons h t, f => by
    rw [List.all_cons, Bool.and_eq_true] at f
    obtain ⟨e1, e2, e3⟩ := eqV_eqv h hx f.1 fx
    obtain ⟨i1, i2⟩ := inV_any hx fx t f.2
    refine ⟨?_, by rw [List.all_cons, e2, i2]; rfl⟩
    unfold inV at i1 ⊢
    rw [List.any_cons, List.any_cons, e1, i1]
theorem flat_rp (h : RpX C.K H0 H v d) (f : flatD d = true) : Rp C.K H0 v d := by
  rcases h with h | ⟨p, ws, ds, rfl, rfl, _, _⟩
  · exact h
  · cases f
theorem flat_tup {ds : List PyData} (h : RpX C.K H0 H v (.tuple ds)) : Rp C.K H0 v (.tuple ds) := by
  rcases h with h | ⟨p, ws, ds, rfl, e, _, _⟩
  · exact h
  · cases e
theorem op_inA (hu : X.A.units + 65 < cLine) : OpR X (compareOp .In) (fun x y H Q => rInD X.K x y H Q ∨ rIn X.K false x y H Q) := (op_inD hu).or op_in_seq
theorem op_notInA (hu : X.A.units + 65 < cLine) : OpR X (compareOp .NotIn) (fun x y H Q => rNotInD X.K x y H Q ∨ rIn X.K true x y H Q) := (op_notInD hu).or op_notIn_seq
theorem r_in : Rule2 C (fun x y H Q => rInD C.K x y H Q ∨ rIn C.K false x y H Q) pIn := fun H0 H x y dx dy d Q g rx ry e o => by
  unfold pIn at e
  split at e
  · split at e
    · rename_i hm
      cases e
      exact .inl ⟨dx, _, (rx.mono g.ex).dp (plainD_and hm.1).1, (ry.mono g.ex).dp (plainD_and hm.2).1, (plainD_and hm.1).2, (plainD_and hm.2).2, o.now g (.bl _)⟩
    · cases e
  · split at e
    · rename_i hm
      cases e
      obtain ⟨a, vs, e1, e2, e3⟩ := ry.tup g.ex
      obtain ⟨i1, i2⟩ := inV_any (flat_rp rx hm.1) hm.1 e3 hm.2
      refine .inr ⟨a, vs, e1, .inr e2, (eqV_eqv (flat_rp rx hm.1) (flat_rp rx hm.1) hm.1 hm.1).2.1, i2, o.now g ?_⟩
      rw [i1]
      exact .bl _
    · cases e
  · cases e
theorem r_notIn : Rule2 C (fun x y H Q => rNotInD C.K x y H Q ∨ rIn C.K true x y H Q) pNotIn := fun H0 H x y dx dy d Q g rx ry e o => by
  unfold pNotIn at e
  split at e
  · split at e
    · rename_i hm
      cases e
      exact .inl ⟨dx, _, (rx.mono g.ex).dp (plainD_and hm.1).1, (ry.mono g.ex).dp (plainD_and hm.2).1, (plainD_and hm.1).2, (plainD_and hm.2).2, o.now g (.bl _)⟩
    · cases e
  · split at e
    · rename_i hm
      cases e
      obtain ⟨a, vs, e1, e2, e3⟩ := ry.tup g.ex
      obtain ⟨i1, i2⟩ := inV_any (flat_rp rx hm.1) hm.1 e3 hm.2
      refine .inr ⟨a, vs, e1, .inr e2, (eqV_eqv (flat_rp rx hm.1) (flat_rp rx hm.1) hm.1 hm.1).2.1, i2, o.now g ?_⟩
      rw [i1]
      exact .bl _
    · cases e
  · cases e
theorem rp_at {vs : List V} {ds : List PyData} {i : Int} (h : RpAll C.K H0 vs ds) (e : atI ds i = some d) : ∃ v, atI vs i = some v ∧ Rp C.K H0 v d := by
  unfold atI at e ⊢
  rw [h.length]
  cases q : ixN ds.length i with
  | none => rw [q] at e; cases e
  | some j =>
    rw [q] at e
    exact h.get e
theorem ix_two : IxR X (fun x y H Q => rIxL X.K x y H Q ∨ rIxT X.K x y H Q) := ix_list.or ix_tup
theorem r_ix : Rule2 C (fun x y H Q => rIxL C.K x y H Q ∨ rIxT C.K x y H Q) pIx := fun H0 H x y dx dy d Q g rx ry e o => by
  unfold pIx at e
  split at e
  · obtain ⟨a, vs, e1, e2, e3⟩ := rx.list g.ex
    obtain ⟨v, h1, h2⟩ := rp_at e3 (get_ok e)
    exact .inl ⟨a, vs, _, v, e1, ry.int, .inl e2, h1, o.now g h2⟩
  · obtain ⟨a, vs, e1, e2, e3⟩ := rx.tup g.ex
    obtain ⟨v, h1, h2⟩ := rp_at e3 (get_ok e)
    exact .inr ⟨a, vs, _, v, e1, ry.int, e2, h1, o.now g h2⟩
  · cases e
/-- t + u -/
theorem r_catT : Rule2 C (rCatA C.K) pCatT := fun H0 H x y dx dy d Q g rx ry e o => by
  unfold pCatT at e
  split at e
  · obtain ⟨hl, e⟩ := few2_ok e
    cases e
    obtain ⟨a, vs, e1, e2, e3⟩ := rx.tup g.ex
    obtain ⟨b, ws, f1, f2, f3⟩ := ry.tup g.ex
    have hz : vs.length + ws.length ≤ sizeLine := sz_of (by rw [e3.length, f3.length]; exact hl)
    have ra : Rp C.K H x (.tuple _) := rx.mono g.ex
    have rb : Rp C.K H y (.tuple _) := ry.mono g.ex
    refine ⟨a, b, vs, ws, e1, f1, e2, f2, hz, fun z => ?_, fun _ z => ?_, fun _ _ p hp => ?_⟩
    · subst z
      cases e3
      subst f1
      exact o.now g (flat_tup ry)
    · subst z
      cases f3
      rw [List.append_nil] at o
      subst e1
      exact o.now g (flat_tup rx)
    · exact o _ _ _ (Fm.new g.ex hp) (g.new hp fun _ z => by cases z) (.tup (SqT.of upd_same) ((e3.append f3).mono (Ex.new (fresh_back g.ex hp))))
  · cases e
/-- xs + ys -/
def rCatR : R2 := fun x y H Q => ∃ l b xs zs, x = .ref l ∧ y = .ref b ∧ Rd H l (.lst xs) ∧ Rd H b (.lst zs) ∧ xs.length + zs.length ≤ sizeLine ∧ ∀ p, H p = none → Q (.ref p) (upd H p (.lst (xs ++ zs)))
theorem op_catR : OpR X (binaryOp .Add) rCatR := by
  intro pins s σ H x y v u Q I rx ry h
  obtain ⟨l, b, xs, zs, rfl, rfl, hH, hB, hz, q⟩ := h
  cases rx
  cases ry
  obtain ⟨z, its, n, r, e⟩ := hH.ok I.hok
  obtain ⟨z2, its2, n2, r2, e2⟩ := hB.ok I.hok
  have hl := r.length
  have hl2 := r2.length
  refine PySem.P.add_list e e2 ?_ (by rw [List.size_toArray, List.size_toArray]; omega)
  have ea : its.toArray ++ its2.toArray = (its ++ its2).toArray := by simp
  rw [ea]
  exact ⟨.ref _, _, I.lnew (t' := s.toks) (r.append r2) (by rw [List.length_append]; omega), rfl, q _ I.fresh⟩
theorem r_cat : Rule2N C rCatR pCat := fun H0 H x y dx dy ds Q g rx ry e o => by
  unfold pCat at e
  split at e
  · obtain ⟨hl, e⟩ := few2_ok e
    cases e
    obtain ⟨a, vs, e1, e2, e3⟩ := rx.list g.ex
    obtain ⟨b, ws, f1, f2, f3⟩ := ry.list g.ex
    exact ⟨a, b, vs, ws, e1, f1, e2, f2, sz_of (by rw [e3.length, f3.length]; exact hl), fun p hp => o p _ _ (Fm.newO hp) (g.newO hp) hp upd_same (e3.append f3)⟩
  · cases e
/-- [x] * n -/
def pRep (x y : PyData) : R (List PyData) := match x, y with
  | .list a, .int n => if 0 ≤ n ∧ n ≤ 1000 ∧ a.length ≤ 100 then .ok (List.replicate n.toNat a).flatten else .bad
  | _, _ => .bad
end
end PD
end
section
/-! rules of the hand layer that it lacks: zip of a list and a tuple in any mix, enumerate of a tuple, sum of a tuple, repr of data, a list times a number -/
namespace PD
open PySem PySem.Spec PyProof.Rows L2 Evl

/-- a sequence: a list or a tuple -/
def Sq (K : PySem.W.Frag) (H : Hp) : Bool → Addr → List V → Prop
  | false => SqL K H
  | true => SqT K H
def SrcAt (h : Heap) : Bool → Addr → Array Value → Prop
  | false => h.IsList
  | true => h.IsTuple
def ItAt (h : Heap) : Bool → Addr → Addr → Nat → Prop
  | false => h.IsListIter
  | true => h.IsTupleIter
def itObj (b : Bool) (a : Addr) : Obj := { cls := .type (if b then "tuple_iterator" else "list_iterator"), data := .fields #[.ref a, .int 0 0] }
section
variable {X : Cx} {pins : List (Addr × Obj)} {σ : L2.St} {H : Hp} {s : Shared} {a : Addr} {b : Bool} {xs ys : List V}
theorem _root_.L2.Inv.sq (I : Inv X pins σ H s) (h : Sq X.K H b a xs) : ∃ its : List Value, Vals xs its ∧ SrcAt s.heap b a its.toArray := by
  cases b with
  | false =>
    obtain ⟨its, r, p, _⟩ := I.list h
    exact ⟨its, r, p.isList⟩
  | true =>
    obtain ⟨its, r, p, _⟩ := I.tuple h
    exact ⟨its, r, p⟩
theorem _root_.L2.Inv.sq_inj (I : Inv X pins σ H s) (h : Sq X.K H b a xs) (h' : Sq X.K H b a ys) : xs = ys := by
  cases b with
  | false => exact I.list_inj h h'
  | true => exact I.tuple_inj h h'
theorem src_lt {h : Heap} {its : Array Value} (p : SrcAt h b a its) : a < h.objs.size := by
  cases b with
  | false => obtain ⟨_, e, _⟩ := p; exact Heap.lt_size e
  | true => obtain ⟨_, e, _⟩ := p; exact Heap.lt_size e
theorem begins_sq (a : Addr) (its : Array Value) : Begins (.ref a) (itObj b a) fun h => SrcAt h b a its := by
  cases b with
  | false => exact begins_list a its
  | true => exact begins_tuple a its
theorem itAt_obj {h : Heap} {it : Addr} (e : h.get? it = some (itObj b a)) : ItAt h b it a 0 := by
  cases b with
  | false => exact ⟨_, e, rfl, rfl⟩
  | true => exact ⟨_, e, rfl, rfl⟩
theorem draws_sq {prog : Program} {w : World} {A : Around} (hh : A.handled = none) (it l : Addr) (hne : l ≠ it) (items : Array Value) :
    Draws prog w A it [it, l] items.size (fun i v => items[i]? = some v) (fun i h => ItAt h b it l i ∧ SrcAt h b l items) := by
  cases b with
  | false => exact Draws.list hh it l hne items
  | true => exact Draws.tuple hh it l hne items
theorem itAt_live {h : Heap} {it l : Addr} {i : Nat} (st : ItAt h b it l i) : ∃ o, h.get? it = some o ∧ ∀ v, o.data ≠ .cell v := by
  cases b with
  | false => obtain ⟨o, e, _, d⟩ := st; exact ⟨o, e, fun v z => by rw [d] at z; cases z⟩
  | true => obtain ⟨o, e, _, d⟩ := st; exact ⟨o, e, fun v z => by rw [d] at z; cases z⟩
theorem itAt_keep {h h' : Heap} {it l : Addr} {i : Nat} (st : ItAt h b it l i) (k : ∀ o, h.get? it = some o → h'.get? it = some o) : ItAt h' b it l i := by
  cases b with
  | false => exact Heap.IsListIter.at st k
  | true => exact Heap.IsTupleIter.at st k
end
def Itzu (K : PySem.W.Frag) (b1 b2 : Bool) (a1 a2 : Addr) : It :=
  ⟨fun i H => ∃ (xs ys : List V) (x y : V), Sq K H b1 a1 xs ∧ Sq K H b2 a2 ys ∧ xs[i]? = some x ∧ ys[i]? = some y,
    fun i H v H' => ∃ T x y, v = .ref T ∧ H T = none ∧ H' = upd H T (.tup [x, y]) ∧ (∀ xs, Sq K H b1 a1 xs → xs[i]? = some x) ∧ ∀ ys, Sq K H b2 a2 ys → ys[i]? = some y,
    fun i H => ∃ xs ys : List V, Sq K H b1 a1 xs ∧ Sq K H b2 a2 ys ∧ min xs.length ys.length = i⟩
structure ZApart (z TI TO i1 i2 a1 a2 : Addr) : Prop where
  sep : ZipSep2 z TI TO i1 i2 [i1, a1] [i2, a2]
  n1 : a1 ≠ i1
  n2 : a2 ≠ i2
theorem turn_zipU {P : Program} {w : World} {K : PySem.W.Frag} {elts : List Expr} {kk : Nat} {tpos : Pos} {b1 b2 : Bool} {a1 a2 z TI TO i1 i2 : Addr} (D : ZApart z TI TO i1 i2 a1 a2) :
    Turn P w K (.Tuple elts kk tpos) (Itzu K b1 b2 a1 a2) [z, TI, TO, i1, i2] z (fun i h => IsZip h z TI TO .none ∧ IsTupOf2 h TI (.ref i1) (.ref i2) ∧ (∃ x y, IsTupOf2 h TO x y) ∧ ItAt h b1 i1 a1 i ∧ ItAt h b2 i2 a2 i) where
  mem := by simp
  obj := fun i h st c hc => by
    obtain ⟨hz, hTI, ⟨x, y, hTO⟩, h1, h2⟩ := st
    have e' : c = z ∨ c = TI ∨ c = TO ∨ c = i1 ∨ c = i2 := by simpa using hc
    rcases e' with q | q | q | q | q
    · rw [q]; exact ⟨_, hz, fun v q => nomatch q⟩
    · rw [q]; exact ⟨_, hTI, fun v q => nomatch q⟩
    · rw [q]; exact ⟨_, hTO, fun v q => nomatch q⟩
    · rw [q]; exact itAt_live h1
    · rw [q]; exact itAt_live h2
  keep := fun i h h' st k => by
    obtain ⟨hz, hTI, ⟨x, y, hTO⟩, h1, h2⟩ := st
    exact ⟨k z (by simp) _ hz, k TI (by simp) _ hTI, ⟨x, y, k TO (by simp) _ hTO⟩, itAt_keep h1 fun o q => k i1 (by simp) o q, itAt_keep h2 fun o q => k i2 (by simp) o q⟩
  item := by
    intro X hP hw hK hc i pins s σ H E I hf st hg
    subst hP hw hK
    obtain ⟨hz, hTI, hTO, h1, h2⟩ := st
    obtain ⟨xs, ys, x, y, hqx, hqy, hx, hy⟩ := hg
    obtain ⟨its, rv, p⟩ := I.sq hqx
    obtain ⟨its2, rv2, p2⟩ := I.sq hqy
    obtain ⟨u, hu, ru⟩ := rv.get hx
    obtain ⟨u2, hu2, ru2⟩ := rv2.get hy
    have hh : X.A.in1.handled = none := I.ok.hd hc
    have W := GoesN.zip2 (prog := X.prog) (w := X.w) (A := X.A) (elts := elts) (x1 := kk) (pos := tpos) D.sep (draws_sq (b := b1) hh i1 a1 D.n1 its.toArray) (draws_sq (b := b2) hh i2 a2 D.n2 its2.toArray)
    have hlt : i < min its.toArray.size its2.toArray.size := by
      have := (List.getElem?_eq_some_iff.mp hu).1
      have := (List.getElem?_eq_some_iff.mp hu2).1
      simp only [List.size_toArray]
      omega
    have lt : ∀ c ∈ [z, TI, TO, i1, i2], c < s.heap.objs.size := fun c hcm => by
      have e' : c = z ∨ c = TI ∨ c = TO ∨ c = i1 ∨ c = i2 := by simpa using hcm
      obtain ⟨x0, y0, hTO⟩ := hTO
      rcases e' with q | q | q | q | q
      · rw [q]; exact Heap.lt_size hz
      · rw [q]; exact Heap.lt_size hTI
      · rw [q]; exact Heap.lt_size hTO
      · rw [q]; obtain ⟨_, e1, _⟩ := itAt_live h1; exact Heap.lt_size e1
      · rw [q]; obtain ⟨_, e2, _⟩ := itAt_live h2; exact Heap.lt_size e2
    refine wpAny_mono (W.goes i s (fun v s2 => ∃ x H', Inv X pins σ H' s2 ∧ RelV x v ∧ (Itzu X.K b1 b2 a1 a2).yld i H x H' ∧ (IsZip s2.heap z TI TO .none ∧ IsTupOf2 s2.heap TI (.ref i1) (.ref i2) ∧ (∃ x y, IsTupOf2 s2.heap TO x y) ∧ ItAt s2.heap b1 i1 a1 (i + 1) ∧ ItAt s2.heap b2 i2 a2 (i + 1)) ∧ ∀ b ∈ [z, TI, TO, i1, i2], H' b = none) E hlt ⟨hz, hTI, hTO, ⟨h1, p⟩, h2, p2⟩ fun v h' tk ⟨T, u', u2', ev, hT, hu', hu2', hTup⟩ st' hk htk => ?_) (fun r s1 q => q) fun _ _ q => q
    subst ev
    have eu : u' = u := by
      have e1 : its.toArray[i]? = some u := by simpa using hu
      have : its.toArray[i]? = some u' := hu'
      rw [e1] at this; exact (Option.some.inj this).symm
    have eu2 : u2' = u2 := by
      have e1 : its2.toArray[i]? = some u2 := by simpa using hu2
      have : its2.toArray[i]? = some u2' := hu2'
      rw [e1] at this; exact (Option.some.inj this).symm
    subst eu eu2
    have new : ObjOk X.prog X.w (upd H T (.tup [x, y])) h' T (.tup [x, y]) := ⟨by show 2 ≤ sizeLine; decide, [u', u2'], .cons ru (.cons ru2 .nil), hTup⟩
    have I1 : Inv X pins σ (upd H T (.tup [x, y])) { s with heap := h', toks := tk } :=
      I.turnedNew (t' := tk) (ch := [z, TI, TO, i1, i2]) (fun c o hb q => hk c o (fun q' => hb (by
        have e' : c = z ∨ c = TO ∨ c = i1 ∨ c = i2 := by simpa using q'
        rcases e' with q | q | q | q <;> simp [q])) q) hf hT new
    refine ⟨.ref T, _, I1, rfl, ⟨T, x, y, rfl, I.hok.fresh hT, rfl, fun l hl => by rw [I.sq_inj hl hqx]; exact hx, fun l hl => by rw [I.sq_inj hl hqy]; exact hy⟩, ⟨st'.1, st'.2.1, st'.2.2.1, st'.2.2.2.1.1, st'.2.2.2.2.1⟩, fun c hcm => ?_⟩
    rw [upd_ne (Nat.ne_of_lt (Nat.lt_of_lt_of_le (lt c hcm) hT))]
    exact (hf c hcm).1
  done := by
    intro X hP hw hK hc i pins s σ H E I hf st hg
    subst hP hw hK
    obtain ⟨hz, hTI, hTO, h1, h2⟩ := st
    obtain ⟨xs, ys, hqx, hqy, hend⟩ := hg
    obtain ⟨its, rv, p⟩ := I.sq hqx
    obtain ⟨its2, rv2, p2⟩ := I.sq hqy
    have l1 := rv.length
    have l2 := rv2.length
    have hh : X.A.in1.handled = none := I.ok.hd hc
    have W := GoesN.zip2 (prog := X.prog) (w := X.w) (A := X.A) (elts := elts) (x1 := kk) (pos := tpos) D.sep (draws_sq (b := b1) hh i1 a1 D.n1 its.toArray) (draws_sq (b := b2) hh i2 a2 D.n2 its2.toArray)
    have ei : min its.toArray.size its2.toArray.size = i := by simp only [List.size_toArray]; omega
    have st : IsZip s.heap z TI TO .none ∧ IsTupOf2 s.heap TI (.ref i1) (.ref i2) ∧ (∃ a1 a2, IsTupOf2 s.heap TO a1 a2) ∧ (ItAt s.heap b1 i1 a1 (min its.toArray.size its2.toArray.size) ∧ SrcAt s.heap b1 a1 its.toArray) ∧ (ItAt s.heap b2 i2 a2 (min its.toArray.size its2.toArray.size) ∧ SrcAt s.heap b2 a2 its2.toArray) := by
      rw [ei]; exact ⟨hz, hTI, hTO, ⟨h1, p⟩, h2, p2⟩
    refine W.stops s (fun s1 => Inv X pins σ H s1) E st fun h' tk hk htk => I.turnedL (t' := tk) (ch := [z, TI, TO, i1, i2]) (fun c o hb q => hk c o (fun q' => hb (by
        have e' : c = z ∨ c = TO ∨ c = i1 ∨ c = i2 := by simpa using q'
        rcases e' with q | q | q | q <;> simp [q])) q) hf
  self := fun A i s Q E st h => wpAny_pyIter_zip st.1 h
def iZipU (K : PySem.W.Frag) (ta : TA) : TI := fun σ H R => ta σ H fun vs H1 => ∃ b1 b2 a b xs ys, vs = [.ref a, .ref b] ∧ Sq K H1 b1 a xs ∧ Sq K H1 b2 b ys ∧ R (Itzu K b1 b2 a b) H1
theorem pi_zipU {X : Cx} {e e2 : Expr} {ta : TA} {p pos tpos : Pos} {elts : List Expr} {kk : Nat} (hg : Gl X "zip") (hm : X.mg "zip" = none) (ha : PA X [e, e2] ta)
    (hs : starEach [e, e2] X.env = (false, eval e X.env) :: starEach [e2] X.env := by rfl) (hpl : (backTo pos (starEach [e2] X.env)).any (·.1) = false := by rfl) :
    PI X (.Tuple elts kk tpos) (.Call (.Name "zip" p) [e, e2] [] pos) (iZipU X.K ta) := by
  refine ⟨fun pins s σ H R I h => ?_⟩
  refine Call_ (ld_blt I hg hm PyProof.Rows.boot_zip (PyProof.Rows.callWith_type1 (thn (ha.run pos pins s σ H _ I h) fun us s1 ⟨vs, H1, I1, r1, q1⟩ => ?_) hs hpl))
  obtain ⟨b1, b2, a, b, xs, ys, ex, hqx, hqy, q⟩ := q1
  subst ex
  cases r1 with
  | cons r rr =>
    cases rr with
    | cons r' rr =>
      cases rr
      cases r
      cases r'
      obtain ⟨its, rv, p1⟩ := I1.sq hqx
      obtain ⟨its2, rv2, p2⟩ := I1.sq hqy
      have la := src_lt p1
      have lb := src_lt p2
      refine zip_begins2 (begins_sq (b := b1) a its.toArray) (begins_sq (b := b2) b its2.toArray) p1 p2 fun h' hz hTI hTO h1 h2 hsz hk => wpAny_pyIter_zip hz ?_
      have I2 : Inv X pins σ H1 { s1 with heap := h' } := I1.kept (t' := s1.toks) hk
      have D : ZApart (s1.heap.objs.size + 4) (s1.heap.objs.size + 2) (s1.heap.objs.size + 3) s1.heap.objs.size (s1.heap.objs.size + 1) a b :=
        ⟨zip_sep2 (fun c hc => by rw [List.mem_singleton.mp hc]; exact la) (fun c hc => by rw [List.mem_singleton.mp hc]; exact lb), Nat.ne_of_lt la, Nat.ne_of_lt (Nat.lt_succ_of_lt lb)⟩
      refine ⟨s1.heap.objs.size + 4, [s1.heap.objs.size + 4, s1.heap.objs.size + 2, s1.heap.objs.size + 3, s1.heap.objs.size, s1.heap.objs.size + 1], _, _, H1, rfl, I2, turn_zipU D, ⟨hz, hTI, ⟨_, _, hTO⟩, itAt_obj h1, itAt_obj h2⟩, fun c hcm => ?_, q⟩
      have e' : c = s1.heap.objs.size + 4 ∨ c = s1.heap.objs.size + 2 ∨ c = s1.heap.objs.size + 3 ∨ c = s1.heap.objs.size ∨ c = s1.heap.objs.size + 1 := by simpa using hcm
      have hle : s1.heap.objs.size ≤ c := by
        rcases e' with z | z | z | z | z
        · rw [z]; exact Nat.le_add_right _ _
        · rw [z]; exact Nat.le_add_right _ _
        · rw [z]; exact Nat.le_add_right _ _
        · rw [z]; exact Nat.le_refl _
        · rw [z]; exact Nat.le_add_right _ _
      exact I1.fpOk hle (I1.hok.fresh hle)

/-! ### enumerate -/
set_option maxHeartbeats 4000000 in
theorem meets_enum1 {v : Value} {o : Obj} {H : Heap → Prop} (B : Begins v o H) :
    Meets (Builtin.«enumerate.__new__» ⟨[.type "enumerate", v], []⟩) (fun _ R s => H s.heap ∧
      R (.ok (.ret (.ref (s.heap.push o).objs.size))) { s with heap := (s.heap.push o).push { cls := .type "enumerate", data := .fields #[.none, .bool false, .ref s.heap.objs.size, rawInt 0, .none, .none] } }) :=
  .of_wp fun prog w A R s h => by
    obtain ⟨hp, g, d, tk, os⟩ := s; obtain ⟨h1, h⟩ := h
    have hsub := sub_enumerate
    have q1 : ∀ {A' : Around} {E : Value → Shared → Prop} {Q : Value → Shared → Prop}, Q (.ref hp.objs.size) ⟨hp.push o, g, d, tk, os⟩ → wpAny (model prog w) A' (pyIter v) Q E ⟨hp, g, d, tk, os⟩ :=
      fun q => B.iter prog w _ _ ⟨hp, g, d, tk, os⟩ _ h1 q
    wp_walk using q1
    refine wpAny_stack_any fun st => wpAny_pure ?_
    split
    · rename_i c _ _ _ _ _
      cases (c == Value.type "enumerate")
      · wp_walk using q1
        exact ⟨_, rfl, h⟩
      · wp_walk using q1
        exact ⟨_, rfl, h⟩
    · wp_walk using q1
      exact ⟨_, rfl, h⟩
theorem enum_begins1 {prog : Program} {w : World} {A : Around} {E : Value → Shared → Prop} {s : Shared} {v : Value} {o : Obj} {H : Heap → Prop} {Q : Value → Shared → Prop} (B : Begins v o H) (h1 : H s.heap)
    (h : ∀ h', IsEnum h' (s.heap.objs.size + 1) s.heap.objs.size 0 .none → h'.get? s.heap.objs.size = some o → h'.objs.size = s.heap.objs.size + 2 →
      (∀ b o, s.heap.get? b = some o → h'.get? b = some o) → Q (.ref (s.heap.objs.size + 1)) { s with heap := h' }) :
    wpAny (model prog w) A (call (.type "enumerate") [v]) Q E s := by
  refine callType_new F.called_enumerate (by decide) (F.typeCall_enumerate_1 _) (F.newCall_enumerate_1 _) (fun obj => F.args_object_init_2 obj _) F.entry_enumerate_new
    (meets_enum1 B) ⟨h1, ?_⟩
  have hz : (s.heap.push o).objs.size = s.heap.objs.size + 1 := Heap.size_push ..
  show _ ∧ _
  rw [hz]
  have he : IsEnum ((s.heap.push o).push { cls := .type "enumerate", data := .fields #[.none, .bool false, .ref s.heap.objs.size, rawInt 0, .none, .none] }) (s.heap.objs.size + 1) s.heap.objs.size 0 .none := by
    have := Heap.get?_push_size (s.heap.push o) (o := { cls := .type "enumerate", data := .fields #[.none, .bool false, .ref s.heap.objs.size, rawInt 0, .none, .none] }) rfl
    rw [hz] at this; exact this
  exact ⟨⟨_, he, rfl⟩, h _ he (Heap.get?_push_of_some _ (Heap.get?_push_size _ B.free)) (by rw [Heap.size_push, hz]) fun b o x => Heap.get?_push_of_some _ (Heap.get?_push_of_some _ x)⟩
def Iteu (K : PySem.W.Frag) (b : Bool) (a : Addr) : It :=
  ⟨fun i H => ∃ (xs : List V) (x : V), Sq K H b a xs ∧ xs[i]? = some x, fun i H v H' => ∃ T x, v = .ref T ∧ H T = none ∧ H' = upd H T (.tup [.int (i : Nat), x]) ∧ ∀ xs, Sq K H b a xs → xs[i]? = some x, fun i H => ∃ xs : List V, Sq K H b a xs ∧ xs.length = i⟩
theorem turn_enumU {P : Program} {w : World} {K : PySem.W.Frag} {elts : List Expr} {kk : Nat} {tpos : Pos} {b : Bool} {a e it : Addr} (n1 : e ≠ it) (n2 : a ≠ e) (n3 : a ≠ it) :
    Turn P w K (.Tuple elts kk tpos) (Iteu K b a) [e, it] e (fun i h => (∃ old, IsEnum h e it ((0 : Int) + (i : Int)) old) ∧ ItAt h b it a i) where
  mem := by simp
  obj := fun i h st c hc => by
    obtain ⟨⟨old, he⟩, h1⟩ := st
    have e' : c = e ∨ c = it := by simpa using hc
    rcases e' with q | q
    · rw [q]; exact ⟨_, he, fun v q => nomatch q⟩
    · rw [q]; exact itAt_live h1
  keep := fun i h h' st k => by
    obtain ⟨⟨old, he⟩, h1⟩ := st
    exact ⟨⟨old, k e (by simp) _ he⟩, itAt_keep h1 fun o q => k it (by simp) o q⟩
  item := by
    intro X hP hw hK hc i pins s σ H E I hf st hg
    subst hP hw hK
    obtain ⟨he, h1⟩ := st
    obtain ⟨xs, x, hqx, hx⟩ := hg
    obtain ⟨its, rv, p⟩ := I.sq hqx
    obtain ⟨u, hu, ru⟩ := rv.get hx
    have hh : X.A.in1.handled = none := I.ok.hd hc
    have W := GoesN.enumFrom (prog := X.prog) (w := X.w) (A := X.A) (elts := elts) (x1 := kk) (pos := tpos) 0 (draws_sq (b := b) hh it a n3 its.toArray) e n1 (by simp [n1, Ne.symm n2]) (by simp)
    have hlt : i < its.toArray.size := by
      have := (List.getElem?_eq_some_iff.mp hu).1
      simpa using this
    have lt : ∀ c ∈ [e, it], c < s.heap.objs.size := fun c hcm => by
      have e' : c = e ∨ c = it := by simpa using hcm
      obtain ⟨old, he⟩ := he
      rcases e' with q | q
      · rw [q]; exact Heap.lt_size he
      · rw [q]; obtain ⟨_, e1, _⟩ := itAt_live h1; exact Heap.lt_size e1
    refine wpAny_mono (W.goes i s (fun v s2 => ∃ x H', Inv X pins σ H' s2 ∧ RelV x v ∧ (Iteu X.K b a).yld i H x H' ∧ ((∃ old, IsEnum s2.heap e it ((0 : Int) + ((i + 1 : Nat) : Int)) old) ∧ ItAt s2.heap b it a (i + 1)) ∧ ∀ b ∈ [e, it], H' b = none) E hlt ⟨he, h1, p⟩ fun v h' tk ⟨T, t, u', ev, hT, hu', hTup⟩ st' hk htk => ?_) (fun r s1 q => q) fun _ _ q => q
    subst ev
    have eu : u' = u := by
      have e1 : its.toArray[i]? = some u := by simpa using hu
      have : its.toArray[i]? = some u' := hu'
      rw [e1] at this; exact (Option.some.inj this).symm
    subst eu
    have ez : (0 : Int) + (i : Int) = ((i : Nat) : Int) := Int.zero_add _
    have new : ObjOk X.prog X.w (upd H T (.tup [.int (i : Nat), x])) h' T (.tup [.int (i : Nat), x]) := ⟨by show 2 ≤ sizeLine; decide, [.int (0 + (i : Int)) t, u'], .cons ⟨t, by rw [ez]⟩ (.cons ru .nil), hTup⟩
    have I1 : Inv X pins σ (upd H T (.tup [.int (i : Nat), x])) { s with heap := h', toks := tk } :=
      I.turnedNew (t' := tk) (ch := [e, it]) (fun c o hb q => hk c o hb q) hf hT new
    refine ⟨.ref T, _, I1, rfl, ⟨T, x, rfl, I.hok.fresh hT, rfl, fun l hl => by rw [I.sq_inj hl hqx]; exact hx⟩, ⟨st'.1, st'.2.1⟩, fun c hcm => ?_⟩
    rw [upd_ne (Nat.ne_of_lt (Nat.lt_of_lt_of_le (lt c hcm) hT))]
    exact (hf c hcm).1
  done := by
    intro X hP hw hK hc i pins s σ H E I hf st hg
    subst hP hw hK
    obtain ⟨he, h1⟩ := st
    obtain ⟨xs, hqx, hend⟩ := hg
    obtain ⟨its, rv, p⟩ := I.sq hqx
    have l1 := rv.length
    have hh : X.A.in1.handled = none := I.ok.hd hc
    have W := GoesN.enumFrom (prog := X.prog) (w := X.w) (A := X.A) (elts := elts) (x1 := kk) (pos := tpos) 0 (draws_sq (b := b) hh it a n3 its.toArray) e n1 (by simp [n1, Ne.symm n2]) (by simp)
    have ei : its.toArray.size = i := by simp only [List.size_toArray]; omega
    have st : (∃ old, IsEnum s.heap e it ((0 : Int) + (its.toArray.size : Int)) old) ∧ ItAt s.heap b it a its.toArray.size ∧ SrcAt s.heap b a its.toArray := by
      rw [ei]; exact ⟨he, h1, p⟩
    exact W.stops s (fun s1 => Inv X pins σ H s1) E st fun h' tk hk htk => I.turnedL (t' := tk) (ch := [e, it]) (fun c o hb q => hk c o hb q) hf
  self := fun A i s Q E st h => let ⟨⟨_, he⟩, _⟩ := st; wpAny_pyIter_enum he h
def iEnumU (K : PySem.W.Frag) (ta : TA) : TI := fun σ H R => ta σ H fun vs H1 => ∃ b a xs, vs = [.ref a] ∧ Sq K H1 b a xs ∧ R (Iteu K b a) H1
theorem pi_enumU {X : Cx} {e : Expr} {ta : TA} {p pos tpos : Pos} {elts : List Expr} {kk : Nat} (hg : Gl X "enumerate") (hm : X.mg "enumerate" = none) (ha : PA X [e] ta) (hs : starEach [e] X.env = [(false, eval e X.env)] := by rfl) :
    PI X (.Tuple elts kk tpos) (.Call (.Name "enumerate" p) [e] [] pos) (iEnumU X.K ta) := by
  refine ⟨fun pins s σ H R I h => ?_⟩
  refine Call_ (ld_blt I hg hm boot_enumerate (PyProof.Rows.callWith_type1 (thn (ha.run pos pins s σ H _ I h) fun us s1 ⟨vs, H1, I1, r1, q1⟩ => ?_) hs rfl))
  obtain ⟨b, a, xs, ex, hq, q⟩ := q1
  subst ex
  cases r1 with
  | cons r rr =>
    cases rr
    cases r
    obtain ⟨its, rv, p1⟩ := I1.sq hq
    have la := src_lt p1
    refine enum_begins1 (begins_sq (b := b) a its.toArray) p1 fun h' he h1 hsz hk => wpAny_pyIter_enum he ?_
    have I2 : Inv X pins σ H1 { s1 with heap := h' } := I1.kept (t' := s1.toks) hk
    refine ⟨s1.heap.objs.size + 1, [s1.heap.objs.size + 1, s1.heap.objs.size], _, _, H1, rfl, I2, turn_enumU (Nat.succ_ne_self _) (Nat.ne_of_lt (Nat.lt_succ_of_lt la)) (Nat.ne_of_lt la), ⟨⟨.none, he⟩, itAt_obj h1⟩, fun c hcm => ?_, q⟩
    have e' : c = s1.heap.objs.size + 1 ∨ c = s1.heap.objs.size := by simpa using hcm
    have hle : s1.heap.objs.size ≤ c := by
      rcases e' with z | z
      · rw [z]; exact Nat.le_add_right _ _
      · rw [z]; exact Nat.le_refl _
    exact I1.fpOk hle (I1.hok.fresh hle)
end PD
end
section
/-! PX2: hand-layer rules for what the kit's own ones leave out: sum, max, min of a tuple of ints; repr of plain data; a list of any standing times an int. -/
namespace PD
open PySem PySem.Spec PyProof.Rows L2 Evl
section
variable {prog : Program} {w : World} {A : Around} {E : Value → Shared → Prop} {s : Shared} {t : Addr} {xs : Array (Int × Tok)}
theorem iterTI {its : Array Value} {Q : Value → Shared → Prop} (ht : s.heap.IsTuple t its)
    (h : ∀ s2 : Shared, s2 = { s with heap := s.heap.push { cls := .type "tuple_iterator", data := .fields #[.ref t, .int 0 0] } } →
      (s2.heap.IsTupleIter s.heap.objs.size t 0 ∧ s2.heap.IsTuple t its) → (∀ b ∈ [s.heap.objs.size, t], b < s2.heap.objs.size) → t ≠ s.heap.objs.size → Q (.ref s.heap.objs.size) s2) : wpAny (model prog w) A (pyIter (.ref t)) Q E s := by
  have hlt : t < s.heap.objs.size := by obtain ⟨_, e, _⟩ := ht; exact Heap.lt_size e
  refine wpAny_pyIter_tuple ht (h _ rfl ⟨⟨_, Heap.get?_push_size _ rfl, rfl, rfl⟩, ht.at fun o e => Heap.get?_push_of_some _ e⟩ (fun b hb => ?_) (Nat.ne_of_lt hlt))
  show b < (s.heap.push _).objs.size
  rw [Heap.size_push]
  simp only [List.mem_cons, List.not_mem_nil, or_false] at hb
  rcases hb with rfl | rfl
  · exact Nat.lt_succ_self _
  · exact Nat.lt_succ_of_lt hlt
theorem keptTI {h' : Heap} {ob : Obj} (hk : ∀ b o, b ∉ [s.heap.objs.size] → (s.heap.push ob).get? b = some o → h'.get? b = some o) : ∀ b o, s.heap.get? b = some o → h'.get? b = some o := fun b o e =>
  hk b o (fun hm => by
    simp only [List.mem_cons, List.not_mem_nil, or_false] at hm
    exact absurd (hm ▸ Heap.lt_size e) (Nat.lt_irrefl _)) (Heap.get?_push_of_some _ e)
end
def rSumT (K : PySem.W.Frag) : List V → Hp → VK → Prop := fun vs H Q => ∃ (a : Addr) (ns : List Int), vs = [V.ref a] ∧ SqT K H a (ns.map V.int) ∧ Q (.int ns.sum) H
def rMaxT (K : PySem.W.Frag) : List V → Hp → VK → Prop := fun vs H Q => ∃ (a : Addr) (ns : List Int), vs = [V.ref a] ∧ SqT K H a (ns.map V.int) ∧ 0 < ns.length ∧ ∀ m, m ∈ ns → (∀ y, y ∈ ns → y ≤ m) → Q (.int m) H
def rMinT (K : PySem.W.Frag) : List V → Hp → VK → Prop := fun vs H Q => ∃ (a : Addr) (ns : List Int), vs = [V.ref a] ∧ SqT K H a (ns.map V.int) ∧ 0 < ns.length ∧ ∀ m, m ∈ ns → (∀ y, y ∈ ns → m ≤ y) → Q (.int m) H
section
variable {X : Cx}
theorem cr_sumT (hc : X.calm = true) : CallR X (.builtin "sum") (rSumT X.K) := by
  intro pins s σ H vs us Q I r h
  obtain ⟨a, ns, rfl, hs, q⟩ := h
  obtain ⟨its, rv, ht, _⟩ := I.tuple hs
  rw [Vals.ref1 r]
  have hi := rv.ints
  obtain ⟨xs, e⟩ := hi.allInts.items
  have hn : numsOf (intItems xs).toList = ns := by rw [← e]; exact hi.numsOf
  rw [nums_intItems] at hn
  rw [e] at ht
  refine call_sum_walkG (iterTI ht fun s2 e2 st hfp hne => ?_)
  subst e2
  refine ⟨_, _, _, _, _, _, numAt xs, rfl, Walks.tuple (A := X.A.in1) (I.ok.hd hc) _ a hne (intItems xs), st, hfp, (fun _ _ => intItems_at), fun h' tk t' hk => ?_⟩
  refine ⟨.int _, H, I.kept (keptTI hk), ⟨t', ?_⟩, q⟩
  have : (intItems xs).size = xs.size := by simp [intItems]
  rw [this, preSum_eq, List.take_of_length_le (by simp), hn]
theorem cr_maxT (hc : X.calm = true) : CallR X (.builtin "max") (rMaxT X.K) := by
  intro pins s σ H vs us Q I r h
  obtain ⟨a, ns, rfl, hs, hne0, q⟩ := h
  obtain ⟨its, rv, ht, _⟩ := I.tuple hs
  rw [Vals.ref1 r]
  have hi := rv.ints
  obtain ⟨xs, e⟩ := hi.allInts.items
  have hn : numsOf (intItems xs).toList = ns := by rw [← e]; exact hi.numsOf
  rw [nums_intItems] at hn
  subst hn
  rw [e] at ht
  have hsz : 0 < xs.size := by simpa using hne0
  refine call_max_walk (iterTI ht fun s2 e2 st hfp hne => ?_)
  subst e2
  refine ⟨_, _, _, _, _, _, _, rfl, Walks.tuple (A := X.A.in1) (I.ok.hd hc) _ a hne (intItems xs), st, hfp, by simpa [intItems] using hsz, CmpOf.ints_gt (numAt xs) (fun _ _ => intItems_at), fun v h' tk hP hk => ?_⟩
  have es : (intItems xs).size = xs.size := by simp [intItems]
  rw [es] at hP
  obtain ⟨t, rfl⟩ := intItems_at hP
  obtain ⟨h1, h2⟩ := argBest_gt (numAt xs) (xs.size - 1)
  refine ⟨.int _, H, I.kept (keptTI hk), ⟨t, rfl⟩, q _ ?_ fun a ha => ?_⟩
  · rw [numAt_eq]; exact PySem.getD_mem (by rw [List.length_map, Array.length_toList]; omega)
  · obtain ⟨j, hj, rfl⟩ := mem_getD ha
    rw [List.length_map, Array.length_toList] at hj
    rw [← numAt_eq]; exact h2 j (by omega)
theorem cr_minT (hc : X.calm = true) : CallR X (.builtin "min") (rMinT X.K) := by
  intro pins s σ H vs us Q I r h
  obtain ⟨a, ns, rfl, hs, hne0, q⟩ := h
  obtain ⟨its, rv, ht, _⟩ := I.tuple hs
  rw [Vals.ref1 r]
  have hi := rv.ints
  obtain ⟨xs, e⟩ := hi.allInts.items
  have hn : numsOf (intItems xs).toList = ns := by rw [← e]; exact hi.numsOf
  rw [nums_intItems] at hn
  subst hn
  rw [e] at ht
  have hsz : 0 < xs.size := by simpa using hne0
  refine call_min_walk (iterTI ht fun s2 e2 st hfp hne => ?_)
  subst e2
  refine ⟨_, _, _, _, _, _, _, rfl, Walks.tuple (A := X.A.in1) (I.ok.hd hc) _ a hne (intItems xs), st, hfp, by simpa [intItems] using hsz, CmpOf.ints_lt (numAt xs) (fun _ _ => intItems_at), fun v h' tk hP hk => ?_⟩
  have es : (intItems xs).size = xs.size := by simp [intItems]
  rw [es] at hP
  obtain ⟨t, rfl⟩ := intItems_at hP
  obtain ⟨h1, h2⟩ := argBest_lt (numAt xs) (xs.size - 1)
  refine ⟨.int _, H, I.kept (keptTI hk), ⟨t, rfl⟩, q _ ?_ fun a ha => ?_⟩
  · rw [numAt_eq]; exact PySem.getD_mem (by rw [List.length_map, Array.length_toList]; omega)
  · obtain ⟨j, hj, rfl⟩ := mem_getD ha
    rw [List.length_map, Array.length_toList] at hj
    rw [← numAt_eq]; exact h2 j (by omega)
/-- repr(x) of a list, a tuple of plain data -/
def rRepr (K : PySem.W.Frag) : List V → Hp → VK → Prop := fun vs H Q => ∃ (a : Addr) (d : PyData), vs = [V.ref a] ∧ Dp K H (.ref a) d ∧ d.showable = true ∧ d.hasDict = false ∧ d.depth ≤ 64 ∧ d.shown.length ≤ sizeLine ∧ Q (.str d.shown) H
theorem cr_repr (hg : X.A.guards = some []) (hu : X.A.units + 65 < cLine) : CallR X (.builtin "repr") (rRepr X.K) := by
  intro pins s σ H vs us Q I r h
  obtain ⟨a, d, rfl, hd, h1, h2, h3, h4, q⟩ := h
  rw [Vals.ref1 r]
  obtain ⟨as, rs⟩ := Dp.reads I d _ _ hd (show RelV (V.ref a) (Value.ref a) from rfl)
  exact repr_of_reads' rs h1 (PyData.noDict_hsm h2) hg (by omega) (fun _ _ e => e) (fun h' u tk hk => ⟨.str _, H, I.kept hk, ⟨u, rfl⟩, q⟩) h4
/-- xs * k, any list -/
def rRepR : R2 := fun x y H Q => ∃ l k xs, x = .ref l ∧ y = .int k ∧ Rd H l (.lst xs) ∧ -(2 ^ 63) ≤ k ∧ k < 2 ^ 63 ∧ xs.length * k.toNat ≤ sizeLine ∧
  ∀ p, H p = none → Q (.ref p) (upd H p (.lst (List.replicate k.toNat xs).flatten))
theorem op_repR : OpR X (binaryOp .Mult) rRepR := by
  intro pins s σ H x y v u Q I rx ry h
  obtain ⟨l, k, xs, rfl, rfl, hH, b1, b2, hz, q⟩ := h
  cases rx
  obtain ⟨t, rfl⟩ := ry
  obtain ⟨z, its, n, r, e⟩ := hH.ok I.hok
  have hl := r.length
  have hlen : its.toArray.size * k.toNat ≤ sizeLine := by rw [List.size_toArray, ← hl]; exact hz
  have hcap : ¬ its.toArray.size * k.toNat > (2 ^ 63 - 1) / 8 := by
    have : (sizeLine : Nat) ≤ (2 ^ 63 - 1) / 8 := by decide
    omega
  have hfit : ¬ (!Builtin.List.listFitsIndex k) = true := by
    rw [fitsIndex_both b1 b2]
    exact Bool.false_ne_true
  have hlong : ¬ Builtin.List.listTooLong (its.toArray.size * k.toNat) = true := by
    rw [notLongL hlen]
    exact Bool.false_ne_true
  have hnew : List.foldl (fun y1 y2 => y1 ++ y2) #[] (List.replicate (if its.toArray.isEmpty = true then 0 else k.toNat) its.toArray) = (List.replicate k.toNat its).flatten.toArray := by
    cases its with
    | nil => simp
    | cons a r' =>
      rw [if_neg (by simp)]
      have := foldl_rep (a :: r') k.toNat []
      rw [List.nil_append] at this
      exact this
  refine wpAny_binaryOp_repeat_ref (T := "list") (U := "int") (by decide) ⟨_, e, rfl⟩ (fun s' => typeIs_int s' k t) noFill_list_mul F.fills_int_mul F.slot_int_rmul repeat_list F.slot_int_index.lookup
    (call_meets F.slot_int_rmul (typeIs_int s k t) F.entry_int_rmul (F.args_int_rmul_2 _ _) (int___rmul___int_list k t l its.toArray n)
      ⟨e, rfl, ⟨_, e, rfl⟩, call_meets F.slot_list_mul ⟨_, e, rfl⟩ F.entry_list_mul (F.args_list_mul_2 _ _) (AutoListH.list___mul___list_int_3 l its.toArray n k t hfit hcap hlong) ⟨e, ?_⟩⟩)
  rw [hnew]
  exact ⟨.ref _, _, I.lnew (t' := s.toks) (r.rep k.toNat) (by rw [PyProof.Rows.lm_len_rep_flat, Nat.mul_comm]; exact hz), rfl, q _ I.fresh⟩
end
/-- l.count(x), any plain data -/
def rCountD (K : PySem.W.Frag) : V → List V → Hp → VK → Prop := fun x xs H Q => ∃ (a : Addr) (y : V) (d : PyData) (ds : List PyData), x = V.ref a ∧ xs = [y] ∧ Dp K H (V.ref a) (.list ds) ∧ Dp K H y d ∧
  SeqAt.shaped (.list ds) = true ∧ SeqAt.shaped d = true ∧ Q (.int (ds.countP fun z => PyData.eqv z d : Nat)) H
section
variable {X : Cx}
theorem mt_countD (hu : X.A.units + 65 < cLine) : MtR X "list.count" (rCountD X.K) := by
  intro pins s σ H x xs v us Q I rx rxs h
  obtain ⟨a, y, d, ds, rfl, rfl, hl, hy, sl, sd, q⟩ := h
  cases rx
  obtain ⟨uy, rfl, ry⟩ := rxs.one
  obtain ⟨bs, r1⟩ := Dp.reads I d y uy hy ry
  have hxs : PyData.canLayAll0 ds = true := SeqAt.canLay_of_shaped sl
  have hroom : X.A.units + 1 + min (PyData.depthAll ds) d.depth < cLine := room_in_shaped sd hu
  cases hl with
  | lst hs ha =>
    obtain ⟨its, rv, ⟨⟨cls, dd, data, sls⟩, n, ho, hc, hdn, hdt⟩, hlen⟩ := I.list hs
    simp only at hc hdt
    subst hc hdt
    obtain ⟨as, h4⟩ := Dp.readsAll I ds _ its ha rv
    have hmap : its.map (SeqAt.readOf s.heap) = ds := SeqAt.readsAll_map ds its as hxs h4
    refine call_meets PySem.F.slot_list_count ⟨_, ho, rfl⟩ PySem.F.entry_list_count (PySem.F.args_list_count_2 _ _)
      (SeqAt.list_countAt a its.toArray n dd sls uy (fun u => PyData.eqv (SeqAt.readOf s.heap u) d)) ⟨ho, SeqAt.items_eqAt (vs := its.toArray) (show ReadsAll s.heap its.toArray.toList ds as from h4) r1 hxs (SeqAt.canLay_of_shaped sd) hroom, ?_⟩
    refine ⟨.int (ds.countP fun z => PyData.eqv z d : Nat), H, I.tok _, ⟨s.toks, ?_⟩, q⟩
    rw [← hmap, List.countP_map]
    rfl
end
/-! ### kinds -/
def tyD : PyData → Option String
  | .none => some "NoneType"
  | .bool _ => some "bool"
  | .int _ => some "int"
  | .str _ => some "str"
  | .list _ => some "list"
  | .tuple _ => some "tuple"
  | .dict [(.none, _)] => none
  | .dict _ => some "dict"
theorem tyx_of {K : PySem.W.Frag} {H : Hp} {v : V} {d : PyData} {T : String} (r : Rp K H v d) (e : tyD d = some T) : TyX K H v (.type T) := by
  cases r with
  | non => cases e; exact .base .non
  | bl b => cases e; exact .base (.bl b)
  | int i => cases e; exact .base (.int i)
  | str x => cases e; exact .base (.str x)
  | lst h _ =>
    cases e
    rcases h with h | ⟨o, h⟩
    · exact .base (.lst h)
    · exact .base (.frz h)
  | tup h _ =>
    cases e
    rcases h with (h | ⟨o, h⟩) | ⟨o, its, n, h, hc, _⟩
    · exact .base (.tup h)
    · exact .fTuple h
    · exact .kTuple h hc
  | dct h _ =>
    have e : T = "dict" := by
      unfold tyD at e
      split at e <;> first | (cases e; rfl) | skip
      all_goals simp_all
    subst e
    rcases h with h | ⟨o, h⟩
    · exact .base (.dK h)
    · exact .fDict h
  | obj a => cases e
  | fn h => cases e
end PD
end
section
namespace PD
open PySem PySem.Spec PyProof.Rows L2 Evl

/-! ### lists of intsD, of truth values -/
def intsD : List PyData → Option (List Int)
  | [] => some []
  | .int i :: r => (intsD r).map (i :: ·)
  | _ => none
def boolsD : List PyData → Option (List Bool)
  | [] => some []
  | .bool i :: r => (boolsD r).map (i :: ·)
  | _ => none
theorem intsD_eq : ∀ {ds : List PyData} {ns : List Int}, intsD ds = some ns → ds = ns.map PyData.int
  | [], ns, h => by cases h; rfl
  | d :: ds, ns, h => by
    cases d <;> first | (cases h; done) | skip
    rename_i i
    unfold intsD at h
    obtain ⟨ms, h1, rfl⟩ := Option.map_eq_some_iff.mp h
    rw [intsD_eq h1]
    rfl
theorem boolsD_eq : ∀ {ds : List PyData} {ns : List Bool}, boolsD ds = some ns → ds = ns.map PyData.bool
  | [], ns, h => by cases h; rfl
  | d :: ds, ns, h => by
    cases d <;> first | (cases h; done) | skip
    rename_i i
    unfold boolsD at h
    obtain ⟨ms, h1, rfl⟩ := Option.map_eq_some_iff.mp h
    rw [boolsD_eq h1]
    rfl
@[simp] theorem intsD_map (ns : List Int) : intsD (ns.map PyData.int) = some ns := by
  induction ns with
  | nil => rfl
  | cons n ns ih => simp [intsD, ih]
@[simp] theorem boolsD_map (ns : List Bool) : boolsD (ns.map PyData.bool) = some ns := by
  induction ns with
  | nil => rfl
  | cons n ns ih => simp [boolsD, ih]
/-- sorting of intsD -/
def insI (x : Int) : List Int → List Int
  | [] => [x]
  | y :: r => if x ≤ y then x :: y :: r else y :: insI x r
def srtI : List Int → List Int
  | [] => []
  | x :: r => insI x (srtI r)
theorem insI_perm (x : Int) : ∀ l : List Int, (insI x l).Perm (x :: l)
  | [] => .refl _
  | y :: r => by
    unfold insI
    split
    · exact .refl _
    · exact ((insI_perm x r).cons y).trans (.swap x y r)
theorem srtI_perm : ∀ l : List Int, (srtI l).Perm l
  | [] => .refl _
  | x :: r => (insI_perm x (srtI r)).trans ((srtI_perm r).cons x)
theorem insI_sorted (x : Int) : ∀ {l : List Int}, l.Pairwise (· ≤ ·) → (insI x l).Pairwise (· ≤ ·)
  | [], _ => by simp [insI]
  | y :: r, h => by
    unfold insI
    have h' := List.pairwise_cons.mp h
    split
    · rename_i z
      exact List.pairwise_cons.mpr ⟨fun a ha => by
        rcases List.mem_cons.mp ha with rfl | ha
        · exact z
        · exact Int.le_trans z (h'.1 a ha), h⟩
    · rename_i z
      refine List.pairwise_cons.mpr ⟨fun a ha => ?_, insI_sorted x h'.2⟩
      rcases List.mem_cons.mp ((insI_perm x r).mem_iff.mp ha) with rfl | ha
      · omega
      · exact h'.1 a ha
theorem srtI_sorted : ∀ l : List Int, (srtI l).Pairwise (· ≤ ·)
  | [] => .nil
  | x :: r => insI_sorted x (srtI_sorted r)
theorem sorted_uniq : ∀ {a b : List Int}, a.Perm b → a.Pairwise (· ≤ ·) → b.Pairwise (· ≤ ·) → a = b
  | [], b, p, _, _ => by rw [p.symm.eq_nil]
  | x :: a, [], p, _, _ => absurd p.eq_nil (by simp)
  | x :: a, y :: b, p, ha, hb => by
    have ha' := List.pairwise_cons.mp ha
    have hb' := List.pairwise_cons.mp hb
    have e : x = y := by
      have h1 : y ≤ x := by
        rcases List.mem_cons.mp (p.mem_iff.mp (List.mem_cons_self)) with h | h
        · omega
        · exact hb'.1 x h
      have h2 : x ≤ y := by
        rcases List.mem_cons.mp (p.symm.mem_iff.mp (List.mem_cons_self)) with h | h
        · omega
        · exact ha'.1 y h
      omega
    subst e
    rw [sorted_uniq (List.Perm.cons_inv p) ha'.2 hb'.2]
theorem srtI_uniq {a b : List Int} (p : a.Perm b) (s : a.Pairwise (· ≤ ·)) : a = srtI b := sorted_uniq (p.trans (srtI_perm b).symm) s (srtI_sorted b)
def maxI (x : Int) (l : List Int) : Int := l.foldl max x
def minI (x : Int) (l : List Int) : Int := l.foldl min x
theorem maxI_le : ∀ (l : List Int) (x : Int), x ≤ maxI x l ∧ ∀ y ∈ l, y ≤ maxI x l
  | [], x => ⟨Int.le_refl _, fun y h => by cases h⟩
  | z :: l, x => by
    obtain ⟨h1, h2⟩ := maxI_le l (max x z)
    have e : maxI x (z :: l) = maxI (max x z) l := rfl
    rw [e]
    refine ⟨by omega, fun y hy => ?_⟩
    rcases List.mem_cons.mp hy with rfl | hy
    · omega
    · exact h2 y hy
theorem maxI_mem : ∀ (l : List Int) (x : Int), maxI x l = x ∨ maxI x l ∈ l
  | [], x => .inl rfl
  | z :: l, x => by
    have e : maxI x (z :: l) = maxI (max x z) l := rfl
    rw [e]
    rcases maxI_mem l (max x z) with h | h
    · rw [h]
      by_cases hz : x ≤ z
      · exact .inr (by rw [show max x z = z by omega]; exact List.mem_cons_self)
      · exact .inl (by omega)
    · exact .inr (List.mem_cons_of_mem _ h)
theorem minI_le : ∀ (l : List Int) (x : Int), minI x l ≤ x ∧ ∀ y ∈ l, minI x l ≤ y
  | [], x => ⟨Int.le_refl _, fun y h => by cases h⟩
  | z :: l, x => by
    obtain ⟨h1, h2⟩ := minI_le l (min x z)
    have e : minI x (z :: l) = minI (min x z) l := rfl
    rw [e]
    refine ⟨by omega, fun y hy => ?_⟩
    rcases List.mem_cons.mp hy with rfl | hy
    · omega
    · exact h2 y hy
theorem minI_mem : ∀ (l : List Int) (x : Int), minI x l = x ∨ minI x l ∈ l
  | [], x => .inl rfl
  | z :: l, x => by
    have e : minI x (z :: l) = minI (min x z) l := rfl
    rw [e]
    rcases minI_mem l (min x z) with h | h
    · rw [h]
      by_cases hz : x ≤ z
      · exact .inl (by omega)
      · exact .inr (by rw [show min x z = z by omega]; exact List.mem_cons_self)
    · exact .inr (List.mem_cons_of_mem _ h)
def maxL : List Int → Option Int
  | [] => none
  | x :: l => some (maxI x l)
def minL : List Int → Option Int
  | [] => none
  | x :: l => some (minI x l)
theorem maxL_is {l : List Int} {m n : Int} (h : maxL l = some n) (hm : m ∈ l) (hg : ∀ y ∈ l, y ≤ m) : m = n := by
  cases l with
  | nil => cases h
  | cons x l =>
    cases h
    obtain ⟨h1, h2⟩ := maxI_le l x
    have h3 : maxI x l ≤ m := by
      rcases maxI_mem l x with e | e
      · rw [e]; exact hg x List.mem_cons_self
      · exact hg _ (List.mem_cons_of_mem _ e)
    rcases List.mem_cons.mp hm with rfl | hm
    · omega
    · have := h2 m hm
      omega
theorem minL_is {l : List Int} {m n : Int} (h : minL l = some n) (hm : m ∈ l) (hg : ∀ y ∈ l, m ≤ y) : m = n := by
  cases l with
  | nil => cases h
  | cons x l =>
    cases h
    obtain ⟨h1, h2⟩ := minI_le l x
    have h3 : m ≤ minI x l := by
      rcases minI_mem l x with e | e
      · rw [e]; exact hg x List.mem_cons_self
      · exact hg _ (List.mem_cons_of_mem _ e)
    rcases List.mem_cons.mp hm with rfl | hm
    · omega
    · have := h2 m hm
      omega

/-! ### what the built-ins come to -/
def pLen (ds : List PyData) : R PyData := match ds with
  | [.list xs] => .ok (.int xs.length)
  | [.tuple xs] => .ok (.int xs.length)
  | [.str x] => if x.length ≤ 100000 then .ok (.int x.length) else .bad
  | _ => .bad
def pAbs (ds : List PyData) : R PyData := match ds with
  | [.int i] => .ok (.int (if i < 0 then -i else i))
  | _ => .bad
def pInt (ds : List PyData) : R PyData := match ds with
  | [.int i] => .ok (.int i)
  | [.bool b] => .ok (.int (if b then 1 else 0))
  | _ => .bad
def pAll (ds : List PyData) : R PyData := match ds with
  | [.list xs] => R.get (boolsD xs) >>= fun bs => .ok (.bool (bs.all id))
  | _ => .bad
def pAny (ds : List PyData) : R PyData := match ds with
  | [.list xs] => R.get (boolsD xs) >>= fun bs => .ok (.bool (bs.any id))
  | _ => .bad
def pSum (ds : List PyData) : R PyData := match ds with
  | [.list xs] => R.get (intsD xs) >>= fun ns => .ok (.int ns.sum)
  | [.tuple xs] => R.get (intsD xs) >>= fun ns => .ok (.int ns.sum)
  | _ => .bad
def pMax (ds : List PyData) : R PyData := match ds with
  | [.list xs] => R.get (intsD xs) >>= fun ns => R.get (maxL ns) >>= fun m => .ok (.int m)
  | [.tuple xs] => R.get (intsD xs) >>= fun ns => R.get (maxL ns) >>= fun m => .ok (.int m)
  | [.int i, .int j] => .ok (.int (if j > i then j else i))
  | _ => .bad
def pMin (ds : List PyData) : R PyData := match ds with
  | [.list xs] => R.get (intsD xs) >>= fun ns => R.get (minL ns) >>= fun m => .ok (.int m)
  | [.tuple xs] => R.get (intsD xs) >>= fun ns => R.get (minL ns) >>= fun m => .ok (.int m)
  | [.int i, .int j] => .ok (.int (if j < i then j else i))
  | _ => .bad
def pTuple (ds : List PyData) : R PyData := match ds with
  | [.list xs] => .ok (.tuple xs)
  | [.tuple xs] => .ok (.tuple xs)
  | _ => .bad
def pList (ds : List PyData) : R (List PyData) := match ds with
  | [.list xs] => .ok xs
  | [.tuple xs] => .ok xs
  | _ => .bad
def pSorted (ds : List PyData) : R (List PyData) := match ds with
  | [.list xs] => R.get (intsD xs) >>= fun ns => .ok ((srtI ns).map PyData.int)
  | _ => .bad
def pRepr (ds : List PyData) : R PyData := match ds with
  | [.list xs] => if nd (.list xs) = true ∧ (PyData.list xs).showable = true ∧ (PyData.list xs).hasDict = false ∧ (PyData.list xs).depth ≤ 64 ∧ (PyData.list xs).shown.length ≤ 100000 then .ok (.str (PyData.list xs).shown) else .bad
  | [.tuple xs] => if nd (.tuple xs) = true ∧ (PyData.tuple xs).showable = true ∧ (PyData.tuple xs).hasDict = false ∧ (PyData.tuple xs).depth ≤ 64 ∧ (PyData.tuple xs).shown.length ≤ 100000 then .ok (.str (PyData.tuple xs).shown) else .bad
  | _ => .bad
section
variable {C : Ct} {X : Cx} {H0 H : Hp} {σ : L2.St} {en : En} {a b c : Expr} {pos : Pos}
theorem rgs1 {α β : Type} {o : Option α} {f : α → R β} {z : β} (h : (R.get o >>= f) = .ok z) : ∃ a, o = some a ∧ f a = .ok z := by
  cases o with
  | none => cases h
  | some a => exact ⟨a, rfl, h⟩
theorem cr_lenA : CallR X (.builtin "len") (fun xs H Q => (∃ p ys, xs = [.ref p] ∧ (SqL X.K H p ys ∨ SqT X.K H p ys) ∧ Q (.int ys.length) H) ∨ ∃ z, xs = [.str z] ∧ z.length ≤ sizeLine ∧ Q (.int z.length) H) := call_len_seq.or call_len_str
theorem r_len : RuleC C (fun xs H Q => (∃ p ys, xs = [.ref p] ∧ (SqL C.K H p ys ∨ SqT C.K H p ys) ∧ Q (.int ys.length) H) ∨ ∃ z, xs = [.str z] ∧ z.length ≤ sizeLine ∧ Q (.int z.length) H) pLen := fun H0 H vs ds d Q g r e o => by
  unfold pLen at e
  split at e
  · cases e
    obtain ⟨v, rfl, rr⟩ := rpxs1 r
    obtain ⟨a, ws, rfl, h1, h2⟩ := rr.list g.ex
    exact .inl ⟨a, ws, rfl, .inl (.inl h1), o.now g (by rw [h2.length]; exact .int _)⟩
  · cases e
    obtain ⟨v, rfl, rr⟩ := rpxs1 r
    obtain ⟨a, ws, rfl, h1, h2⟩ := rr.tup g.ex
    exact .inl ⟨a, ws, rfl, .inr h1, o.now g (by rw [h2.length]; exact .int _)⟩
  · split at e
    · rename_i hl
      cases e
      obtain ⟨v, rfl, rr⟩ := rpxs1 r
      rw [rr.str]
      exact .inr ⟨_, rfl, sz_of hl, o.now g (.int _)⟩
    · cases e
  · cases e
theorem r_abs : RuleC C (fun xs H Q => ∃ i, xs = [.int i] ∧ Q (.int (if i < 0 then -i else i)) H) pAbs := fun H0 H vs ds d Q g r e o => by
  unfold pAbs at e
  split at e
  · cases e
    obtain ⟨v, rfl, rr⟩ := rpxs1 r
    rw [rr.int]
    exact ⟨_, rfl, o.now g (.int _)⟩
  · cases e
theorem r_int : RuleC C (fun xs H Q => (∃ i, xs = [.int i] ∧ Q (.int i) H) ∨ ∃ k, xs = [.bl k] ∧ Q (.int (if k then 1 else 0)) H) pInt := fun H0 H vs ds d Q g r e o => by
  unfold pInt at e
  split at e
  · cases e
    obtain ⟨v, rfl, rr⟩ := rpxs1 r
    rw [rr.int]
    exact .inl ⟨_, rfl, o.now g (.int _)⟩
  · cases e
    obtain ⟨v, rfl, rr⟩ := rpxs1 r
    rw [rr.bl]
    exact .inr ⟨_, rfl, o.now g (.int _)⟩
  · cases e
theorem r_all : RuleC C (rAll C.K) pAll := fun H0 H vs ds d Q g r e o => by
  unfold pAll at e
  split at e
  · obtain ⟨bs, h1, h2⟩ := rgs1 e
    cases h2
    obtain ⟨v, rfl, rr⟩ := rpxs1 r
    obtain ⟨a, ws, rfl, h3, h4⟩ := rr.list g.ex
    rw [boolsD_eq h1] at h4
    rw [h4.bools] at h3
    exact ⟨a, bs, rfl, .inl h3, o.now g (.bl _)⟩
  · cases e
theorem r_any : RuleC C (rAny C.K) pAny := fun H0 H vs ds d Q g r e o => by
  unfold pAny at e
  split at e
  · obtain ⟨bs, h1, h2⟩ := rgs1 e
    cases h2
    obtain ⟨v, rfl, rr⟩ := rpxs1 r
    obtain ⟨a, ws, rfl, h3, h4⟩ := rr.list g.ex
    rw [boolsD_eq h1] at h4
    rw [h4.bools] at h3
    exact ⟨a, bs, rfl, .inl h3, o.now g (.bl _)⟩
  · cases e
theorem cr_sumA (hc : X.calm = true) : CallR X (.builtin "sum") (fun xs H Q => rSum X.K xs H Q ∨ rSumT X.K xs H Q) := (cr_sum hc).or (cr_sumT hc)
theorem r_sum : RuleC C (fun xs H Q => rSum C.K xs H Q ∨ rSumT C.K xs H Q) pSum := fun H0 H vs ds d Q g r e o => by
  unfold pSum at e
  split at e
  · obtain ⟨ns, h1, h2⟩ := rgs1 e
    cases h2
    obtain ⟨v, rfl, rr⟩ := rpxs1 r
    obtain ⟨a, ws, rfl, h3, h4⟩ := rr.list g.ex
    rw [intsD_eq h1] at h4
    rw [h4.ints] at h3
    exact .inl ⟨a, ns, rfl, .inl h3, o.now g (.int _)⟩
  · obtain ⟨ns, h1, h2⟩ := rgs1 e
    cases h2
    obtain ⟨v, rfl, rr⟩ := rpxs1 r
    obtain ⟨a, ws, rfl, h3, h4⟩ := rr.tup g.ex
    rw [intsD_eq h1] at h4
    rw [h4.ints] at h3
    exact .inr ⟨a, ns, rfl, h3, o.now g (.int _)⟩
  · cases e
theorem cr_maxA (hc : X.calm = true) : CallR X (.builtin "max") (fun xs H Q => (rMax X.K xs H Q ∨ rMaxT X.K xs H Q) ∨ ∃ i j, xs = [.int i, .int j] ∧ Q (.int (if j > i then j else i)) H) := ((cr_max hc).or (cr_maxT hc)).or (call_max2 hc)
theorem maxL_pos {ns : List Int} {m : Int} (h : maxL ns = some m) : 0 < ns.length := by cases ns with
  | nil => cases h
  | cons x l => simp
theorem minL_pos {ns : List Int} {m : Int} (h : minL ns = some m) : 0 < ns.length := by cases ns with
  | nil => cases h
  | cons x l => simp
theorem r_max : RuleC C (fun xs H Q => (rMax C.K xs H Q ∨ rMaxT C.K xs H Q) ∨ ∃ i j, xs = [.int i, .int j] ∧ Q (.int (if j > i then j else i)) H) pMax := fun H0 H vs ds d Q g r e o => by
  unfold pMax at e
  split at e
  · obtain ⟨ns, h1, h2⟩ := rgs1 e
    obtain ⟨m, h5, h2⟩ := rgs1 h2
    cases h2
    obtain ⟨v, rfl, rr⟩ := rpxs1 r
    obtain ⟨a, ws, rfl, h3, h4⟩ := rr.list g.ex
    rw [intsD_eq h1] at h4
    rw [h4.ints] at h3
    exact .inl (.inl ⟨a, ns, rfl, .inl h3, maxL_pos h5, fun k h6 h7 => o.now g (by rw [maxL_is h5 h6 h7]; exact .int _)⟩)
  · obtain ⟨ns, h1, h2⟩ := rgs1 e
    obtain ⟨m, h5, h2⟩ := rgs1 h2
    cases h2
    obtain ⟨v, rfl, rr⟩ := rpxs1 r
    obtain ⟨a, ws, rfl, h3, h4⟩ := rr.tup g.ex
    rw [intsD_eq h1] at h4
    rw [h4.ints] at h3
    exact .inl (.inr ⟨a, ns, rfl, h3, maxL_pos h5, fun k h6 h7 => o.now g (by rw [maxL_is h5 h6 h7]; exact .int _)⟩)
  · cases e
    obtain ⟨v, w, rfl, r1, r2⟩ := rpxs2 r
    rw [r1.int, r2.int]
    exact .inr ⟨_, _, rfl, o.now g (.int _)⟩
  · cases e
theorem cr_minA (hc : X.calm = true) : CallR X (.builtin "min") (fun xs H Q => (rMin X.K xs H Q ∨ rMinT X.K xs H Q) ∨ ∃ i j, xs = [.int i, .int j] ∧ Q (.int (if j < i then j else i)) H) := ((cr_min hc).or (cr_minT hc)).or (call_min2 hc)
theorem r_min : RuleC C (fun xs H Q => (rMin C.K xs H Q ∨ rMinT C.K xs H Q) ∨ ∃ i j, xs = [.int i, .int j] ∧ Q (.int (if j < i then j else i)) H) pMin := fun H0 H vs ds d Q g r e o => by
  unfold pMin at e
  split at e
  · obtain ⟨ns, h1, h2⟩ := rgs1 e
    obtain ⟨m, h5, h2⟩ := rgs1 h2
    cases h2
    obtain ⟨v, rfl, rr⟩ := rpxs1 r
    obtain ⟨a, ws, rfl, h3, h4⟩ := rr.list g.ex
    rw [intsD_eq h1] at h4
    rw [h4.ints] at h3
    exact .inl (.inl ⟨a, ns, rfl, .inl h3, minL_pos h5, fun k h6 h7 => o.now g (by rw [minL_is h5 h6 h7]; exact .int _)⟩)
  · obtain ⟨ns, h1, h2⟩ := rgs1 e
    obtain ⟨m, h5, h2⟩ := rgs1 h2
    cases h2
    obtain ⟨v, rfl, rr⟩ := rpxs1 r
    obtain ⟨a, ws, rfl, h3, h4⟩ := rr.tup g.ex
    rw [intsD_eq h1] at h4
    rw [h4.ints] at h3
    exact .inl (.inr ⟨a, ns, rfl, h3, minL_pos h5, fun k h6 h7 => o.now g (by rw [minL_is h5 h6 h7]; exact .int _)⟩)
  · cases e
    obtain ⟨v, w, rfl, r1, r2⟩ := rpxs2 r
    rw [r1.int, r2.int]
    exact .inr ⟨_, _, rfl, o.now g (.int _)⟩
  · cases e
theorem tup_of {v : V} {ds : List PyData} (r : RpX C.K H0 H v (.tuple ds)) : Rp C.K H0 v (.tuple ds) := by
  rcases r with h | ⟨p, ws, es, rfl, e, _⟩
  · exact h
  · cases e
theorem r_tuple : RuleC C (fun xs H Q => ∃ p ys, xs = [.ref p] ∧ ((SqL C.K H p ys ∧ ∀ l, H l = none → Q (.ref l) (upd H l (.tup ys))) ∨ (SqT C.K H p ys ∧ Q (.ref p) H))) pTuple := fun H0 H vs ds d Q g r e o => by
  unfold pTuple at e
  split at e
  · cases e
    obtain ⟨v, rfl, rr⟩ := rpxs1 r
    obtain ⟨a, ws, rfl, h3, h4⟩ := rr.list g.ex
    exact ⟨a, ws, rfl, .inl ⟨.inl h3, fun l hl => o _ _ _ (Fm.new g.ex hl) (g.new hl fun _ z => by cases z) (.tup (SqT.of upd_same) (h4.mono (Ex.new (fresh_back g.ex hl))))⟩⟩
  · cases e
    obtain ⟨v, rfl, rr⟩ := rpxs1 r
    obtain ⟨a, ws, rfl, h3, h4⟩ := rr.tup g.ex
    exact ⟨a, ws, rfl, .inr ⟨h3, o.now g (tup_of rr)⟩⟩
  · cases e
theorem r_list : RuleCN C (fun xs H Q => ∃ p ys, xs = [.ref p] ∧ (SqL C.K H p ys ∨ SqT C.K H p ys) ∧ ∀ l, H l = none → Q (.ref l) (upd H l (.lst ys))) pList := fun H0 H vs ds es Q g r e o => by
  unfold pList at e
  split at e
  · cases e
    obtain ⟨v, rfl, rr⟩ := rpxs1 r
    obtain ⟨a, ws, rfl, h3, h4⟩ := rr.list g.ex
    exact ⟨a, ws, rfl, .inl (.inl h3), fun l hl => o l _ _ (Fm.newO hl) (g.newO hl) hl upd_same h4⟩
  · cases e
    obtain ⟨v, rfl, rr⟩ := rpxs1 r
    obtain ⟨a, ws, rfl, h3, h4⟩ := rr.tup g.ex
    exact ⟨a, ws, rfl, .inr h3, fun l hl => o l _ _ (Fm.newO hl) (g.newO hl) hl upd_same h4⟩
  · cases e
theorem r_sorted : RuleCN C (rSortedI C.K) pSorted := fun H0 H vs ds es Q g r e o => by
  unfold pSorted at e
  split at e
  · obtain ⟨ns, h1, h2⟩ := rgs1 e
    cases h2
    obtain ⟨v, rfl, rr⟩ := rpxs1 r
    obtain ⟨a, ws, rfl, h3, h4⟩ := rr.list g.ex
    rw [intsD_eq h1] at h4
    rw [h4.ints] at h3
    refine ⟨a, ns, rfl, .inl h3, fun ns' p h5 h6 hp => o p _ _ (Fm.newO hp) (g.newO hp) hp upd_same ?_⟩
    rw [srtI_uniq h5 h6]
    exact RpAll.of_ints _
  · cases e
theorem r_repr : RuleC C (rRepr C.K) pRepr := fun H0 H vs ds d Q g r e o => by
  unfold pRepr at e
  split at e
  · split at e
    · rename_i hm
      cases e
      obtain ⟨v, rfl, rr⟩ := rpxs1 r
      obtain ⟨a, ws, rfl, h3, h4⟩ := rr.list g.ex
      exact ⟨a, _, rfl, (rr.mono g.ex).dp hm.1, hm.2.1, hm.2.2.1, hm.2.2.2.1, sz_of hm.2.2.2.2, o.now g (.str _)⟩
    · cases e
  · split at e
    · rename_i hm
      cases e
      obtain ⟨v, rfl, rr⟩ := rpxs1 r
      obtain ⟨a, ws, rfl, h3, h4⟩ := rr.tup g.ex
      exact ⟨a, _, rfl, (rr.mono g.ex).dp hm.1, hm.2.1, hm.2.2.1, hm.2.2.2.1, sz_of hm.2.2.2.2, o.now g (.str _)⟩
    · cases e
  · cases e
/-- xs * n -/
theorem r_rep : Rule2N C rRepR pRep := fun H0 H x y dx dy ds Q g rx ry e o => by
  unfold pRep at e
  split at e
  · split at e
    · rename_i xs n hm
      cases e
      obtain ⟨a, vs, e1, e2, e3⟩ := rx.list g.ex
      have key : RpAll C.K H0 (List.replicate n.toNat vs).flatten (List.replicate n.toNat xs).flatten := by
        generalize n.toNat = m
        induction m with
        | zero => exact .nil
        | succ m ih => rw [List.replicate_succ, List.replicate_succ, List.flatten_cons, List.flatten_cons]; exact e3.append ih
      refine ⟨a, n, vs, e1, ry.int, e2, by omega, by omega, sz_of ?_, fun p hp => o p _ _ (Fm.newO hp) (g.newO hp) hp upd_same key⟩
      rw [e3.length]
      have := Nat.mul_le_mul hm.2.2 (show n.toNat ≤ 1000 by omega)
      omega
    · cases e
  · cases e
/-- the kind of a value -/
def isD (T : String) (d : PyData) : R PyData := R.get (tyD d) >>= fun U => R.get (kitB U T) >>= fun b => .ok (.bool b)
theorem de_isi {F : Sem' Op} {T : String} {x t : Str} {p1 p2 : Pos} (hK : C.K = X.K) (ha : PE X a (tO C F)) (hx : x = "isinstance") (hg : Gl X x) (hm : X.mg x = none) (hg2 : Gl X t) (hm2 : X.mg t = none) (hv2 : bootBuiltins t = some (.type T))
    (hn2 : t ≠ "__name__" := by decide) (hd2 : (t == ("__debug__" : Str)) = false := by decide)
    (hs : starEach [.Name t p2] X.env = [(false, eval (.Name t p2) X.env)] := by rfl)
    (he : starEach (a :: [.Name t p2]) X.env = (false, eval a X.env) :: starEach [.Name t p2] X.env := by rfl) (hpl : (backTo pos (starEach [.Name t p2] X.env)).any (·.1) = false := by rfl) :
    PE X (.Call (.Name x p1) [a, .Name t p2] [] pos) (tE C (d1 (isD T) F)) := by
  subst hx
  refine (pe_callB (call_isi (X := X)) hg hm (by rfl) (pa_cons ha (pa_cons (pe_bltn (v := .ty T) hg2 hm2 hv2 rfl hn2 hd2) pa_nil hs) he) (by decide) (by decide) he hpl).imp fun σ H Q ⟨H0, en, s, p⟩ => ?_
  refine d1_go (K' := fun x H2 => rIsi X.K [x, .ty T] H2 Q) idO s p fun H01 H1 en1 x dx z s1 _ rx e p1 => ?_
  unfold isD at e
  obtain ⟨U, h0, h2⟩ := rgs1 e
  obtain ⟨b, h1, h2⟩ := rgs1 h2
  cases h2
  refine ⟨x, .ty T, .type U, .type T, b, rfl, .ty T, hK ▸ tyx_of (rx.mono s1.ex) h0, kit_ty h1, p1 H01 H1 _ Stp.refl s1 (.bl b)⟩

/-! ### chains of two comparisons -/
theorem post_at {α : Type} {rel : En → Hp → Hp → V → α → Prop} {Q : VK} {x : R (α × En)} {H0' H' : Hp} {en' : En} (h : Post C rel H0 H σ en Q x) (st : Stp σ en H0 H σ en' H0' H') : Post C rel H0' H' σ en' Q x := by
  cases x with
  | ok q => exact fun H02 H2 v st2 sr r => h H02 H2 v (st.trans st2) sr r
  | exc n => exact Ct.err_at h st.fm st.ow
  | bad => exact h
theorem chain_go {F G I : Sem' Op} {op op' : PyData → PyData → R PyData} {r r' : R2} (hr : Rule2 C r op) (hr' : Rule2 C r' op') {Q : VK} (s : SR C.K C.T H0 H σ en) (p : Post C (fun _ H0' _ v a => Rp C.K H0' v a) H0 H σ en Q (dChain op op' F G I en)) : tChain r r' (tO C F) (tO C G) (tO C I) σ H Q := by
  refine ⟨H0, en, s, post_bind (rel2 := fun _ H0' _ v a => Rp C.K H0' v a) (f := fun x e1 => G e1 >>= fun q => lift (x.res q.2) >>= fun x => lift (q.1.res q.2) >>= fun y => lift (op x y) >>= fun z => match z with
    | .bool b => if b then I q.2 >>= fun r => lift (q.1.res r.2) >>= fun y' => lift (r.1.res r.2) >>= fun w => lift (op' y' w) >>= fun z' => .ok (z', r.2) else .ok (.bool false, q.2)
    | _ => .bad) (Q2 := Q) p ?_⟩
  intro x en1 H01 H1 v1 _ st1 s1 r1 p1
  refine ⟨H01, en1, s1, post_bind (rel2 := fun _ H0' _ v a => Rp C.K H0' v a) (f := fun y e2 => lift (x.res e2) >>= fun x => lift (y.res e2) >>= fun y' => lift (op x y') >>= fun z => match z with
    | .bool b => if b then I e2 >>= fun r => lift (y.res r.2) >>= fun y' => lift (r.1.res r.2) >>= fun w => lift (op' y' w) >>= fun z' => .ok (z', r.2) else .ok (.bool false, e2)
    | _ => .bad) (Q2 := Q) p1 ?_⟩
  intro y en2 H02 H2 v2 _ st2 s2 r2 p2
  cases e1 : x.res en2 with
  | exc n => rw [e1] at p2; exact p2.elim
  | bad => rw [e1] at p2; exact p2.elim
  | ok dx =>
    rw [e1] at p2
    cases e2 : y.res en2 with
    | exc n => rw [e2] at p2; exact p2.elim
    | bad => rw [e2] at p2; exact p2.elim
    | ok dy =>
      rw [e2] at p2
      have p2 : Post C (fun _ H0' _ v a => Rp C.K H0' v a) H02 H2 σ en2 Q (lift (op dx dy) >>= fun z => match z with
        | .bool b => if b then I en2 >>= fun r => lift (y.res r.2) >>= fun y' => lift (r.1.res r.2) >>= fun w => lift (op' y' w) >>= fun z' => .ok (z', r.2) else .ok (.bool false, en2)
        | _ => .bad) := p2
      cases e3 : op dx dy with
      | exc n => rw [e3] at p2; exact p2.elim
      | bad => rw [e3] at p2; exact p2.elim
      | ok z =>
        rw [e3] at p2
        refine hr H02 H2 v1 v2 dx dy z _ s2.good (OpdR.res s2 (r1.mono st2.fm.ex) e1) (OpdR.res s2 r2 e2) e3 fun H03 H3 w fm g3 rz => ?_
        have s3 := s2.grown fm g3
        cases z with
        | bool b =>
          cases rz
          refine ⟨b, rfl, ?_⟩
          cases b with
          | false =>
            rw [if_neg Bool.false_ne_true]
            exact p2 H03 H3 _ fm.stp s3 (.bl false)
          | true =>
            rw [if_pos rfl]
            have p3 := post_at (en' := en2) p2 fm.stp
            refine ⟨H03, en2, s3, post_bind (rel2 := fun _ H0' _ v a => Rp C.K H0' v a) (f := fun r e => lift (y.res e) >>= fun y' => lift (r.res e) >>= fun w => lift (op' y' w) >>= fun z' => .ok (z', e)) (Q2 := Q) p3 ?_⟩
            intro u en4 H04 H4 v4 _ st4 s4 r4 p4
            cases e4 : y.res en4 with
            | exc n => rw [e4] at p4; exact p4.elim
            | bad => rw [e4] at p4; exact p4.elim
            | ok dy' =>
              rw [e4] at p4
              cases e5 : u.res en4 with
              | exc n => rw [e5] at p4; exact p4.elim
              | bad => rw [e5] at p4; exact p4.elim
              | ok du =>
                rw [e5] at p4
                have p4 : Post C (fun _ H0' _ v a => Rp C.K H0' v a) H04 H4 σ en4 Q (lift (op' dy' du) >>= fun z' => .ok (z', en4)) := p4
                cases e6 : op' dy' du with
                | exc n => rw [e6] at p4; exact p4.elim
                | bad => rw [e6] at p4; exact p4.elim
                | ok z' =>
                  rw [e6] at p4
                  exact hr' H04 H4 v2 v4 dy' du z' Q s4.good (OpdR.res s4 ((r2.mono fm.ex).mono st4.fm.ex) e4) (OpdR.res s4 r4 e5) e6 (out_post s4 p4)
        | _ => exact p2.elim
theorem de_chain {F G I : Sem' Op} {op op' : CmpOp} {r r' : R2} {f f' : PyData → PyData → R PyData} (ho : OpR X (compareOp op) r) (ho' : OpR X (compareOp op') r') (hr : Rule2 C r f) (hr' : Rule2 C r' f') (ha : PE X a (tO C F)) (hb : PE X b (tO C G)) (hc : PE X c (tO C I))
    (hm : lastMarks [op, op'] [b, c] = false := by with_unfolding_all rfl) : PE X (.Compare a [op, op'] [b, c] pos) (tE C (dChain f f' F G I)) :=
  (pe_chain ho ho' ha hb hc hm).imp fun σ H Q ⟨H0, en, s, p⟩ => chain_go hr hr' s p
theorem dt_chain {F G I : Sem' Op} {op op' : CmpOp} {r r' : R2} {f f' : PyData → PyData → R PyData} (ho : OpR X (compareOp op) r) (ho' : OpR X (compareOp op') r') (hr : Rule2 C r f) (hr' : Rule2 C r' f') (ha : PE X a (tO C F)) (hb : PE X b (tO C G)) (hc : PE X c (tO C I))
    (hm : lastMarks [op, op'] [b, c] = false := by with_unfolding_all rfl) : PT X (.Compare a [op, op'] [b, c] pos) (tT C (dB (dChain f f' F G I))) :=
  dt_of (pt_chain ho ho' ha hb hc hm) fun σ H Q ⟨H0, en, s, p⟩ => chain_go hr hr' s p
/-! ### a module's constants -/
theorem de_glob {x : Str} {v : V} {u : Value} {d : PyData} (hg : Gl X x) (hm : X.mg x = some u) (r : RelV v u) (hd : (x == ("__debug__" : Str)) = false := by decide) (rd : ∀ K H, Rp K H v d) : PE X (.Name x pos) (tE C (dC d)) := de_c (pe_glob hg hm r hd) rd
theorem de_globI {x : Str} {i : Int} {t : Tok} (hg : Gl X x) (hm : X.mg x = some (.int i t)) (hd : (x == ("__debug__" : Str)) = false := by decide) : PE X (.Name x pos) (tE C (dC (.int i))) := de_glob (v := .int i) hg hm ⟨t, rfl⟩ hd fun _ _ => .int i

/-! ### methods of lists that change nothing -/
def asList (x : PyData) : R Unit := match x with
  | .list _ => .ok ()
  | _ => .bad
def dM (op : PyData → PyData → R PyData) (F G : Sem' Op) : Sem' PyData := fun en => F en >>= fun p => lift (p.1.res p.2) >>= fun x0 => lift (asList x0) >>= fun _ => G p.2 >>= fun q => lift (p.1.res q.2) >>= fun x => lift (q.1.res q.2) >>= fun y => lift (op x y) >>= fun z => .ok (z, q.2)
theorem de_mt {T : String} {id : String} {name : Str} {m : V → List V → Hp → VK → Prop} {F G : Sem' Op} {f : PyData → PyData → R PyData} {apos cpos : Pos} (hT : T = "list") (hK : C.K = X.K) (pa : PlainAttrs T) (slot : Slot T name id) (hty : typeOf (.builtin id) = pure (.type "method_descriptor")) (hm : MtR X id m) (hr : Rule2 C (fun x y H Q => m x [y] H Q) f)
    (ho : PE X a (tO C F)) (he : PE X b (tO C G)) (hbase : attributeBase a name X.env (eval a X.env) = eval a X.env := by rfl)
    (hfew : ((backTo cpos (starEach (b :: []) X.env)).all (fun x => !x.1) && (backToKw cpos (keywordEach [] X.env)).all (fun x => x.1.isSome)
      && decide ((b :: ([] : List Expr)).length + ([] : List Keyword).length + (if ([] : List Keyword).isEmpty then 0 else 1) < 30)) = true := by rfl)
    (hline : (apos.endLine == cpos.line) = true := by rfl) (hs : starEach (b :: []) X.env = (false, eval b X.env) :: starEach [] X.env := by rfl) (hplain : (backTo cpos (starEach [] X.env)).any (·.1) = false := by rfl) :
    PE X (.Call (.Attribute a name apos) [b] [] cpos) (tE C (dM f F G)) :=
  (pe_bm pa slot hty hm ho (pa_cons he pa_nil hs) hbase hfew hline hs hplain).imp fun σ H Q ⟨H0, en, sr, p⟩ => by
    refine ⟨H0, en, sr, post_bind (rel2 := fun _ H0' _ v a => Rp C.K H0' v a) (f := fun x e1 => lift (x.res e1) >>= fun x0 => lift (asList x0) >>= fun _ => G e1 >>= fun q => lift (x.res q.2) >>= fun x => lift (q.1.res q.2) >>= fun y => lift (f x y) >>= fun z => .ok (z, q.2)) (Q2 := Q) p ?_⟩
    intro x en1 H01 H1 v1 _ st1 s1 r1 p1
    cases e0 : x.res en1 with
    | exc n => rw [e0] at p1; exact p1.elim
    | bad => rw [e0] at p1; exact p1.elim
    | ok d0 =>
      rw [e0] at p1
      cases d0 with
      | list xs0 =>
        obtain ⟨q0, ws0, ev, h3, h4⟩ := (OpdR.res s1 r1 e0).list s1.ex
        subst ev hT
        refine ⟨.inl ⟨rfl, ws0, .inl h3⟩, H01, en1, s1, post_bind (rel2 := fun _ H0' _ v a => Rp C.K H0' v a) (f := fun y e2 => lift (x.res e2) >>= fun x => lift (y.res e2) >>= fun y => lift (f x y) >>= fun z => .ok (z, e2)) (Q2 := Q) p1 ?_⟩
        intro y en2 H02 H2 v2 _ st2 s2 r2 p2
        cases e1 : x.res en2 with
        | exc n => rw [e1] at p2; exact p2.elim
        | bad => rw [e1] at p2; exact p2.elim
        | ok dx =>
          rw [e1] at p2
          cases e2 : y.res en2 with
          | exc n => rw [e2] at p2; exact p2.elim
          | bad => rw [e2] at p2; exact p2.elim
          | ok dy =>
            rw [e2] at p2
            have p2 : Post C (fun _ H0' _ v a => Rp C.K H0' v a) H02 H2 σ en2 Q (lift (f dx dy) >>= fun z => .ok (z, en2)) := p2
            cases e3 : f dx dy with
            | exc n => rw [e3] at p2; exact p2.elim
            | bad => rw [e3] at p2; exact p2.elim
            | ok z =>
              rw [e3] at p2
              exact hr H02 H2 _ v2 dx dy z Q s2.good (OpdR.res s2 (r1.mono st2.fm.ex) e1) (OpdR.res s2 r2 e2) e3 (out_post s2 p2)
      | _ => exact p1.elim
end
end PD
end
section
namespace PD
open PySem PySem.Spec PyProof.Rows L2 Evl

/-! ### zip, enumerate -/
def isT : PyData → Bool
  | .tuple _ => true
  | _ => false
def zipD (xs ys : List PyData) : List PyData := (xs.zip ys).map fun p => .tuple [p.1, p.2]
def enumD (xs : List PyData) : List PyData := xs.zipIdx.map fun p => .tuple [.int (p.2 : Int), p.1]
def zip2 (os : List PyData) : R (List PyData) := match os with
  | [d, e] => seqOf d >>= fun xs => seqOf e >>= fun ys => .ok (zipD xs ys)
  | _ => .bad
def enum1 (os : List PyData) : R (List PyData) := match os with
  | [d] => seqOf d >>= fun xs => .ok (enumD xs)
  | _ => .bad
section
variable {C : Ct} {X : Cx} {H0 H H0' H' : Hp} {σ : L2.St} {en en' : En} {a b c tg : Expr} {pos tpos : Pos} {elts : List Expr} {kk : Nat}
theorem rok {α β : Type} {x : R α} {f : α → R β} {z : β} (h : (x >>= f) = .ok z) : ∃ a, x = .ok a ∧ f a = .ok z := by
  cases x with
  | ok a => exact ⟨a, rfl, h⟩
  | exc n => cases h
  | bad => cases h
theorem sq_of {v : V} {d : PyData} {ds : List PyData} (h : RpX C.K H0 H v d) (e : seqOf d = .ok ds) (hx : Ex H0 H) : ∃ a ws, v = .ref a ∧ Sq C.K H (isT d) a ws ∧ RpAll C.K H0 ws ds := by
  cases d <;> first | (cases e; done) | skip
  · cases e
    obtain ⟨a, ws, rfl, h1, h2⟩ := h.list hx
    exact ⟨a, ws, rfl, .inl h1, h2⟩
  · cases e
    obtain ⟨a, ws, rfl, h1, h2⟩ := h.tup hx
    exact ⟨a, ws, rfl, h1, h2⟩
theorem new_tup {vs : List V} {ds : List PyData} {T : Addr} (g : Good C H0 H) (hT : H T = none) (r : RpAll C.K H0 vs ds) : Fm (fun _ => False) H0 H (upd H0 T (.tup vs)) (upd H T (.tup vs)) ∧ Good C (upd H0 T (.tup vs)) (upd H T (.tup vs)) ∧ Rp C.K (upd H0 T (.tup vs)) (.ref T) (.tuple ds) :=
  ⟨Fm.new g.ex hT, g.new hT (fun _ z => by cases z), .tup (SqT.of upd_same) (r.mono (Ex.new (fresh_back g.ex hT)))⟩
theorem itzu_d {d e : PyData} {xs ys : List PyData} {a1 a2 : Addr} (h1 : seqOf d = .ok xs) (h2 : seqOf e = .ok ys) : ItD C (Itzu C.K (isT d) (isT e) a1 a2) (zipD xs ys) (fun H0' H' => RpXs C.K H0' H' [.ref a1, .ref a2] [d, e]) where
  go := fun H0' H' i x hp g hx => by
    obtain ⟨p1, ws1, e1, s1, r1⟩ := sq_of hp.1 h1 g.ex
    obtain ⟨p2, ws2, e2, s2, r2⟩ := sq_of hp.2.1 h2 g.ex
    cases e1
    cases e2
    unfold zipD at hx
    rw [List.getElem?_map] at hx
    obtain ⟨⟨x1, y1⟩, hz, rfl⟩ := Option.map_eq_some_iff.mp hx
    rw [List.getElem?_zip_eq_some] at hz
    obtain ⟨u, hu, ru⟩ := r1.get hz.1
    obtain ⟨w, hw, rw'⟩ := r2.get hz.2
    refine ⟨⟨ws1, ws2, u, w, s1, s2, hu, hw⟩, fun v H3 ⟨T, x, y, ev, hT, e3, k1, k2⟩ => ?_⟩
    have ex : u = x := by have := k1 ws1 s1; rw [hu] at this; exact Option.some.inj this
    have ey : w = y := by have := k2 ws2 s2; rw [hw] at this; exact Option.some.inj this
    subst ex ey ev e3
    exact ⟨_, new_tup g hT (.cons ru (.cons rw' .nil))⟩
  stop := fun H0' H' hp g => by
    obtain ⟨p1, ws1, e1, s1, r1⟩ := sq_of hp.1 h1 g.ex
    obtain ⟨p2, ws2, e2, s2, r2⟩ := sq_of hp.2.1 h2 g.ex
    cases e1
    cases e2
    exact ⟨ws1, ws2, s1, s2, by rw [r1.length, r2.length]; simp [zipD]⟩
theorem di_zip {F : Sem' (List Op)} {p : Pos} (hK : C.K = X.K) (hg : Gl X "zip") (hm : X.mg "zip" = none) (ha : PA X [a, b] (tA C F))
    (hs : starEach [a, b] X.env = (false, eval a X.env) :: starEach [b] X.env := by rfl) (hpl : (backTo pos (starEach [b] X.env)).any (·.1) = false := by rfl) :
    PI X (.Tuple elts kk tpos) (.Call (.Name "zip" p) [a, b] [] pos) (tI C (itA zip2 F)) :=
  (pi_zipU hg hm ha hs hpl).imp fun σ H Rk ⟨H0, en, s, p⟩ => dI_go s p fun H01 H1 en1 vs ds z s1 r e k => by
    unfold zip2 at e
    split at e
    · rename_i d d'
      obtain ⟨xs, h1, e⟩ := rok e
      obtain ⟨ys, h2, e⟩ := rok e
      cases e
      obtain ⟨v, w, rfl, rv, rw'⟩ := rpxs2 r
      obtain ⟨p1, ws1, e1, s1', r1⟩ := sq_of rv h1 s1.ex
      obtain ⟨p2, ws2, e2, s2', r2⟩ := sq_of rw' h2 s1.ex
      subst e1 e2
      rw [← hK]
      exact ⟨_, _, p1, p2, ws1, ws2, rfl, s1', s2', k _ (itzu_d h1 h2)⟩
    · cases e
theorem iteu_d {d : PyData} {xs : List PyData} {a1 : Addr} (h1 : seqOf d = .ok xs) : ItD C (Iteu C.K (isT d) a1) (enumD xs) (fun H0' H' => RpXs C.K H0' H' [.ref a1] [d]) where
  go := fun H0' H' i x hp g hx => by
    obtain ⟨p1, ws1, e1, s1, r1⟩ := sq_of hp.1 h1 g.ex
    cases e1
    unfold enumD at hx
    rw [List.getElem?_map] at hx
    obtain ⟨⟨x1, j⟩, hz, rfl⟩ := Option.map_eq_some_iff.mp hx
    rw [List.getElem?_zipIdx] at hz
    obtain ⟨x2, hz', e⟩ := Option.map_eq_some_iff.mp hz
    cases e
    obtain ⟨u, hu, ru⟩ := r1.get hz'
    refine ⟨⟨ws1, u, s1, hu⟩, fun v H3 ⟨T, x, ev, hT, e3, k1⟩ => ?_⟩
    have ex : u = x := by have := k1 ws1 s1; rw [hu] at this; exact Option.some.inj this
    subst ex ev e3
    have q := new_tup g hT (.cons (.int ((i : Nat) : Int)) (.cons ru .nil))
    rw [show (0 + i : Nat) = i by omega]
    exact ⟨_, q⟩
  stop := fun H0' H' hp g => by
    obtain ⟨p1, ws1, e1, s1, r1⟩ := sq_of hp.1 h1 g.ex
    cases e1
    exact ⟨ws1, s1, by rw [r1.length]; simp [enumD]⟩
theorem di_enum {F : Sem' (List Op)} {p : Pos} (hK : C.K = X.K) (hg : Gl X "enumerate") (hm : X.mg "enumerate" = none) (ha : PA X [a] (tA C F))
    (hs : starEach [a] X.env = [(false, eval a X.env)] := by rfl) : PI X (.Tuple elts kk tpos) (.Call (.Name "enumerate" p) [a] [] pos) (tI C (itA enum1 F)) :=
  (pi_enumU hg hm ha hs).imp fun σ H Rk ⟨H0, en, s, p⟩ => dI_go s p fun H01 H1 en1 vs ds z s1 r e k => by
    unfold enum1 at e
    split at e
    · rename_i d
      obtain ⟨xs, h1, e⟩ := rok e
      cases e
      obtain ⟨v, rfl, rv⟩ := rpxs1 r
      obtain ⟨p1, ws1, e1, s1', r1⟩ := sq_of rv h1 s1.ex
      subst e1
      rw [← hK]
      exact ⟨_, p1, ws1, rfl, s1', k _ (iteu_d h1)⟩
    · cases e

/-! ### values that are stored -/
def rvD (F : Sem' PyData) : Sem' Rv := fun en => F en >>= fun p => .ok (.dat p.1, p.2)
def rvW (F : Sem' (List PyData)) : Sem' Rv := fun en => F en >>= fun p => .ok (.new p.1, p.2)
theorem dv_ofE {F : Sem' PyData} (h : PE X a (tE C F)) : PE X a (tV C (rvD F)) := h.imp fun σ H Q ⟨H0, en, s, p⟩ => ⟨H0, en, s, by
  unfold rvD at p
  cases e : F en with
  | exc n => rw [e] at p; exact p
  | bad => rw [e] at p; exact p
  | ok q => rw [e] at p; exact fun H0' H' v st sr r => p H0' H' v st sr r⟩
theorem dv_ofN {F : Sem' (List PyData)} (h : PE X a (tN C F)) : PE X a (tV C (rvW F)) := h.imp fun σ H Q ⟨H0, en, s, p⟩ => ⟨H0, en, s, by
  unfold rvW at p
  cases e : F en with
  | exc n => rw [e] at p; exact p
  | bad => rw [e] at p; exact p
  | ok q => rw [e] at p; exact fun H0' H' v st sr r => p H0' H' v st sr r⟩
def slOf : Rv → Sl
  | .dat d => .dat d
  | .new ds => .own false ds
def putE (i : Nat) (r : Rv) (en : En) : R En := if ioAt en i then .bad else .ok (en.set i (slOf r))
theorem putE_ok {i : Nat} {r : Rv} {e : En} (h : putE i r en = .ok e) : ioAt en i = false ∧ e = en.set i (slOf r) := by
  unfold putE at h
  split at h
  · cases h
  · rename_i z
    cases h
    exact ⟨by simpa using z, rfl⟩
variable {H01 H1 H02 H2 Hs Hs0 : Hp} {en1 en2 : En} {σ' : L2.St}
theorem rvr_later {v : V} {r : Rv} (h : RvR C.K σ Hs en1 H01 H1 v r) (st : Stp σ en1 H01 H1 σ en2 H02 H2) : RvR C.K σ Hs en2 H02 H2 v r := by
  cases r with
  | dat d => exact Rp.mono st.fm.ex h
  | new ds =>
    obtain ⟨p, ws, e1, e2, e3, e4, e5, e6⟩ := h
    exact ⟨p, ws, e1, e2, st.fm.fr p _ e3 e6 (fun _ z => by cases z), st.fm.nw p (nw_lst e3) e6 e4, e5.mono st.fm.ex, fun z => (st.ow p z).elim e6 fun z => nw_lst e3 z⟩
theorem rvr_back {v : V} {r : Rv} (h : RvR C.K σ Hs en1 H01 H1 v r) (k : ∀ p, Nw Hs p → Nw Hs0 p) : RvR C.K σ Hs0 en1 H01 H1 v r := by
  cases r with
  | dat d => exact h
  | new ds =>
    obtain ⟨p, ws, e1, e2, e3, e4, e5, e6⟩ := h
    exact ⟨p, ws, e1, k p e2, e3, e4, e5, e6⟩
/-- a pending value is stored -/
theorem rvr_put {v : V} {r : Rv} {i : Nat} {σ0 : L2.St} {en0 : En} (h : RvR C.K σ Hs en1 H01 H1 v r) (s : SR C.K C.T H01 H1 σ en1) (st : Stp σ0 en0 Hs0 Hs σ en1 H01 H1) (hi : ioAt en1 i = false) :
    SR C.K C.T H01 H1 (σ.set i (some v)) (en1.set i (slOf r)) ∧ Stp σ0 en0 Hs0 Hs (σ.set i (some v)) (en1.set i (slOf r)) H01 H1 := by
  cases r with
  | dat d => exact ⟨set_sr s h, st.trans (set_stp hi)⟩
  | new ds =>
    obtain ⟨p, ws, e1, e2, e3, e4, e5, e6⟩ := h
    subst e1
    refine ⟨own_sr s e3 e4 e5 e6, ⟨st.fm, fun q ⟨j, io, es, h1, h2⟩ => ?_, fun j es h => ?_⟩⟩
    · by_cases z : i = j
      · subst z
        have hl : i < σ.length := by
          have := (List.getElem?_eq_some_iff.mp h2).1
          rwa [List.length_set] at this
        rw [List.getElem?_set_self hl] at h2
        cases h2
        exact .inr e2
      · rw [List.getElem?_set_ne z] at h1 h2
        exact st.ow q ⟨j, io, es, h1, h2⟩
    · obtain ⟨q1, ds', h'⟩ := st.io j es h
      have z : i ≠ j := fun z => by subst z; exact ioAt_no hi h'
      rw [List.getElem?_set_ne z, List.getElem?_set_ne z]
      exact ⟨q1, ds', h'⟩
/-- while another, older one is stored -/
theorem rvr_beside {v w : V} {r r' : Rv} {i : Nat} (h : RvR C.K σ Hs en1 H01 H1 v r) (k : RvR C.K σ Hs0 en1 H01 H1 w r') (old : ∀ p, v = .ref p → r ≠ .dat .none → Nw Hs0 p → ∀ ds, r' = .new ds → r = .dat .none ∨ w ≠ .ref p ∨ ∃ d, r = .dat d) : RvR C.K (σ.set i (some v)) Hs0 (en1.set i (slOf r)) H01 H1 w r' := by
  cases r' with
  | dat d => exact k
  | new ds =>
    obtain ⟨p, ws, e1, e2, e3, e4, e5, e6⟩ := k
    subst e1
    refine ⟨p, ws, rfl, e2, e3, e4, e5, fun ⟨j, io, es, h1, h2⟩ => ?_⟩
    by_cases z : i = j
    · subst z
      have hl : i < σ.length := by
        have := (List.getElem?_eq_some_iff.mp h2).1
        rwa [List.length_set] at this
      rw [List.getElem?_set_self hl] at h2
      have ev : v = .ref p := Option.some.inj (Option.some.inj h2)
      have hl' : i < en1.length := by
        have := (List.getElem?_eq_some_iff.mp h1).1
        rwa [List.length_set] at this
      rw [List.getElem?_set_self hl'] at h1
      cases r with
      | dat d => cases h1
      | new ds' =>
        rcases old p ev (fun z => by cases z) e2 ds rfl with q | q | ⟨d, q⟩
        · cases q
        · exact q rfl
        · cases q
    · rw [List.getElem?_set_ne z] at h1 h2
      exact e6 ⟨j, io, es, h1, h2⟩
/-- x, y = a, b -/
def sPar (i j : Nat) (F G : Sem' Rv) : SemS := fun en => ofR (F en) fun p => ofR (G p.2) fun q => ofR (lift (putE i p.1 q.2)) fun e => ofR (lift (putE j q.1 e)) fun e2 => .next e2
variable {D : Ends}
theorem postS_bindV {rel : En → Hp → Hp → V → Rv → Prop} {Q : VK} {x : R (Rv × En)} {f : Rv → En → RS}
    (h : PostS C H0 H σ en D (ofR x fun p => f p.1 p.2))
    (k : ∀ a en1 H01 H1 v, x = .ok (a, en1) → Stp σ en H0 H σ en1 H01 H1 → SR C.K C.T H01 H1 σ en1 → rel en1 H01 H1 v a → PostS C H0 H σ en D (f a en1) → Q v H1) : Post C rel H0 H σ en Q x := by
  cases x with
  | ok p =>
    obtain ⟨a, en1⟩ := p
    exact fun H01 H1 v st sr r => k a en1 H01 H1 v rfl st sr r h
  | exc n => exact h
  | bad => exact h.elim
theorem none_back {p : Addr} (st : Stp σ en H0 H σ' en1 H01 H1) (h : Nw H1 p) : Nw H p := st.fm.kp p h
theorem some_at {v : V} {ds : List PyData} {p : Addr} (h : RvR C.K σ Hs en1 H01 H1 v (.new ds)) (e : v = .ref p) : ¬ Nw H1 p := by
  obtain ⟨q, ws, e1, e2, e3, _⟩ := h
  rw [e] at e1
  cases e1
  exact nw_lst e3
theorem ds_par {i j : Nat} {x y : Str} {F G : Sem' Rv} {px py pt : Pos} {kt k2 pt2} (hc : X.calm = true) (hN : X.N.Nodup) (hi : X.N[i]? = some x) (hj : X.N[j]? = some y) (hij : i ≠ j)
    (hx : X.env.scope.names.lookup x = some .local) (hy : X.env.scope.names.lookup y = some .local) (ha : PE X a (tV C F)) (hb : PE X b (tV C G))
    (hw : swappedStores [.Tuple [.Name x px, .Name y py] kt pt] (.Tuple [a, b] k2 pt2) X.env = pure (some [x, y]))
    (hs : swapsWithSole [.Tuple [.Name x px, .Name y py] kt pt] (.Tuple [a, b] k2 pt2) pos.line X.env = pure false := by rfl)
    (h1 : starEach [a, b] X.env = (false, eval a X.env) :: starEach [b] X.env := by rfl) (h2 : starEach [b] X.env = [(false, eval b X.env)] := by rfl) :
    PS X (.Assign [.Tuple [.Name x px, .Name y py] kt pt] (.Tuple [a, b] k2 pt2) pos) (tS C (sPar i j F G)) :=
  (ps_par hc hN hi hj hij hx hy (pa_cons ha (pa_cons hb pa_nil h2) h1) hw hs).imp fun D σ H ⟨H0, en, s, p⟩ => by
    refine ⟨H0, en, s, postS_bindV (D := D) (f := fun r e => ofR (G e) fun q => ofR (lift (putE i r q.2)) fun e => ofR (lift (putE j q.1 e)) fun e2 => .next e2) p fun r1 en1 H01 H1 v _ st1 s1 k1 p1 => ?_⟩
    refine ⟨H01, en1, s1, postS_bindV (D := D) (f := fun r e => ofR (lift (putE i r1 e)) fun e => ofR (lift (putE j r e)) fun e2 => .next e2) (postS_at p1 st1 rfl rfl rfl rfl) fun r2 en2 H02 H2 w eg st2 s2 k2 _ => ?_⟩
    refine ⟨v, w, rfl, ?_⟩
    have p2 : PostS C H0 H σ en D (ofR (lift (putE i r1 en2)) fun e => ofR (lift (putE j r2 e)) fun e2 => .next e2) := by
      rw [eg] at p1
      exact p1
    cases e1 : putE i r1 en2 with
    | exc n => rw [e1] at p2; exact p2.elim
    | bad => rw [e1] at p2; exact p2.elim
    | ok e =>
      rw [e1] at p2
      have p2 : PostS C H0 H σ en D (ofR (lift (putE j r2 e)) fun e2 => .next e2) := p2
      cases e2 : putE j r2 e with
      | exc n => rw [e2] at p2; exact p2.elim
      | bad => rw [e2] at p2; exact p2.elim
      | ok e' =>
        rw [e2] at p2
        obtain ⟨i1, q1⟩ := putE_ok e1
        subst q1
        obtain ⟨i2, q2⟩ := putE_ok e2
        subst q2
        have k1' := rvr_later k1 st2
        have st := st1.trans st2
        obtain ⟨sA, stA⟩ := rvr_put (i := i) k1' s2 st i1
        have k2' : RvR C.K (σ.set i (some v)) H1 (en2.set i (slOf r1)) H02 H2 w r2 := rvr_beside k1' k2 fun p ev nd hp ds er => by
          cases r1 with
          | dat d => exact .inr (.inr ⟨d, rfl⟩)
          | new ds1 => exact absurd hp (some_at k1 ev)
        obtain ⟨sB, stB⟩ := rvr_put (i := j) (rvr_back k2' fun q hq => none_back st1 hq) sA stA i2
        exact p2 H02 H2 _ stB sB
end
end PD
end
section
namespace PD
open PySem PySem.Spec PyProof.Rows L2 Evl

/-! ### slices -/
def PostP (C : Ct) (H0 H : Hp) (σ : L2.St) (en : En) (Q : Option Int → Hp → Prop) : R (Option Int × En) → Prop
  | .ok (o, en') => ∀ H0' H', Stp σ en H0 H σ en' H0' H' → SR C.K C.T H0' H' σ en' → Q o H'
  | .exc n => C.err (OwnA σ en) H0 H n
  | .bad => False
def tP (C : Ct) (L : Sem' (Option Int)) : TO := fun σ H Q => ∃ H0 en, SR C.K C.T H0 H σ en ∧ PostP C H0 H σ en Q (L en)
def pNo : Sem' (Option Int) := fun en => .ok (none, en)
def asPart (d : PyData) : R (Option Int) := match d with
  | .int i => .ok (some i)
  | _ => .bad
def pSome (F : Sem' PyData) : Sem' (Option Int) := fun en => F en >>= fun p => lift (asPart p.1) >>= fun o => .ok (o, p.2)
def cutD (xs : List PyData) (lo hi : Option Int) : List PyData := (xs.drop (HT.sIx xs.length 0 lo)).take (HT.sIx xs.length xs.length hi - HT.sIx xs.length 0 lo)
def cutP (x : PyData) (lo hi : Option Int) : R PyData := match x with
  | .list ds => .ok (.list (cutD ds lo hi))
  | .tuple ds => .ok (.tuple (cutD ds lo hi))
  | _ => .bad
def dSl (F : Sem' Op) (L U : Sem' (Option Int)) : Sem' PyData := fun en => F en >>= fun p => L p.2 >>= fun l => U l.2 >>= fun u => lift (p.1.res u.2) >>= fun x => lift (cutP x l.1 u.1) >>= fun z => .ok (z, u.2)
def revP (x : PyData) : R (List PyData) := match x with
  | .list ds => .ok ds.reverse
  | _ => .bad
section
variable {C : Ct} {X : Cx} {H0 H H0' H' : Hp} {σ : L2.St} {en en' : En} {a b c tg : Expr} {pos : Pos}
theorem post_bindP {α : Type} {rel : En → Hp → Hp → V → α → Prop} {Q : Option Int → Hp → Prop} {Q2 : VK} {x : R (Option Int × En)} {f : Option Int → En → R (α × En)}
    (h : Post C rel H0 H σ en Q2 (x >>= fun p => f p.1 p.2))
    (k : ∀ a en1 H01 H1, x = .ok (a, en1) → Stp σ en H0 H σ en1 H01 H1 → SR C.K C.T H01 H1 σ en1 → Post C rel H01 H1 σ en1 Q2 (f a en1) → Q a H1) : PostP C H0 H σ en Q x := by
  cases x with
  | ok p =>
    obtain ⟨a, en1⟩ := p
    intro H01 H1 st sr
    exact k a en1 H01 H1 rfl st sr (post_at (h : Post C rel H0 H σ en Q2 (f a en1)) st)
  | exc n => exact h
  | bad => exact h.elim
theorem postP_bind {α : Type} {rel : En → Hp → Hp → V → α → Prop} {Q : VK} {Q2 : Option Int → Hp → Prop} {x : R (α × En)} {f : α → En → R (Option Int × En)}
    (h : PostP C H0 H σ en Q2 (x >>= fun p => f p.1 p.2))
    (k : ∀ a en1 H01 H1 v, x = .ok (a, en1) → Stp σ en H0 H σ en1 H01 H1 → SR C.K C.T H01 H1 σ en1 → rel en1 H01 H1 v a → PostP C H01 H1 σ en1 Q2 (f a en1) → Q v H1) : Post C rel H0 H σ en Q x := by
  cases x with
  | ok p =>
    obtain ⟨a, en1⟩ := p
    intro H01 H1 v st sr r
    refine k a en1 H01 H1 v rfl st sr r ?_
    have h : PostP C H0 H σ en Q2 (f a en1) := h
    revert h
    cases f a en1 with
    | ok q => exact fun h H0' H' st' sr' => h H0' H' (st.trans st') sr'
    | exc n => exact fun h => Ct.err_at h st.fm st.ow
    | bad => exact fun h => h
  | exc n => exact h
  | bad => exact h.elim
theorem dp_none : PO X none (tP C pNo) := ⟨fun pins s σ H Q I ⟨H0, en, sr, p⟩ => po_none.run pins s σ H Q I (p H0 H Stp.refl sr)⟩
theorem dp_some {F : Sem' PyData} (h : PE X a (tE C F)) : PO X (some a) (tP C (pSome F)) := ⟨fun pins s σ H Q I ⟨H0, en, sr, p⟩ => (po_some h).run pins s σ H Q I ⟨H0, en, sr,
  postP_bind (rel := fun _ H0' _ v a => Rp C.K H0' v a) (f := fun d e => lift (asPart d) >>= fun o => .ok (o, e)) (Q2 := Q) p fun d en1 H01 H1 v _ st s1 r p1 => by
    cases d with
    | int i =>
      cases r
      exact ⟨i, rfl, p1 H01 H1 Stp.refl s1⟩
    | _ => exact p1.elim⟩⟩
theorem cut_rp {vs : List V} {ds : List PyData} (r : RpAll C.K H0 vs ds) (lo hi : Option Int) : RpAll C.K H0 (cutV vs lo hi) (cutD ds lo hi) := by
  unfold cutV cutD
  rw [r.length]
  exact (r.drop _).take _
theorem cut_whole {ds : List PyData} {lo hi : Option Int} (h : HT.sIx ds.length 0 lo = 0 ∧ HT.sIx ds.length ds.length hi = ds.length) : cutD ds lo hi = ds := by
  unfold cutD
  rw [h.1, h.2]
  simp
theorem de_slice {F : Sem' Op} {lo hi : Option Expr} {L U : Sem' (Option Int)} {p2 : Pos} (hK : C.K = X.K) (ha : PE X a (tO C F)) (hl : PO X lo (tP C L)) (hu : PO X hi (tP C U)) : PE X (.Subscript a (.Slice lo hi none p2) pos) (tE C (dSl F L U)) :=
  (pe_slice (sl_list.or sl_tupA) ha hl hu).imp fun σ H Q ⟨H0, en, s, p⟩ => by
    refine ⟨H0, en, s, post_bind (rel2 := fun _ H0' _ v a => Rp C.K H0' v a) (f := fun x e1 => L e1 >>= fun l => U l.2 >>= fun u => lift (x.res u.2) >>= fun x => lift (cutP x l.1 u.1) >>= fun z => .ok (z, u.2)) (Q2 := Q) p ?_⟩
    intro x en1 H01 H1 v1 _ st1 s1 r1 p1
    refine ⟨H01, en1, s1, post_bindP (rel := fun _ H0' _ v a => Rp C.K H0' v a) (f := fun l e2 => U e2 >>= fun u => lift (x.res u.2) >>= fun x => lift (cutP x l u.1) >>= fun z => .ok (z, u.2)) (Q2 := Q) p1 ?_⟩
    intro l en2 H02 H2 _ st2 s2 p2
    refine ⟨H02, en2, s2, post_bindP (rel := fun _ H0' _ v a => Rp C.K H0' v a) (f := fun u e3 => lift (x.res e3) >>= fun x => lift (cutP x l u) >>= fun z => .ok (z, e3)) (Q2 := Q) p2 ?_⟩
    intro u en3 H03 H3 _ st3 s3 p3
    cases e1 : x.res en3 with
    | exc n => rw [e1] at p3; exact p3.elim
    | bad => rw [e1] at p3; exact p3.elim
    | ok dx =>
      rw [e1] at p3
      have p3 : Post C (fun _ H0' _ v a => Rp C.K H0' v a) H03 H3 σ en3 Q (lift (cutP dx l u) >>= fun z => .ok (z, en3)) := p3
      have rx := OpdR.res s3 ((r1.mono st2.fm.ex).mono st3.fm.ex) e1
      have o : ∀ d, cutP dx l u = .ok d → Out C H03 H3 d Q := fun d e => by
        rw [e] at p3
        exact out_post s3 p3
      cases dx with
      | list ds =>
        obtain ⟨q, ws, ev, h3, h4⟩ := rx.list s3.ex
        refine .inl ⟨q, ws, ev, .inl h3, fun p hp => ?_⟩
        have h0 : H03 p = none := fresh_back s3.ex hp
        exact o _ rfl _ _ _ (Fm.new s3.ex hp) (s3.good.new hp fun _ z => by cases z) (.lst (Rd.of upd_same) ((cut_rp h4 l u).mono (Ex.new h0)))
      | tuple ds =>
        obtain ⟨q, ws, ev, h3, h4⟩ := rx.tup s3.ex
        refine .inr ⟨q, ws, ev, hK ▸ h3, fun hw => ?_, fun hw p hp => ?_⟩
        · rw [h4.length] at hw
          subst ev
          exact (o _ rfl).now s3.good (by rw [cut_whole hw]; exact tup_of rx)
        · have h0 : H03 p = none := fresh_back s3.ex hp
          exact o _ rfl _ _ _ (Fm.new s3.ex hp) (s3.good.new hp fun _ z => by cases z) (.tup (SqT.of upd_same) ((cut_rp h4 l u).mono (Ex.new h0)))
      | _ => exact p3.elim
theorem dn_rev {F : Sem' Op} {k : Nat} {p1 p2 p3 : Pos} (ha : PE X a (tO C F)) : PE X (.Subscript a (.Slice none none (some (.UnaryOp .USub (.Constant (.int 1) k p1) p2)) p3) pos) (tN C (d1 revP F)) :=
  (pe_revL ha).imp fun σ H Q ⟨H0, en, s, p⟩ => by
    refine d1_go (K' := fun x H1 => ∃ a xs, x = .ref a ∧ SqL X.K H1 a xs ∧ ∀ p, H1 p = none → Q (.ref p) (upd H1 p (.lst xs.reverse))) idO s p fun H01 H1 en1 x dx z s1 hn rx e p1 => ?_
    unfold revP at e
    split at e
    · cases e
      obtain ⟨q, ws, ev, h3, h4⟩ := rx.list s1.ex
      exact ⟨q, ws, ev, .inl h3, fun p hp => outN_post s1 hn p1 p _ _ (Fm.newO hp) (s1.good.newO hp) hp upd_same h4.reverse⟩
    · cases e
/-! ### {} -/
theorem de_dict0 : PE X (.Dict [] [] pos) (tE C (dC (.dict []))) := pe_dnewK.imp fun σ H Q ⟨H0, en, s, p⟩ => fun q hq =>
  out_post s p _ _ (.ref q) (Fm.new s.ex hq) (s.good.new hq fun _ z => by cases z) (.dct (Rd.of upd_same) .nil)
/-! ### count, index -/
def pCount (x y : PyData) : R PyData := match x with
  | .list ds => if plainD (.list ds) = true ∧ plainD y = true then .ok (.int (ds.countP fun z => PyData.eqv z y : Nat)) else .bad
  | _ => .bad
theorem r_count : Rule2 C (fun x y H Q => rCountD C.K x [y] H Q) pCount := fun H0 H x y dx dy d Q g rx ry e o => by
  unfold pCount at e
  split at e
  · split at e
    · rename_i hm
      cases e
      have hd := (rx.mono g.ex).dp (plainD_and hm.1).1
      obtain ⟨q, ws, ev, h3, h4⟩ := rx.list g.ex
      subst ev
      exact ⟨q, y, dy, _, rfl, rfl, hd, (ry.mono g.ex).dp (plainD_and hm.2).1, (plainD_and hm.1).2, (plainD_and hm.2).2, o.now g (.int _)⟩
    · cases e
  · cases e
def findD (y : PyData) : List PyData → Option Nat
  | [] => none
  | d :: ds => if PyData.eqv d y then some 0 else (findD y ds).map (· + 1)
theorem findD_at {y : PyData} : ∀ {ds : List PyData} {j : Nat}, findD y ds = some j → ∃ z, ds[j]? = some z ∧ PyData.eqv z y = true ∧ ∀ (m : Nat) (z' : PyData), m < j → ds[m]? = some z' → PyData.eqv z' y = false
  | [], j, h => by cases h
  | d :: ds, j, h => by
    unfold findD at h
    split at h
    · rename_i hd
      cases h
      exact ⟨d, rfl, hd, fun m z' hm => by omega⟩
    · rename_i hd
      obtain ⟨k, h1, rfl⟩ := Option.map_eq_some_iff.mp h
      obtain ⟨z, h2, h3, h4⟩ := findD_at h1
      refine ⟨z, by simpa using h2, h3, fun m z' hm hz => ?_⟩
      cases m with
      | zero =>
        have : d = z' := Option.some.inj hz
        subst this
        simpa using hd
      | succ m => exact h4 m z' (by omega) (by simpa using hz)
def pIndex (x y : PyData) : R PyData := match x with
  | .list ds => if plainD (.list ds) = true ∧ plainD y = true then R.get (findD y ds) >>= fun j => .ok (.int (j : Nat)) else .bad
  | _ => .bad
theorem r_index : Rule2 C (fun x y H Q => rIndexD C.K x [y] H Q) pIndex := fun H0 H x y dx dy d Q g rx ry e o => by
  unfold pIndex at e
  split at e
  · split at e
    · rename_i hm
      obtain ⟨j, hj, e⟩ := rgs1 e
      cases e
      obtain ⟨z, h5, h6, h7⟩ := findD_at hj
      have hd := (rx.mono g.ex).dp (plainD_and hm.1).1
      obtain ⟨q, ws, ev, h3, h4⟩ := rx.list g.ex
      subst ev
      exact ⟨q, y, dy, _, j, z, rfl, rfl, hd, (ry.mono g.ex).dp (plainD_and hm.2).1, (plainD_and hm.1).2, (plainD_and hm.2).2, h5, h6, h7, o.now g (.int _)⟩
    · cases e
  · cases e
theorem de_count {F G : Sem' Op} {apos cpos : Pos} (hK : C.K = X.K) (hu : X.A.units + 65 < cLine) (ho : PE X a (tO C F)) (he : PE X b (tO C G)) (hbase : attributeBase a "count" X.env (eval a X.env) = eval a X.env := by rfl)
    (hfew : ((backTo cpos (starEach (b :: []) X.env)).all (fun x => !x.1) && (backToKw cpos (keywordEach [] X.env)).all (fun x => x.1.isSome)
      && decide ((b :: ([] : List Expr)).length + ([] : List Keyword).length + (if ([] : List Keyword).isEmpty then 0 else 1) < 30)) = true := by rfl)
    (hline : (apos.endLine == cpos.line) = true := by rfl) (hs : starEach (b :: []) X.env = (false, eval b X.env) :: starEach [] X.env := by rfl) (hplain : (backTo cpos (starEach [] X.env)).any (·.1) = false := by rfl) :
    PE X (.Call (.Attribute a "count" apos) [b] [] cpos) (tE C (dM pCount F G)) := de_mt rfl hK PySem.F.plainAttrs_list PySem.F.slot_list_count PySem.F.type_list_count (mt_countD hu) (hK ▸ r_count) ho he hbase hfew hline hs hplain
theorem de_index {F G : Sem' Op} {apos cpos : Pos} (hK : C.K = X.K) (hu : X.A.units + 65 < cLine) (ho : PE X a (tO C F)) (he : PE X b (tO C G)) (hbase : attributeBase a "index" X.env (eval a X.env) = eval a X.env := by rfl)
    (hfew : ((backTo cpos (starEach (b :: []) X.env)).all (fun x => !x.1) && (backToKw cpos (keywordEach [] X.env)).all (fun x => x.1.isSome)
      && decide ((b :: ([] : List Expr)).length + ([] : List Keyword).length + (if ([] : List Keyword).isEmpty then 0 else 1) < 30)) = true := by rfl)
    (hline : (apos.endLine == cpos.line) = true := by rfl) (hs : starEach (b :: []) X.env = (false, eval b X.env) :: starEach [] X.env := by rfl) (hplain : (backTo cpos (starEach [] X.env)).any (·.1) = false := by rfl) :
    PE X (.Call (.Attribute a "index" apos) [b] [] cpos) (tE C (dM pIndex F G)) := de_mt rfl hK PySem.F.plainAttrs_list PySem.F.slot_list_index PySem.F.type_list_index (mt_indexD hu) (hK ▸ r_index) ho he hbase hfew hline hs hplain
end
end PD
end
section
namespace PD
open PySem PySem.Spec PyProof.Rows L2 Evl LamX

/-! ### a lambda handed to a def that calls it in a try -/
/-- without the lists that are held -/
def dropO (en : En) : En := en.map fun s => match s with
  | .own _ _ => .no
  | s => s
section
variable {C : Ct} {X : Cx} {H0 H H0' H' H1 : Hp} {σ : L2.St} {en en' : En}
theorem dropO_get (en : En) (i : Nat) : (dropO en)[i]? = (en[i]?).map fun s => match s with
  | .own _ _ => .no
  | s => s := List.getElem?_map ..
theorem dropO_own {i : Nat} {io : Bool} {ds : List PyData} : (dropO en)[i]? ≠ some (.own io ds) := fun h => by
  rw [dropO_get] at h
  obtain ⟨s, _, h⟩ := Option.map_eq_some_iff.mp h
  cases s <;> cases h
theorem own_drop {p : Addr} : ¬ OwnA σ (dropO en) p := fun ⟨_, _, _, h, _⟩ => dropO_own h
theorem dropO_dat {i : Nat} {d : PyData} (h : (dropO en)[i]? = some (.dat d)) : en[i]? = some (.dat d) := by
  rw [dropO_get] at h
  obtain ⟨s, e, h⟩ := Option.map_eq_some_iff.mp h
  cases s <;> cases h
  exact e
theorem sr_drop (s : SR C.K C.T H0 H σ en) : SR C.K C.T H0 H σ (dropO en) :=
  ⟨by rw [s.len]; exact (List.length_map ..).symm, s.ex, s.tb, s.nt, fun i d h => s.dat i d (dropO_dat h), fun i io ds h => absurd h dropO_own, fun i j io ds jo es p n h => absurd h dropO_own⟩
theorem fm_lam (s : SR C.K C.T H0 H σ en) (e : ExtN H H1) : Fm (fun _ => False) H0 H H0 H1 :=
  ⟨Ex.refl _, fun p o h _ t => e p o h t, fun p h u q => Classical.byContradiction fun z => nw_no h (e p u q fun ps y => z ⟨ps, y⟩) fun ps y => z ⟨ps, y⟩, fun _ _ _ h => h⟩
theorem good_lam (s : SR C.K C.T H0 H σ en) (e : ExtN H H1) (t : Tabs C.T H1) : Good C H0 H1 := ⟨fun a u h => e a u (s.ex a u h) fun ps z => s.nt a ps (by rw [h, z]), t, s.nt⟩
def dSaid (okF : PyData → R PyData) (exF : Nat → R PyData) (F : Sem' PyData) : Sem' PyData := fun en => match F (dropO en) with
  | .ok p => lift (okF p.1) >>= fun d => .ok (d, en)
  | .exc n => lift (exF n) >>= fun d => .ok (d, en)
  | .bad => .bad
/-- what such a def makes of its lambda -/
def TSaid (C : Ct) (okF : PyData → R PyData) (exF : Nat → R PyData) : (XK → Hp → VK → Prop) → Hp → VK → Prop := fun tl H Q => ∃ H0, Good C H0 H ∧
  tl (fun cls d H' => d = none ∧ ∃ H0' n z, Good C H0' H' ∧ cls = .ref (C.ca n) ∧ exF n = .ok z ∧ Out C H0' H' z Q) H (fun v H' => ∃ H0' r z, Good C H0' H' ∧ Rp C.K H0' v r ∧ okF r = .ok z ∧ Out C H0' H' z Q)
theorem said_imp {okF : PyData → R PyData} {exF : Nat → R PyData} {F : Sem' PyData} {Q : VK} (h : tE C (dSaid okF exF F) σ H Q) : tLam C.T (TSaid C okF exF) (fun E => tE ⟨C.K, C.T, C.ca, E⟩ F) σ H Q := by
  obtain ⟨H0, en, s, p⟩ := h
  refine ⟨s.tb, fun H1 eN T1 => ?_⟩
  have f1 := fm_lam s eN
  have g1 := good_lam s eN T1
  have s1 := s.grown f1 g1
  refine ⟨H0, g1, H0, dropO en, sr_drop s1, ?_⟩
  unfold dSaid at p
  cases e : F (dropO en) with
  | bad => rw [e] at p; exact p.elim
  | ok q =>
    obtain ⟨r, en1⟩ := q
    rw [e] at p
    intro H0' H' v st sr rr
    have p : Post C (fun _ H0' _ v a => Rp C.K H0' v a) H0 H σ en Q (lift (okF r) >>= fun d => .ok (d, en)) := p
    cases ez : okF r with
    | exc n => rw [ez] at p; exact p.elim
    | bad => rw [ez] at p; exact p.elim
    | ok z =>
      rw [ez] at p
      have f2 : Fm (fun _ => False) H0 H1 H0' H' := st.fm.weak fun p h => own_drop h
      have g2 : Good C H0' H' := ⟨sr.ex, sr.tb, sr.nt⟩
      refine ⟨H0', r, z, g2, rr, ez, fun H02 H2 w f3 g3 rz => ?_⟩
      have f := (f1.trans f2 fun _ h => .inl h).trans f3 fun _ h => .inl h
      exact p H02 H2 w f.stp (s.grown f g3) rz
  | exc n =>
    rw [e] at p
    have p : Post C (fun _ H0' _ v a => Rp C.K H0' v a) H0 H σ en Q (lift (exF n) >>= fun d => .ok (d, en)) := p
    cases ez : exF n with
    | exc m => rw [ez] at p; exact p.elim
    | bad => rw [ez] at p; exact p.elim
    | ok z =>
      rw [ez] at p
      intro H0' H' f2' x t nt
      have f2 : Fm (fun _ => False) H0 H1 H0' H' := f2'.weak fun p h => own_drop h
      have g2 : Good C H0' H' := ⟨x, t, nt⟩
      refine ⟨rfl, H0', n, z, g2, rfl, ez, fun H02 H2 w f3 g3 rz => ?_⟩
      have f := (f1.trans f2 fun _ h => .inl h).trans f3 fun _ h => .inl h
      exact p H02 H2 w f.stp (s.grown f g3) rz
/-- x(lambda: body) -/
theorem de_said {okF : PyData → R PyData} {exF : Nat → R PyData} {F : Sem' PyData} {x a : Str} {g c P : Addr} {k : Nat} {pg : Arguments} {bg : List Stmt} {sg : Scope} {dV kV doc pm cdv ct oc : Value} {an od : Option Addr} {osl : Array (Option Value)} {Ng : List Str}
    {params : Arguments} {body : Expr} {scope : Scope} {p lpos pos : Pos} (hg : Gl X x) (hm : X.mg x = some (.ref g)) (hk : PySem.W.keepIn X.K (.ref g) = true)
    (lk : X.K.lookup g = some ⟨oc, od, .func (PySem.W.fnOf x x pg bg sg dV kV doc pm an cdv ct), osl⟩) (hcg : PySem.W.codeIn X.K cdv x = true) (hb : L2.Binds X.K (PySem.W.fnOf x x pg bg sg dV kV doc pm an cdv ct) [a] []) (Sg : FnScope Ng [a] sg) (hNg : Ng[0]? = some a) (hva : Vis sg a)
    (hG : GivesTo X Ng x sg g cdv bg a (X.env.qual ++ "<lambda>") (TSaid C okF exF))
    (TB : TabB X.base X.mg c P) (hcode : X.env.code = .ref c) (hmT : (P, X.env.qual ++ "<lambda>") ∈ C.T) (hu : ∀ p ∈ C.T, p.1 = P → p.2 = X.env.qual ++ "<lambda>") (hr : Room (k + 2) X.A) (L : LamS X.env.scope scope) (hdef : defaultsOf params X.env = ([], []))
    (hbind : ∀ (q : Str) (cl : List (Str × Addr)) (pm cv ctv : Value), bindArgs (PySem.W.kla_fn "<lambda>" q params body scope cl pm cv ctv) ⟨[], []⟩ = pure [])
    (hbody : ∀ (A : Around) (outer : List Env) (s : Shared) (H : Hp) (E : XK) (f c' : Addr), Room k (A.deeper (lamEnv X scope s.heap.objs.size f c')) → PE (lamCx X A outer s H E scope f c') body (tE ⟨C.K, C.T, C.ca, E⟩ F))
    (hdb : (x == ("__debug__" : Str)) = false := by decide) (hd : (a == ("__debug__" : Str)) = false := by decide) (hcd : (a == ("__classdict__" : Str)) = false := by decide) :
    PE X (.Call (.Name x p) [.Lambda params body scope lpos] [] pos) (tE C (dSaid okF exF F)) :=
  (pe_lamcall hg hm hk lk hcg hb Sg hNg hva hG TB hcode hmT hu hr L hdef hbind hbody hdb hd hcd).imp fun σ H Q h => said_imp h

/-! ### the def that calls it -/
/-- isinstance(e, c), e the exception that the clause holds -/
def isE (a : Addr) (b : Bool) (d : PyData) : R PyData := match d with
  | .dict [(.none, .int k)] => if k = (a : Nat) then .ok (.bool b) else .bad
  | _ => .bad
theorem isE_self (a : Addr) (b : Bool) : isE a b (.dict [(.none, .int (a : Nat))]) = .ok (.bool b) := if_pos rfl
theorem rp_obj {K : PySem.W.Frag} {v : V} {a : Addr} (h : RpX K H0 H v (.dict [(.none, .int (a : Nat))])) : v = .ref a := by
  rcases h with h | ⟨p, ws, es, rfl, e, _⟩
  · cases h with
    | dct _ hk => cases hk
    | obj _ => rfl
  · cases e
theorem de_isE {F : Sem' Op} {a D : Addr} {oe : Obj} {pn : List (Addr × Obj)} {e : Expr} {x t : Str} {cv : V} {cu : Value} {b : Bool} {p1 p2 pos : Pos} (E : ExcC X.K D) (hz : Zc (.ref D) none oe) (hf : ∃ vs, oe.data = .fields vs) (ha : PE (X.suite a ((a, oe) :: pn)) e (tO C F)) (hx : x = "isinstance") (hg : Gl (X.suite a ((a, oe) :: pn)) x) (hm : X.mg x = none)
    (hc : PE (X.suite a ((a, oe) :: pn)) (.Name t p2) (tC cv)) (hcv : ∀ u, RelV cv u → u = cu) (hb : PySem.W.kitOne X.K (.ref D) cu = some b)
    (hs : starEach [.Name t p2] (X.suite a ((a, oe) :: pn)).env = [(false, eval (.Name t p2) (X.suite a ((a, oe) :: pn)).env)] := by rfl)
    (he : starEach (e :: [.Name t p2]) (X.suite a ((a, oe) :: pn)).env = (false, eval e (X.suite a ((a, oe) :: pn)).env) :: starEach [.Name t p2] (X.suite a ((a, oe) :: pn)).env := by rfl) (hpl : (backTo pos (starEach [.Name t p2] (X.suite a ((a, oe) :: pn)).env)).any (·.1) = false := by rfl) :
    PE (X.suite a ((a, oe) :: pn)) (.Call (.Name x p1) [e, .Name t p2] [] pos) (tE C (d1 (isE a b) F)) := by
  subst hx
  refine (pe_callB (call_isE (X := X) (pn := pn) E hz hf) hg hm (by rfl) (pa_cons ha (pa_cons hc pa_nil hs) he) (by decide) (by decide) he hpl).imp fun σ H Q ⟨H0, en, s, p⟩ => ?_
  refine d1_go (K' := fun x H2 => rIsE X.K D a [x, cv] H2 Q) idO s p fun H01 H1 en1 x dx z s1 _ rx e p1 => ?_
  unfold isE at e
  split at e
  · split at e
    · rename_i k hk
      subst hk
      cases e
      have := rp_obj rx
      subst this
      exact ⟨cv, cu, b, rfl, hcv, hb, p1 H01 H1 _ Stp.refl s1 (.bl b)⟩
    · cases e
  · cases e
theorem takes_len {X : Cx} {W W' : WX} (t : L2.Takes X W) (h : ∀ c d σ H, σ.length = X.N.length → W' c d σ H → W c d σ H) : L2.Takes X W' := fun u s' ⟨a, B, sI, pins, σ, H, cls, d, e, I, nb, up, sky, na, os, ag, w⟩ =>
  t u s' ⟨a, B, sI, pins, σ, H, cls, d, e, I, nb, up, sky, na, os, ag, h _ _ _ _ I.len w⟩
theorem pe_wk {e : Expr} {t : TE} (h : PE X e t) : PE X e (fun σ H Q => ∃ Q1, t σ H Q1 ∧ ∀ v H', Q1 v H' → Q v H') := ⟨fun pins s σ H Q I ⟨Q1, h1, h2⟩ =>
  wpAny_mono (h.run pins s σ H Q1 I h1) (fun v s' ⟨x, H', J, r, q⟩ => ⟨x, H', J, r, h2 x H' q⟩) fun _ _ q => q⟩
def retOf (r : RS) : R PyData := match r with
  | .ret (.dat d) _ => .ok d
  | .next _ => .ok .none
  | _ => .bad
def Ct.z (C : Ct) : Ct := { C with E := C8.E0 }
theorem post_ret {r : RS} {z : PyData} {Q : VK} (h : retOf r = .ok z) (o : Out C H0 H z Q) (s : SR C.K C.T H0 H σ en) (no : ∀ p, ¬ OwnA σ en p) : PostS C.z H0 H σ en { nx := fun _ H' => Q .non H', rt := Q } r := by
  have key : ∀ {H0' H' : Hp} {σ' : L2.St} {e : En} {v : V}, Stp σ en H0 H σ' e H0' H' → SR C.K C.T H0' H' σ' e → Rp C.K H0' v z → Q v H' := fun {H0' H' σ' e v} st sr rv => o H0' H' v (st.fm.weak fun p q => no p q) ⟨sr.ex, sr.tb, sr.nt⟩ rv
  cases r with
  | ret r e =>
    cases r with
    | dat d =>
      cases h
      exact fun H0' H' σ' v st sr rr => key st sr rr
    | new ds => cases h
  | next e =>
    cases h
    exact fun H0' H' σ' st sr => key st sr .non
  | brk e => cases h
  | cont e => cases h
  | exc n => cases h
  | bad => cases h
def nos (m : Nat) : En := List.replicate m .no
theorem nos_get {m i : Nat} {y : Sl} (h : (nos m)[i]? = some y) : y = .no := List.eq_of_mem_replicate (List.mem_of_getElem? h)
theorem sr_nos {m : Nat} (g : Good C H0 H) (hl : σ.length = m) : SR C.K C.T H0 H σ (nos m) :=
  ⟨by rw [hl]; exact (List.length_replicate ..).symm, g.ex, g.tb, g.nt, fun i d h => (by cases nos_get h), fun i io ds h => (by cases nos_get h), fun i j io ds jo es p n h => (by cases nos_get h)⟩
theorem sr_obj {m j : Nat} {a : Addr} (g : Good C H0 H) (hl : σ.length = m) : SR C.K C.T H0 H (σ.set j (some (.ref a))) ((nos m).set j (.dat (.dict [(.none, .int (a : Nat))]))) := set_sr (sr_nos g hl) (.obj a)
theorem obj_no {m j : Nat} {d : PyData} {p : Addr} : ¬ OwnA σ ((nos m).set j (.dat d)) p := fun ⟨i, io, ds, h, _⟩ => by
  by_cases z : j = i
  · subst z
    have hl : j < (nos m).length := by
      have := (List.getElem?_eq_some_iff.mp h).1
      rwa [List.length_set] at this
    rw [List.getElem?_set_self hl] at h
    cases h
  · rw [List.getElem?_set_ne z] at h
    cases nos_get h
theorem sr_unset {j : Nat} (s : SR C.K C.T H0 H σ en) : SR C.K C.T H0 H (σ.set j none) (en.set j .no) := by
  have at_ : ∀ {i : Nat} {y : Sl}, (en.set j .no)[i]? = some y → y ≠ .no → j ≠ i ∧ en[i]? = some y := fun {i y} h hy => by
    by_cases z : j = i
    · subst z
      have hl : j < en.length := by
        have := (List.getElem?_eq_some_iff.mp h).1
        rwa [List.length_set] at this
      rw [List.getElem?_set_self hl] at h
      exact absurd (Option.some.inj h).symm hy
    · rw [List.getElem?_set_ne z] at h
      exact ⟨z, h⟩
  refine ⟨by rw [List.length_set, List.length_set]; exact s.len, s.ex, s.tb, s.nt, fun i d h => ?_, fun i io ds h => ?_, fun i k io ds jo es p n h1 h2 e1 => ?_⟩
  · obtain ⟨ne, h⟩ := at_ h (fun z => by cases z)
    rw [List.getElem?_set_ne ne]
    exact s.dat i d h
  · obtain ⟨ne, h⟩ := at_ h (fun z => by cases z)
    rw [List.getElem?_set_ne ne]
    exact s.own i io ds h
  · obtain ⟨n1, h1⟩ := at_ h1 (fun z => by cases z)
    obtain ⟨n2, h2⟩ := at_ h2 (fun z => by cases z)
    rw [List.getElem?_set_ne n1] at e1
    rw [List.getElem?_set_ne n2]
    exact s.sep i k io ds jo es p n h1 h2 e1
theorem stp_unset {j : Nat} {H0' H' : Hp} {σ' : L2.St} (st : Stp σ en H0 H σ' en' H0' H') (io : ∀ (i : Nat) (ds : List PyData), en[i]? ≠ some (.own true ds)) : Stp σ en H0 H (σ'.set j none) (en'.set j .no) H0' H' :=
  ⟨st.fm, fun p ⟨i, o, ds, h1, h2⟩ => by
    by_cases z : j = i
    · subst z
      have hl : j < en'.length := by
        have := (List.getElem?_eq_some_iff.mp h1).1
        rwa [List.length_set] at this
      rw [List.getElem?_set_self hl] at h1
      cases h1
    · rw [List.getElem?_set_ne z] at h1 h2
      exact st.ow p ⟨i, o, ds, h1, h2⟩, fun i ds h => absurd h (io i ds)⟩
/-- what the clause comes to, with what follows the try -/
def afterH (j : Nat) (S T : SemS) : SemS := fun en => sThen (S en) fun e => T (e.set j .no)
theorem post_after {j : Nat} {S T : SemS} {D : Ends} (io : ∀ (i : Nat) (ds : List PyData), en[i]? ≠ some (.own true ds)) (p : PostS C H0 H σ en D (afterH j S T en)) :
    PostS C H0 H σ en { nx := fun σ' H' => tS C T D (σ'.set j none) H', rt := D.rt, bk := fun σ' H' => D.bk σ' H', ct := fun σ' H' => D.ct σ' H' } (S en) := by
  unfold afterH at p
  revert p
  cases S en with
  | next e => exact fun p H0' H' σ' st sr => ⟨H0', e.set j .no, sr_unset sr, postS_at (p : PostS C H0 H σ en D (T (e.set j .no))) (stp_unset st io) rfl rfl rfl rfl⟩
  | _ => exact fun p => p
/-- try: a() / except e as n: suite; rest -/
theorem said_gives {Ng : List Str} {x a e n q : Str} {sg : Scope} {g CS : Addr} {cdg : Value} {j : Nat} {b₀ : Stmt} {suite rest : List Stmt} {p1 p2 p3 p4 p7 p8 : Pos} {okF : PyData → R PyData} {exF : Nat → R PyData} {Sx : Addr → Nat → SemS} {T : SemS}
    (hK : C.K = X.K) (hge : sg.names.lookup e = some .globalImplicit) (hme : X.mg e = some (.ref CS)) (hde : (e == ("__debug__" : Str)) = false) (hN : Ng.Nodup) (hj : Ng[j]? = some n) (hl : sg.names.lookup n = some .local) (h0 : 0 < Ng.length)
    (hex : ∀ m z, exF m = .ok z → PySem.W.exmOne X.K (.ref (C.ca m)) (.ref CS) = some true)
    (hsu : ∀ m z, exF m = .ok z → ∀ (s : Shared) (H : Hp) (ea : Addr) (oe : Obj) (pn : List (Addr × Obj)), Zc (.ref (C.ca m)) none oe → (∃ vs, oe.data = .fields vs) → PSs ((cxOf C8.CX0 X.prog X.w X.K X.mg X.base Ng x sg g cdg X.A X.stack s H C8.E0).nox.suite ea ((ea, oe) :: pn)) (b₀ :: suite) (tS C.z (Sx ea m)))
    (hre : ∀ (s : Shared) (H : Hp), PSs ((cxOf C8.CX0 X.prog X.w X.K X.mg X.base Ng x sg g cdg X.A X.stack s H C8.E0).nox) rest (tS C.z T))
    (hok : ∀ r z, okF r = .ok z → retOf (T (nos Ng.length)) = .ok z)
    (hxx : ∀ m z ea, exF m = .ok z → retOf (afterH j (Sx ea m) T ((nos Ng.length).set j (.dat (.dict [(.none, .int (ea : Nat))])))) = .ok z) :
    GivesTo X Ng x sg g cdg (.Try [.Expr (.Call (.Name a p1) [] [] p2) p3] [.ExceptHandler (some (.Name e p4)) (some n) (b₀ :: suite) p7] [] [] p8 :: rest) a q (TSaid C okF exF) := by
  intro f c' s H Q tl act hc h
  obtain ⟨H0, g0, h⟩ := h
  have hgl : Gl (cxOf C8.CX0 X.prog X.w X.K X.mg X.base Ng x sg g cdg X.A X.stack s H C8.E0).nox e := hge
  have hst : ∀ f : Addr, (L2.start Ng [V.ref f])[0]? = some (some (V.ref f)) := fun f => by unfold L2.start; rfl
  have hsl : ∀ f : Addr, (L2.start Ng [V.ref f]).length = Ng.length := fun f => by
    unfold L2.start
    rw [List.length_append, List.length_map, List.length_replicate]
    simp only [List.length_cons, List.length_nil]
    omega
  refine ⟨_, pss_cons (ps_try_as (X := (cxOf C8.CX0 X.prog X.w X.K X.mg X.base Ng x sg g cdg X.A X.stack s H C8.E0).nox) (c := .ref CS) (i := j)
      (tb := fun W D σ H => ∃ (Ech : XK) (Q1 : VK), (∀ cls d σ' H', σ'.length = Ng.length → Ech cls d H' → W cls d σ' H') ∧ σ[0]? = some (some (.ref f)) ∧ H c' = some (CodeO c' q) ∧ tl Ech H Q1 ∧ ∀ v H', Q1 v H' → D.nx σ H')
      (ts := fun ea cls d D σ H => ∃ m z, cls = .ref (C.ca m) ∧ d = none ∧ exF m = .ok z ∧ tS C.z (Sx ea m) D σ H)
      rfl rfl hN hj hl ⟨hgl, hde, .inl hme⟩ LamX.takes0 (fun W pn xe tk _ => ?_) (fun ea oe cls d pn hz hv => ⟨fun pins s' σ H' D I ⟨m, z, ec, ed, em, h'⟩ => ?_⟩)) (hre s H), ?_⟩
  · refine ⟨fun pins s' σ H' D I h' => ?_⟩
    obtain ⟨Ech, Q1, hW, h1, h2, h3, h4⟩ := h'
    have hp := pe_wk (act (fun cls d σ' H' => σ'.length = Ng.length → W cls d σ' H') pn xe Ech p1 p2 (takes_len tk fun c d σ H hl hh => hh hl) fun cls d σ' H' he hl => hW cls d σ' H' hl he)
    exact (pss_one (ps_expr (pos := p3) hp)).run pins s' σ H' D I ⟨Q1, ⟨h1, h2, h3⟩, h4⟩
  · subst ec ed
    exact (hsu m z em s H ea oe pn hz hv).run pins s' σ H' D I h'
  · refine ⟨_, _, fun cls d σ' H' hlen he => ?_, hst f, hc, h, fun v H' hv => ?_⟩
    · obtain ⟨ed, H0', m, z, g2, ec, em, o⟩ := he
      subst ed ec
      refine ⟨true, hex m z em, fun _ ea hea => ⟨m, z, rfl, rfl, em, H0', _, sr_obj (C := C) (j := j) g2 hlen, ?_⟩, fun z => by cases z⟩
      have no : ∀ p, ¬ OwnA (σ'.set j (some (.ref ea))) ((nos Ng.length).set j (.dat (.dict [(.none, .int (ea : Nat))]))) p := fun p => obj_no
      have nio : ∀ (i : Nat) (ds : List PyData), ((nos Ng.length).set j (.dat (.dict [(.none, .int (ea : Nat))])))[i]? ≠ some (.own true ds) := fun i ds h => by
        by_cases z : j = i
        · subst z
          have hl : j < (nos Ng.length).length := by
            have := (List.getElem?_eq_some_iff.mp h).1
            rwa [List.length_set] at this
          rw [List.getElem?_set_self hl] at h
          cases h
        · rw [List.getElem?_set_ne z] at h
          cases nos_get h
      have pr := post_ret (C := C) (hxx m z ea em) o (sr_obj (σ := σ') (C := C) (j := j) g2 hlen) no
      exact post_after (C := C.z) (S := Sx ea m) (T := T) nio pr
    · obtain ⟨H0', r, z, g2, _, ez, o⟩ := hv
      exact ⟨H0', nos Ng.length, sr_nos (C := C) g2 (hsl f), post_ret (C := C) (hok r z ez) o (sr_nos (C := C) g2 (hsl f)) fun p ⟨i, io, ds, h, _⟩ => by cases nos_get h⟩
end
end PD
end
section
namespace PD
open PySem PySem.Spec PyProof.Rows L2 Evl

/-! ### words for the printed derivations -/
def dYes : Sem' Bool := fun en => .ok (true, en)
/-- any addition -/
def pAddA (x y : PyData) : R PyData := match x, y with
  | .int a, .int b => .ok (.int (a + b))
  | .tuple a, .tuple b => few2 (a.length + b.length) (.ok (.tuple (a ++ b)))
  | .list a, .list b => few2 (a.length + b.length) (.ok (.list (a ++ b)))
  | _, _ => .bad
/-- any product -/
def pMulA (x y : PyData) : R PyData := match x, y with
  | .int a, .int b => if MulOk a b then .ok (.int (a * b)) else .bad
  | .list a, .int n => if 0 ≤ n ∧ n ≤ 1000 ∧ a.length ≤ 100 then .ok (.list (List.replicate n.toNat a).flatten) else .bad
  | .tuple a, .int n => if a ≠ [] ∧ 2 ≤ n ∧ n ≤ 1000 ∧ a.length ≤ 100 then .ok (.tuple (List.replicate n.toNat a).flatten) else .bad
  | _, _ => .bad
section
variable {C : Ct} {X : Cx} {H0 H : Hp} {σ : L2.St} {en : En} {a b c : Expr} {pos : Pos}
theorem hu65 {k : Nat} {A : Around} (h : Room k A) : A.units + 65 < cLine := by have := h.un; omega
theorem dts_nil : PTs X [] (tT C dYes) := ⟨fun pins s σ H Q I ⟨H0, en, sr, p⟩ => pts_nil.run pins s σ H Q I (p H0 H Stp.refl sr)⟩
theorem dts_one {F : Sem' Bool} (h : PT X c (tT C F)) : PTs X [c] (tT C F) := pts_one h
theorem op_addA : OpR X (binaryOp .Add) (fun x y H Q => (rI0 (fun i j => .int (i + j)) x y H Q ∨ rCatA X.K x y H Q) ∨ rCatR x y H Q) := (op_add.or op_catA).or op_catR
theorem out_lst {ds : List PyData} {Q : VK} {p : Addr} {vs : List V} (g : Good C H0 H) (o : Out C H0 H (.list ds) Q) (hp : H p = none) (r : RpAll C.K H0 vs ds) : Q (.ref p) (upd H p (.lst vs)) :=
  (OutN.out g o) p vs _ (Fm.newO hp) (g.newO hp) hp upd_same r
theorem r_addA : Rule2 C (fun x y H Q => (rI0 (fun i j => .int (i + j)) x y H Q ∨ rCatA C.K x y H Q) ∨ rCatR x y H Q) pAddA := fun H0 H x y dx dy d Q g rx ry e o => by
  unfold pAddA at e
  split at e
  · exact .inl (.inl (r_add (C := C) H0 H x y _ _ d Q g rx ry e o))
  · exact .inl (.inr (r_catT (C := C) H0 H x y _ _ d Q g rx ry e o))
  · rename_i xs ys
    obtain ⟨hl, e⟩ := few2_ok e
    cases e
    exact .inr (r_cat (C := C) H0 H x y _ _ (xs ++ ys) Q g rx ry (by show few2 _ _ = _; unfold few2; rw [if_pos hl]) (OutN.out g o))
  · cases e
theorem op_mulB : OpR X (binaryOp .Mult) (fun x y H Q => ((rI CMul (fun i j => .int (i * j)) x y H Q ∨ rI CMulW (fun i j => .int (i * j)) x y H Q) ∨ rRepR x y H Q) ∨ rRepT X.K x y H Q) := (op_mulA.or op_repR).or op_repT
theorem r_mulB : Rule2 C (fun x y H Q => ((rI CMul (fun i j => .int (i * j)) x y H Q ∨ rI CMulW (fun i j => .int (i * j)) x y H Q) ∨ rRepR x y H Q) ∨ rRepT C.K x y H Q) pMulA := fun H0 H x y dx dy d Q g rx ry e o => by
  unfold pMulA at e
  split at e
  · exact .inl (.inl (r_mul (C := C) H0 H x y _ _ d Q g rx ry e o))
  · rename_i xs n
    split at e
    · rename_i hm
      cases e
      exact .inl (.inr (r_rep (C := C) H0 H x y _ _ _ Q g rx ry (by show (if _ then _ else _) = _; rw [if_pos hm]) (OutN.out g o)))
    · cases e
  · rename_i xs n
    split at e
    · rename_i hm
      cases e
      obtain ⟨a, vs, e1, e2, e3⟩ := rx.tup g.ex
      have key : RpAll C.K H0 (List.replicate n.toNat vs).flatten (List.replicate n.toNat xs).flatten := by
        generalize n.toNat = m
        induction m with
        | zero => exact .nil
        | succ m ih => rw [List.replicate_succ, List.replicate_succ, List.flatten_cons, List.flatten_cons]; exact e3.append ih
      refine .inr ⟨a, n, vs, e1, ry.int, e2, fun z => hm.1 ?_, hm.2.1, hm.2.2.1, by rw [e3.length]; omega, fun p hp => ?_⟩
      · subst z
        cases e3
        rfl
      · exact o _ _ _ (Fm.new g.ex hp) (g.new hp fun _ z => by cases z) (.tup (SqT.of upd_same) (key.mono (Ex.new (fresh_back g.ex hp))))
    · cases e
  · cases e
end
end PD
namespace PD
open PySem PySem.Spec PyProof.Rows L2 Evl
/-- return of what a call gave -/
def sRetV (F : Sem' Rv) : SemS := fun en => ofR (F en) fun p => .ret p.1 p.2
theorem ds_retV {C : Ct} {X : Cx} {a : Expr} {pos : Pos} {F : Sem' Rv} (he : PE X a (tV C F)) : PS X (.Return (some a) pos) (tS C (sRetV F)) :=
  (ps_ret he).imp fun D σ H ⟨H0, en, s, p⟩ => ⟨H0, en, s, by
    unfold sRetV at p
    cases e : F en with
    | exc n => rw [e] at p; exact p
    | bad => rw [e] at p; exact p.elim
    | ok q =>
      rw [e] at p
      exact fun H01 H1 v st sr r => p H01 H1 σ v st sr r⟩
end PD
end
section
/-! PX4: defs whose promise is kept where no repr runs around them (the guards are told: repr of lists wants it); their calls; the head of a law over them. -/
namespace PD
open PySem PySem.Spec PyProof.Rows L2 Evl LamX
/-- a def keeps its promise where nothing is being shown -/
structure FnG (P : Program) (w : World) (K : PySem.W.Frag) (mg : Str → Option Value) (base : Heap) (CX : CXT) (k : Nat) (f : Addr) (fd : FuncData) (ps : List Str) (sp : Sp) : Prop where
  len : ∀ vs H Q E, sp vs H Q E → vs.length = ps.length
  run : ∀ (A : Around) (outer : List Env) (s : Shared) (H : Hp) (args : Args) (us : List Value) (vs : List V) (Q : VK) (E : XK), Room k A → A.guards = some [] → Env0 P w K mg base A outer s H →
    BindsTo s fd args (ps.zip us) → Vals vs us → sp vs H Q E → codeAny (model P w) A (.call (.ref f) args) (CR CX outer P w H s Q E) s
theorem FnG.imp {P : Program} {w : World} {K : PySem.W.Frag} {mg : Str → Option Value} {base : Heap} {CX : CXT} {k : Nat} {f : Addr} {fd : FuncData} {ps : List Str} {sp sp' : Sp} (F : FnG P w K mg base CX k f fd ps sp)
    (i : ∀ vs H Q E, sp' vs H Q E → sp vs H Q E) : FnG P w K mg base CX k f fd ps sp' :=
  ⟨fun vs H Q E q => F.len vs H Q E (i _ _ _ _ q), fun A outer s H args us vs Q E rm g e b v z => F.run A outer s H args us vs Q E rm g e b v (i _ _ _ _ z)⟩
section
variable {X : Cx} {CX : CXT} {k : Nat} {f : Addr} {fd : FuncData} {ps : List Str} {sp : Sp} {E : XK} {x : Str} {p pos : Pos} {e : Expr} {es : List Expr} {t : TA}
theorem run_G {pins : List (Addr × Obj)} {σ : L2.St} {H : Hp} {s : Shared} {Q : VK} {us : List Value} {vs : List V} (F : FnG X.prog X.w X.K X.mg X.base CX k f fd ps sp) (rm : Room k X.A) (gd : X.A.guards = some []) (bd : Binds X.K fd ps []) (px : Passes CX X E)
    (I : Inv X pins σ H s) (rv : Vals vs us) (z : sp vs H Q E) : wpAny (model X.prog X.w) X.A (call (.ref f) us) (EP X pins σ Q) X.xe s := by
  have ln : us.length = ps.length := by rw [← rv.length]; exact F.len _ _ _ _ z
  have b2 : BindsTo s fd ⟨us, []⟩ (ps.zip us) := by
    have q := bd s us I.kIn (by rw [List.append_nil]; exact ln)
    rwa [List.append_nil] at q
  refine wpAny_call (codeAny_mono (F.run X.A X.stack s H ⟨us, []⟩ us vs Q E rm gd I.env0 b2 rv z) fun r s2 c => ?_)
  match r, c with
  | .error er, c => exact px pins σ H s er s2 I c
  | .ok (.ret u), c => exact I.after c
theorem pe_callG (F : FnG X.prog X.w X.K X.mg X.base CX k f fd ps sp) (rm : Room k X.A) (gd : X.A.guards = some []) (gx : Gl X x) (mx : X.mg x = some (.ref f)) (kf : PySem.W.keepIn X.K (.ref f) = true) (bd : Binds X.K fd ps []) (px : Passes CX X E)
    (pa : PA X (e :: es) t) (d1 : (x == ("__debug__" : Str)) = false := by decide) (s1 : starEach (e :: es) X.env = (false, eval e X.env) :: starEach es X.env := by rfl) (p1 : (backTo pos (starEach es X.env)).any (·.1) = false := by rfl) :
    PE X (.Call (.Name x p) (e :: es) [] pos) (tCall sp [] E t) := ⟨fun pins s σ H Q I z => by
  refine wpAny_Call_Name_kw (ld_glob I gx mx ?_ d1)
  refine PySem.W.callWith_K (h₀ := X.base) I.ok.mod.kin kf (thn (pa.run pos pins s σ H _ I z) fun us s2 ⟨vs, H1, I1, rv, c⟩ => ⟨I1.kIn, ?_⟩) s1 p1
  have c : sp (vs ++ []) H1 Q E := c
  rw [List.append_nil] at c
  exact run_G F rm gd bd px I1 rv c⟩
theorem pe_callG0 (F : FnG X.prog X.w X.K X.mg X.base CX k f fd ps sp) (rm : Room k X.A) (gd : X.A.guards = some []) (gx : Gl X x) (mx : X.mg x = some (.ref f)) (kf : PySem.W.keepIn X.K (.ref f) = true) (bd : Binds X.K fd ps []) (px : Passes CX X E)
    (d1 : (x == ("__debug__" : Str)) = false := by decide) : PE X (.Call (.Name x p) [] [] pos) (tCall sp [] E tNil) := ⟨fun pins s σ H Q I z =>
  wpAny_Call_Name_kw (ld_glob I gx mx (PySem.W.callWith_K0 I.kIn kf (run_G (us := []) F rm gd bd px I .nil z)) d1)⟩
end
/-- a def from its body's reading over plain data -/
theorem fn_DG {K : PySem.W.Frag} {T : List (Addr × Str)} {ca : Nat → Addr} {P : Program} {w : World} {mg : Str → Option Value} {base : Heap} {x : Str} {st : Stmt} {f : Addr} {fd : FuncData} {N ps : List Str} {k : Nat} {B : SemS} (F : Fun K x x st f fd) (S : FnScope N ps (defScope st)) (hl : ps.length ≤ N.length)
    (hb : ∀ (cdv : Value) (A : Around) (outer : List Env) (s : Shared) (H : Hp) (E : XK), Room k (A.deeper (envOfC x (defScope st) s.heap.objs.size f cdv)) → A.guards = some [] →
      PSs (cxOf (L2.CX P w) P w K mg base N x (defScope st) f cdv A outer s H E) (defBody st) (tS ⟨K, T, ca, E⟩ B)) : FnG P w K mg base (L2.CX P w) (k + 1) f fd ps (spD K T ca ps.length (runF N.length B)) := by
  obtain ⟨oc, od, kV, doc, pm, an, cdv, ct, osl, rfl, lk, hcd⟩ := F.ex
  refine ⟨fun vs H Q E z => z.1, fun A outer s H args us vs Q E rm gd e0 bt rv z => ?_⟩
  exact run_ofS lk hcd S rm e0 bt rv z.1 fun r2 => ⟨_, hb cdv A outer s H E r2 gd, run_start z hl⟩
theorem fn_likeG {K : PySem.W.Frag} {T : List (Addr × Str)} {ca : Nat → Addr} {P : Program} {w : World} {mg : Str → Option Value} {base : Heap} {CX : CXT} {k n : Nat} {f : Addr} {fd : FuncData} {ps : List Str} {g h : Fn} (F : FnG P w K mg base CX k f fd ps (spD K T ca n g)) (e : ∀ args, h args ≠ .bad → g args = h args) : FnG P w K mg base CX k f fd ps (spD K T ca n h) :=
  F.imp fun vs H Q E ⟨hn, H0, args, sr, ho, p⟩ => ⟨hn, H0, args, sr, ho, by
    rw [e args (fun z => by rw [z] at p; exact p)]
    exact p⟩
section
variable {C : Ct} {X : Cx} {k n : Nat} {fd : FuncData} {ps : List Str} {g : Fn} {x : Str} {p pos : Pos} {a : Expr} {es : List Expr} {G : Sem' (List Op)}
theorem dv_callG {fa : Addr} (F : FnG X.prog X.w X.K X.mg X.base (L2.CX X.prog X.w) k fa fd ps (spD C.K C.T C.ca n g)) (rm : Room k X.A) (gd : X.A.guards = some []) (hg : Gl X x) (hm : X.mg x = some (.ref fa)) (hk : PySem.W.keepIn X.K (.ref fa) = true) (hb : Binds X.K fd ps []) (hx : Passes (L2.CX X.prog X.w) X C.E)
    (ha : PA X (a :: es) (tA C G)) (hdb : (x == ("__debug__" : Str)) = false := by decide) (he : starEach (a :: es) X.env = (false, eval a X.env) :: starEach es X.env := by rfl) (hpl : (backTo pos (starEach es X.env)).any (·.1) = false := by rfl) :
    PE X (.Call (.Name x p) (a :: es) [] pos) (tV C (dCall n g G)) := (pe_callG F rm gd hg hm hk hb hx ha hdb he hpl).imp fun σ H Q h => call_imp h
theorem dv_callG0 {fa : Addr} (F : FnG X.prog X.w X.K X.mg X.base (L2.CX X.prog X.w) k fa fd ps (spD C.K C.T C.ca 0 g)) (rm : Room k X.A) (gd : X.A.guards = some []) (hg : Gl X x) (hm : X.mg x = some (.ref fa)) (hk : PySem.W.keepIn X.K (.ref fa) = true) (hb : Binds X.K fd ps []) (hx : Passes (L2.CX X.prog X.w) X C.E)
    (hdb : (x == ("__debug__" : Str)) = false := by decide) : PE X (.Call (.Name x p) [] [] pos) (tV C (dCall 0 g aNil)) := (pe_callG0 F rm gd hg hm hk hb hx hdb).imp fun σ H Q h => by
  obtain ⟨H0, en, s, p⟩ := call_imp h
  exact p H0 H [] Stp.refl s trivial
end
/-- the law called at the head, with tables of code objects and the guards of the call -/
theorem law_callG {P : Program} {w : World} {K : PySem.W.Frag} {mg mB01 : Str → Option Value} {CX : CXT} {k : Nat} {fa a : Addr} {cs : List (Addr × Addr)} {fd : FuncData} {x : Str} {sp : Sp} {s₁ : Shared} {vs : List Value} {ns : List Int}
    (kl1 : ∀ (b : Addr) (o : Obj), K.lookup b = some o → o.cls ≠ .type "list")
    (kI1 : K.In s₁.heap) (nG1 : s₁.heap.Ns mainGlobals mg) (vB1 : s₁.heap.Ns builtinsNs mB01) (bB1 : ∀ x : Str, x ≠ "__name__" → mB01 x = bootBuiltins x) (lM1 : s₁.heap.NoLimit) (hg : s₁.gens = #[])
    (tO1 : ∀ p ∈ cs, s₁.heap.get? p.2 = some { cls := .none, data := .fields #[] }) (tN1 : ∀ p ∈ cs, K.lookup p.2 = none) (C : ∀ p ∈ cs, PySem.W.CodeHd s₁.heap p.1 p.2)
    (bM1 : ∃ (bA1 : Addr) (oB1 : Obj), mg "__builtins__" = some (.ref bA1) ∧ bA1 ≠ builtinsNs ∧ s₁.heap.get? bA1 = some oB1 ∧ oB1.cls = .type "module" ∧ oB1.dict = some builtinsNs ∧ oB1.data = .plain)
    (aO1 : s₁.heap.get? a = some { cls := .type "list", data := .seq vs.toArray }) (iV1 : IntsAre vs ns) (lZ1 : ns.length ≤ sizeLine) (rM1 : Room k callerA)
    (F : ∀ base : Heap, K.In base → base.Ns mainGlobals mg → (∀ p ∈ cs, TabB base mg p.1 p.2) → FnG P w K mg base CX k fa fd [x] sp) (bD1 : ∀ (s : Shared) (u : Value), BindsTo s fd ⟨[u], []⟩ [(x, u)])
    (sP1 : ∀ H : Hp, (∀ p ∈ cs, H p.2 = some (.tbl #[])) → Rd H a (.lst (ns.map V.int)) → sp [.ref a] H (fun v _ => v = .bl true) fun _ _ _ => False)
    (cN1 : ∀ H e s', CX [] H s₁ (fun _ _ _ => False) e s' → False) :
    codeAny (model P w) callerA (.call (.ref fa) ⟨[.ref a], []⟩) (fun r s' => r = .ok (.ret (.bool true)) ∧ OldK s₁.heap s'.heap ∧ s'.os = s₁.os ∧ AllBare s'.gens) s₁ := by
  have rV1 := vals_ints iV1
  have vL1 := iV1.length
  have iT1 : ∀ b : Addr, b ∈ cs.map (·.2) → s₁.heap.get? b = some { cls := .none, data := .fields #[] } := fun b vB1 => by
    obtain ⟨p, hp, e⟩ := List.mem_map.mp vB1
    rw [← e]
    exact tO1 p hp
  have aN1 : a ∉ cs.map (·.2) := fun z => by
    have q := iT1 a z
    rw [aO1] at q
    have z' : Data.seq vs.toArray _ = Data.fields #[] := congrArg Obj.data (Option.some.inj q)
    cases z'
  have mT1 : ∀ p ∈ cs, p.2 ∈ cs.map (·.2) := fun p hp => List.mem_map.mpr ⟨p, hp, rfl⟩
  -- from an abstract heap in which nothing but the script and the tables may be tracked
  have cor1 : ∀ H : Hp, (∀ p ∈ cs, H p.2 = some (.tbl #[])) → (∀ b, H b = none ∨ b ∈ cs.map (·.2) ∨ ∃ o xs, H b = some (.frz o (.lst xs))) → Rd H a (.lst (ns.map V.int)) → HOk P w H s₁.heap → (∀ b, H b ≠ none → b = a ∨ b ∈ cs.map (·.2)) → (H a ≠ none → K.lookup a = none) →
      codeAny (model P w) callerA (.call (.ref fa) ⟨[.ref a], []⟩) (fun r s' => r = .ok (.ret (.bool true)) ∧ OldK s₁.heap s'.heap ∧ s'.os = s₁.os ∧ AllBare s'.gens) s₁ := by
    intro H tH1 oH1 sH1 kH1 aH1 lH1
    have toB1 : ∀ {b : Addr} {o : Obj}, s₁.heap.get? b = some o → H b = none → (hidT s₁.heap H).get? b = some o := fun e n => hidT_get e n
    have dN1 : ∀ {b : Addr} {o : Obj}, s₁.heap.get? b = some o → (∀ vs n, o.data ≠ .seq vs n) → o.data ≠ .fields #[] → H b = none := fun {b o} e h1 h2 => by
      cases q : H b with
      | none => rfl
      | some u =>
        rcases aH1 b (by rw [q]; simp) with e' | e'
        · rw [e', aO1] at e
          cases e
          exact (h1 _ _ rfl).elim
        · rw [iT1 b e'] at e
          cases e
          exact (h2 rfl).elim
    have dA1 : ∀ {b : Addr} {o : Obj} {es : Array DictEntry} {ep : Nat}, s₁.heap.get? b = some o → o.data = .dict es ep → H b = none := fun {b o es ep} e d => by
      refine dN1 e (fun vs n z => ?_) fun z => ?_
      · rw [d] at z
        cases z
      · rw [d] at z
        cases z
    have nB1 : ∀ {b : Addr} {m : Str → Option Value}, s₁.heap.Ns b m → (hidT s₁.heap H).Ns b m := fun {b m} ⟨o, es, ep, e, d, r⟩ => ⟨o, es, ep, toB1 e (dA1 e d), d, r⟩
    have kB1 : K.In (hidT s₁.heap H) := fun b o e => toB1 (kI1 b o e) (by
      cases q : H b with
      | none => rfl
      | some u =>
        rcases aH1 b (by rw [q]; simp) with e' | e'
        · rw [e'] at e q
          rw [lH1 (by rw [q]; simp)] at e
          cases e
        · obtain ⟨p, hp, ep⟩ := List.mem_map.mp e'
          rw [← ep, tN1 p hp] at e
          cases e)
    have mB1 : L2.Mod K mg (hidT s₁.heap H) := ⟨kB1, nB1 nG1, ⟨mB01, nB1 vB1, bB1⟩, let ⟨mc, h1, h2⟩ := lM1; ⟨mc, nB1 h1, h2⟩⟩
    have cB1 : ∀ p ∈ cs, TabB (hidT s₁.heap H) mg p.1 p.2 := fun p hp => by
      have hTp := tO1 p hp
      refine ⟨?_, ?_, fun z => ?_⟩
      · obtain ⟨o, us, file, tf, flags, tg, inF, text, tt, e1, r1, r2, r3, r4, r5, r6, r7, r8, nE1⟩ := C p hp
        refine ⟨o, us, file, tf, flags, tg, inF, text, tt, toB1 e1 (dN1 e1 (fun vs n z => ?_) fun z => ?_), r1, r2, r3, r4, r5, r6, r7, r8, nE1⟩
        · rw [r2] at z
          cases z
        · rw [r2] at z
          cases z
          simp at r3
      · obtain ⟨bA1, oB1, b1, b2, b3, b4, b5, b6⟩ := bM1
        have gN1 : bA1 ≠ mainGlobals := fun q => by
          obtain ⟨o, es, ep, e, dE1, _⟩ := nG1
          rw [q, e] at b3
          cases b3
          rw [dE1] at b6
          cases b6
        have pN1 : bA1 ≠ p.2 := fun q => by
          rw [q, hTp] at b3
          cases b3
          cases b6
        refine ⟨bA1, oB1, b1, b2, gN1, pN1, toB1 b3 (dN1 b3 (fun vs n z => ?_) fun z => ?_), b4, b5, b6⟩
        · rw [b6] at z
          cases z
        · rw [b6] at z
          cases z
      · obtain ⟨o, es, ep, e, dE1, _⟩ := nG1
        rw [z, hTp] at e
        cases e
        cases dE1
    have e0 : Env0 P w K mg (hidT s₁.heap H) callerA [] s₁ H := ⟨rfl, mB1, fun b o e => of_hidT e, Nat.le_of_eq (hidT_size _ _), trivial, fun b vB1 => absurd (show b ∈ ([] : List Addr) from vB1) (by simp), kH1, .of_eq hg⟩
    refine codeAny_mono ((F _ kB1 (nB1 nG1) cB1).run callerA [] s₁ H ⟨[.ref a], []⟩ [.ref a] [.ref a] _ _ rM1 rfl e0 (bD1 s₁ (.ref a)) (.cons rfl .nil) (sP1 H tH1 sH1)) fun r s' h => ?_
    cases r with
    | error e => exact (cN1 H e s' h).elim
    | ok fl =>
      cases fl with
      | next => exact False.elim h
      | brk => exact False.elim h
      | cont => exact False.elim h
      | ret u =>
        obtain ⟨v, H', os, bare, uN1, hok', r', q⟩ := h
        have q' : v = .bl true := q
        subst q'
        obtain rfl : u = Value.bool true := r'
        have kp01 : ∀ b o, b ∉ cs.map (·.2) → s₁.heap.get? b = some o → s'.heap.get? b = some o := fun b o nb e => by
          cases q : H b with
          | none => exact uN1.keep b o e q (by intro z; exact absurd (show b ∈ ([] : List Addr) from z) (by simp)) (by simp)
          | some u =>
            rcases oH1 b with z | z | ⟨oB1, xs, z⟩
            · rw [q] at z; cases z
            · exact absurd z nb
            · have z2 := uN1.frzs b oB1 _ z
              obtain ⟨e1, _⟩ := kH1 b _ z
              obtain ⟨e2, _⟩ := hok' b _ z2
              rw [e] at e1; cases e1
              exact e2
        have gw1 : ∀ p ∈ cs, ∃ more : Array Value, s'.heap.get? p.2 = some { cls := .none, data := .fields more } := fun p hp => by
          obtain ⟨more, z⟩ := uN1.tbls p.2 #[] (tH1 p hp)
          exact ⟨_, hok' p.2 _ z⟩
        refine ⟨rfl, ⟨fun b o e => ?_, fun b o e => ?_⟩, os, bare⟩
        · by_cases vB1 : b ∈ cs.map (·.2)
          · obtain ⟨p, hp, ep⟩ := List.mem_map.mp vB1
            obtain ⟨more, hm⟩ := gw1 p hp
            rw [← ep] at e ⊢
            rw [tO1 p hp] at e
            cases e
            exact .inr (.inl ⟨((C p hp).tab (tO1 p hp)).isCodeTable, rfl, #[], more, rfl, by rw [Array.empty_append]; exact hm⟩)
          · exact .inl (kp01 b o vB1 e)
        · by_cases vB1 : b ∈ cs.map (·.2)
          · obtain ⟨p, hp, ep⟩ := List.mem_map.mp vB1
            obtain ⟨more, hm⟩ := gw1 p hp
            rw [← ep]
            exact ⟨_, hm⟩
          · exact ⟨o, kp01 b o vB1 e⟩
  cases hk : K.lookup a with
  | some o =>
    have e := kI1 a o hk
    rw [aO1] at e
    cases e
    exact absurd rfl (kl1 a _ hk)
  | none =>
    refine cor1 (fun b => if b = a then some (.frz { cls := .type "list", data := .seq vs.toArray } (.lst (ns.map V.int))) else if b ∈ cs.map (·.2) then some (.tbl #[]) else none) (fun p hp => (if_neg (show ¬ p.2 = a from fun z => aN1 (by rw [← z]; exact mT1 p hp))).trans (if_pos (mT1 p hp))) (fun b => ?_)
      (.inr ⟨{ cls := .type "list", data := .seq vs.toArray }, if_pos rfl⟩) (fun b u z => ?_) (fun b z => ?_) fun _ => hk
    · by_cases vB1 : b = a
      · exact .inr (.inr ⟨_, _, if_pos vB1⟩)
      · by_cases hb2 : b ∈ cs.map (·.2)
        · exact .inr (.inl hb2)
        · exact .inl ((if_neg vB1).trans (if_neg hb2))
    · by_cases vB1 : b = a
      · have z' := (if_pos vB1).symm.trans z
        cases z'
        rw [vB1]
        exact ⟨aO1, by rw [List.length_map]; exact lZ1, vs, _, rV1, aO1⟩
      · have z1 := (if_neg vB1).symm.trans z
        by_cases hb2 : b ∈ cs.map (·.2)
        · have z' := (if_pos hb2).symm.trans z1
          cases z'
          exact iT1 b hb2
        · have z' := (if_neg hb2).symm.trans z1
          cases z'
    · by_cases vB1 : b = a
      · exact .inl vB1
      · by_cases hb2 : b ∈ cs.map (·.2)
        · exact .inr hb2
        · exact absurd ((if_neg vB1).trans (if_neg hb2)) z
/-- the law's promise, told at the head's heap -/
def LawG (l : PySem.W.OpenLaw) (w : World) (K : PySem.W.Frag) (CX : CXT) (k n : Nat) (x : Str) (mg : Str → Option Value) (fa : Addr) (h : Heap) : Prop :=
  ∃ (fd : FuncData) (cs : List (Addr × Addr)) (sp : Sp), (∀ p ∈ cs, h.get? p.2 = some { cls := .none, data := .fields #[] }) ∧ (∀ p ∈ cs, K.lookup p.2 = none) ∧ (∀ p ∈ cs, PySem.W.CodeHd h p.1 p.2) ∧ (∀ (s : Shared) (u : Value), BindsTo s fd ⟨[u], []⟩ [(x, u)]) ∧
    (∀ (b : Addr) (o : Obj), K.lookup b = some o → o.cls ≠ .type "list") ∧ (∀ (H : Hp) (a : Addr) (ns : List Int), ns.length ≤ n → (∀ z ∈ ns, Builtin.Int.intBits z ≤ 1048576) → (∀ p ∈ cs, H p.2 = some (.tbl #[])) → Rd H a (.lst (ns.map V.int)) → sp [.ref a] H (fun v _ => v = .bl true) fun _ _ _ => False) ∧
    ∀ base : Heap, K.In base → base.Ns mainGlobals mg → (∀ p ∈ cs, TabB base mg p.1 p.2) → FnG l.prog w K mg base CX k fa fd [x] sp
theorem walk_G {l : PySem.W.OpenLaw} {n k : Nat} {q : Program} {loose : List Str} {XP : (Str → Option Value) → Heap → Prop} {YP : World → Heap → Prop} {d : DefRec} {K : Params → PySem.W.Frag} {CX : World → CXT} {x : Str}
    (hm01 : l.most = some n) (hz01 : n ≤ sizeLine) (dF1 : d.params.defaults = []) (rM1 : Room k callerA) (yK1 : ∀ (w : World) (h : Heap), YP w h → (K w.params).In h)
    (F : ∀ (w : World) (mg : Str → Option Value) (fa : Addr) (h : Heap), XP mg h → YP w h → (K w.params).In h → h.Ns mainGlobals mg → mg d.name = some (.ref fa) → LawG l w (K w.params) (CX w) k n x mg fa h)
    (cN1 : ∀ (w : World) (H : Hp) (s : Shared) (e : Value) (s' : Shared), CX w [] H s (fun _ _ _ => False) e s' → False) :
    PySem.W.WalkO q loose XP YP l.row.toRowW d [] (fun f vs => PySem.call f vs) := by
  refine Att.attach_callB hm01 dF1 fun w s₀ s₁ mg mB01 fa o pm cd doc a vs ns G Y ho dE1 hcd hmg hobj hints hlen hbits hg => ?_
  have kI1 := yK1 w _ Y
  obtain ⟨fd, cs, sp, tO1, tN1, C, vB1, kl1, sP1, hF⟩ := F w mg fa _ G.X Y kI1 G.T.g hmg
  exact law_callG kl1 kI1 G.T.g G.T.b G.T.builtins G.T.nolimit hg tO1 tN1 C G.T.bmain hobj hints (Nat.le_trans hlen hz01) rM1 hF vB1 (fun H tH1 sH1 => sP1 H a ns hlen hbits tH1 sH1) fun H e s' => cN1 w H s₁ e s'
/-- a constant of the module -/
theorem loose_int {lv : List (Str × PySem.W.WData)} {mg : Str → Option Value} {h : Heap} (L : PySem.W.LooseAre lv mg h) {x : Str} {i : Int} (m : (x, PySem.W.WData.int i) ∈ lv) : ∃ t, mg x = some (.int i t) := by
  obtain ⟨v, e, r⟩ := L.val _ m
  cases r
  exact ⟨_, e⟩
/-- the law's own promise, from what its reading comes to -/
theorem law_sp {K : PySem.W.Frag} {T : List (Addr × Str)} {ca : Nat → Addr} {H : Hp} {a : Addr} {ns : List Int} {F : Fn} {as : List Sl} (e : F [.dat (.list (ns.map PyData.int))] = .ok (.dat (.bool true), as)) (hT : ∀ p ∈ T, H p.1 = some (.tbl #[])) (hS : Rd H a (.lst (ns.map V.int))) :
    spD K T ca 1 F [.ref a] H (fun v _ => v = .bl true) fun _ _ _ => False := by
  refine ⟨rfl, fun b => if b = a then H a else none, [.dat (.list (ns.map PyData.int))], ⟨rfl, fun b u h => ?_, fun p hp => TabS.nil (hT p hp), fun p ps h => ?_, fun i d h => ?_, fun i io ds h => ?_, fun i j io ds jo es p n h => ?_⟩, fun i ds h => ?_, ?_⟩
  · by_cases z : b = a
    · rw [if_pos z] at h
      rw [z]
      exact h
    · rw [if_neg z] at h
      cases h
  · by_cases z : p = a
    · rw [if_pos z] at h
      rcases hS with q | ⟨o, q⟩ <;> (rw [q] at h; cases h)
    · rw [if_neg z] at h
      cases h
  · match i, h with
    | 0, h =>
      cases h
      refine ⟨.ref a, rfl, .lst (xs := ns.map V.int) ?_ (RpAll.of_ints ns)⟩
      rcases hS with q | ⟨o, q⟩
      · exact .inl ((if_pos rfl).trans q)
      · exact .inr ⟨o, (if_pos rfl).trans q⟩
    | _ + 1, h => simp at h
  · match i, h with
    | 0, h => cases h
    | _ + 1, h => simp at h
  · match i, h with
    | 0, h => cases h
    | _ + 1, h => simp at h
  · match i, h with
    | 0, h => cases h
    | _ + 1, h => simp at h
  · rw [e]
    intro H0' H' v st sr r
    have r : Rp K H0' v (.bool true) := r
    cases r
    rfl
end PD
end
section
/-! PX5: defs that make lambdas (their code object is told), what the head tells of them. -/
namespace PD
open PySem PySem.Spec PyProof.Rows L2 Evl LamX
/-- a def whose code object stands at c -/
structure FunC (K : PySem.W.Frag) (x : Str) (st : Stmt) (f : Addr) (fd : FuncData) (c : Addr) : Prop where
  ex : ∃ (oc : Value) (od : Option Addr) (kV doc pm : Value) (an : Option Addr) (ct : Value) (osl : Array (Option Value)),
    fd = PySem.W.fnOf x x (defArgs st) (defBody st) (defScope st) .none kV doc pm an (.ref c) ct ∧ K.lookup f = some ⟨oc, od, .func fd, osl⟩ ∧ PySem.W.codeIn K (.ref c) x = true
  kp : PySem.W.keepIn K (.ref f) = true
theorem fn_DC {K : PySem.W.Frag} {T : List (Addr × Str)} {ca : Nat → Addr} {P : Program} {w : World} {mg : Str → Option Value} {base : Heap} {x : Str} {st : Stmt} {f c : Addr} {fd : FuncData} {N ps : List Str} {k : Nat} {B : SemS} (F : FunC K x st f fd c) (S : FnScope N ps (defScope st)) (hl : ps.length ≤ N.length)
    (hb : ∀ (A : Around) (outer : List Env) (s : Shared) (H : Hp) (E : XK), Room k (A.deeper (envOfC x (defScope st) s.heap.objs.size f (.ref c))) →
      PSs (cxOf (L2.CX P w) P w K mg base N x (defScope st) f (.ref c) A outer s H E) (defBody st) (tS ⟨K, T, ca, E⟩ B)) : FnOk P w K mg base (L2.CX P w) (k + 1) f fd ps (spD K T ca ps.length (runF N.length B)) := by
  obtain ⟨oc, od, kV, doc, pm, an, ct, osl, rfl, lk, hcd⟩ := F.ex
  exact fn_of lk hcd S (fun vs H Q E z => z.1) fun A outer s H vs Q E rm z => ⟨_, hb A outer s H E rm, run_start z hl⟩
theorem fn_DCG {K : PySem.W.Frag} {T : List (Addr × Str)} {ca : Nat → Addr} {P : Program} {w : World} {mg : Str → Option Value} {base : Heap} {x : Str} {st : Stmt} {f c : Addr} {fd : FuncData} {N ps : List Str} {k : Nat} {B : SemS} (F : FunC K x st f fd c) (S : FnScope N ps (defScope st)) (hl : ps.length ≤ N.length)
    (hb : ∀ (A : Around) (outer : List Env) (s : Shared) (H : Hp) (E : XK), Room k (A.deeper (envOfC x (defScope st) s.heap.objs.size f (.ref c))) → A.guards = some [] →
      PSs (cxOf (L2.CX P w) P w K mg base N x (defScope st) f (.ref c) A outer s H E) (defBody st) (tS ⟨K, T, ca, E⟩ B)) : FnG P w K mg base (L2.CX P w) (k + 1) f fd ps (spD K T ca ps.length (runF N.length B)) := by
  obtain ⟨oc, od, kV, doc, pm, an, ct, osl, rfl, lk, hcd⟩ := F.ex
  refine ⟨fun vs H Q E z => z.1, fun A outer s H args us vs Q E rm gd e0 bt rv z => ?_⟩
  exact run_ofS lk hcd S rm e0 bt rv z.1 fun r2 => ⟨_, hb A outer s H E r2 gd, run_start z hl⟩
theorem FnOk.g {P : Program} {w : World} {K : PySem.W.Frag} {mg : Str → Option Value} {base : Heap} {CX : CXT} {k : Nat} {f : Addr} {fd : FuncData} {ps : List Str} {sp : Sp} (F : FnOk P w K mg base CX k f fd ps sp) : FnG P w K mg base CX k f fd ps sp :=
  ⟨F.len, fun A outer s H args us vs Q E rm _ => F.run A outer s H args us vs Q E rm⟩
theorem nd_hu {T : List (Addr × Str)} (h : (T.map (·.1)).Nodup) {P : Addr} {q : Str} (m : (P, q) ∈ T) : ∀ p ∈ T, p.1 = P → p.2 = q := by
  induction T with
  | nil => cases m
  | cons a T ih =>
    have h := List.nodup_cons.mp h
    intro p hp e
    rcases List.mem_cons.mp m with m1 | m1
    · rcases List.mem_cons.mp hp with hp | hp
      · rw [hp, ← m1]
      · exact absurd (List.mem_map.mpr ⟨p, hp, e.trans (by rw [← m1])⟩) h.1
    · rcases List.mem_cons.mp hp with hp | hp
      · exact absurd (show a.1 ∈ T.map (·.1) from List.mem_map.mpr ⟨(P, q), m1, by rw [← hp]; exact e.symm⟩) h.1
      · exact ih h.2 m1 p hp e
/-- x(lambda: body), x a def of the text -/
theorem dl_said {C : Ct} {X : Cx} {okF : PyData → R PyData} {exF : Nat → R PyData} {F : Sem' PyData} {x a : Str} {g c P : Addr} {k : Nat} {st : Stmt} {fd : FuncData} {Ng : List Str}
    {params : Arguments} {body : Expr} {scope : Scope} {p lpos pos : Pos} (hg : Gl X x) (hm : X.mg x = some (.ref g)) (Fg : Fun X.K x x st g fd) (hb : L2.Binds X.K fd [a] []) (Sg : FnScope Ng [a] (defScope st)) (hNg : Ng[0]? = some a) (hva : Vis (defScope st) a)
    (hG : ∀ cdv, GivesTo X Ng x (defScope st) g cdv (defBody st) a (X.env.qual ++ "<lambda>") (TSaid C okF exF))
    (TB : TabB X.base X.mg c P) (hcode : X.env.code = .ref c) (hmT : (P, X.env.qual ++ "<lambda>") ∈ C.T) (hnd : (C.T.map (·.1)).Nodup) (hr : Room (k + 2) X.A) (L : LamS X.env.scope scope) (hdef : defaultsOf params X.env = ([], []))
    (hbind : ∀ (q : Str) (cl : List (Str × Addr)) (pm cv ctv : Value), bindArgs (PySem.W.kla_fn "<lambda>" q params body scope cl pm cv ctv) ⟨[], []⟩ = pure [])
    (hbody : ∀ (A : Around) (outer : List Env) (s : Shared) (H : Hp) (E : XK) (f c' : Addr), Room k (A.deeper (lamEnv X scope s.heap.objs.size f c')) → PE (lamCx X A outer s H E scope f c') body (tE ⟨C.K, C.T, C.ca, E⟩ F))
    (hdb : (x == ("__debug__" : Str)) = false := by decide) (hd : (a == ("__debug__" : Str)) = false := by decide) (hcd : (a == ("__classdict__" : Str)) = false := by decide) :
    PE X (.Call (.Name x p) [.Lambda params body scope lpos] [] pos) (tE C (dSaid okF exF F)) := by
  obtain ⟨oc, od, kV, doc, pm, an, cdv, ct, osl, rfl, lk, hcg⟩ := Fg.ex
  exact de_said hg hm Fg.kp lk hcg hb Sg hNg hva (hG cdv) TB hcode hmT (nd_hu hnd hmT) hr L hdef hbind hbody hdb hd hcd
theorem mem_lk : ∀ {K : List (Addr × Obj)} {a : Addr} {o : Obj}, K.lookup a = some o → (a, o) ∈ K
  | [], _, _, h => by cases h
  | (b, u) :: r, a, o, h => by
    unfold List.lookup at h
    split at h
    · rename_i e
      have e : a = b := by simpa using e
      cases h
      rw [e]
      exact List.mem_cons_self
    · exact List.mem_cons_of_mem _ (mem_lk h)
/-- no list stands in the written part -/
def noLists (K : PySem.W.Frag) : Bool := K.all fun p => match p.2.cls with
  | .type n => n != "list"
  | _ => true
theorem noLists_ok {K : PySem.W.Frag} (h : noLists K = true) (a : Addr) (o : Obj) (e : K.lookup a = some o) : o.cls ≠ .type "list" := fun z => by
  have q := List.all_eq_true.mp h _ (mem_lk e)
  simp [z] at q
theorem cx_none {P : Program} {w : World} {H : Hp} {s s' : Shared} {e : Value} (h : L2.CX P w [] H s (fun _ _ _ => False) e s') : False := by
  obtain ⟨_, _, _, _, _, _, _, _, _, _, _, _, z⟩ := h
  exact z
end PD
end
section
/-! PL: what readings come to: comprehensions and loops over lists, told as plain lists. -/
namespace PD
open PySem PySem.Spec L2 Evl
/-- a comprehension whose items change nothing -/
theorem lc_pure {ws : List Nat} {e : En} {vs : List Nat} {tg : PyData → En → R En} {tst : Sem' Bool} {elt : Sem' PyData} (f : PyData → Option PyData) : ∀ (xs : List PyData),
    (∀ x ∈ xs, ∃ e1 b e2, tg x e = .ok e1 ∧ tst e1 = .ok (b, e2) ∧ (if b = true then ∃ y e3, elt e2 = .ok (y, e3) ∧ wipeE e3 vs = e ∧ f x = some y else wipeE e2 vs = e ∧ f x = none)) →
    lcLoop ws e vs tg tst elt xs e = .ok (xs.filterMap f, e)
  | [], _ => by
    unfold lcLoop
    rw [keepW_self]
    rfl
  | x :: xs, h => by
    obtain ⟨e1, b, e2, h1, h2, h3⟩ := h x List.mem_cons_self
    have ih := lc_pure (ws := ws) (e := e) (vs := vs) (tg := tg) (tst := tst) (elt := elt) f xs fun y hy => h y (List.mem_cons_of_mem _ hy)
    unfold lcLoop
    rw [keepW_self, h1]
    simp only [lift_ok, R.bind_ok, h2]
    cases b with
    | true =>
      simp only [if_true] at h3 ⊢
      obtain ⟨y, e3, h4, h5, h6⟩ := h3
      rw [h4]
      simp only [lift_ok, R.bind_ok, h5, ih, List.filterMap_cons, h6]
    | false =>
      simp only [Bool.false_eq_true, if_false] at h3 ⊢
      obtain ⟨h5, h6⟩ := h3
      simp only [h5, ih, List.filterMap_cons, h6]
/-- all items told, none left out -/
theorem lc_map {ws : List Nat} {e : En} {vs : List Nat} {tg : PyData → En → R En} {elt : Sem' PyData} {α : Type} (q : α → PyData) (g : α → PyData) (xs : List α)
    (h : ∀ x ∈ xs, ∃ e1 e3, tg (q x) e = .ok e1 ∧ elt e1 = .ok (g x, e3) ∧ wipeE e3 vs = e) :
    lcLoop ws e vs tg dYes elt (xs.map q) e = .ok (xs.map g, e) := by
  induction xs with
  | nil => rw [List.map_nil]; unfold lcLoop; rw [keepW_self]; rfl
  | cons x xs ih =>
    obtain ⟨e1, e3, h1, h2, h3⟩ := h x List.mem_cons_self
    rw [List.map_cons]
    unfold lcLoop
    rw [keepW_self, h1]
    simp only [lift_ok, R.bind_ok, dYes, if_true]
    rw [h2]
    simp only [lift_ok, R.bind_ok, h3, ih fun y hy => h y (List.mem_cons_of_mem _ hy), List.map_cons]
/-- some items, by a test -/
theorem lc_filter {ws : List Nat} {e : En} {vs : List Nat} {tg : PyData → En → R En} {tst : Sem' Bool} {elt : Sem' PyData} {α : Type} (q : α → PyData) (p : α → Bool) (g : α → PyData) (xs : List α)
    (h : ∀ x ∈ xs, ∃ e1 e2, tg (q x) e = .ok e1 ∧ tst e1 = .ok (p x, e2) ∧ (p x = true → ∃ e3, elt e2 = .ok (g x, e3) ∧ wipeE e3 vs = e) ∧ (p x = false → wipeE e2 vs = e)) :
    lcLoop ws e vs tg tst elt (xs.map q) e = .ok ((xs.filter p).map g, e) := by
  induction xs with
  | nil => rw [List.map_nil]; unfold lcLoop; rw [keepW_self]; rfl
  | cons x xs ih =>
    obtain ⟨e1, e2, h1, h2, h3, h4⟩ := h x List.mem_cons_self
    have ih := ih fun y hy => h y (List.mem_cons_of_mem _ hy)
    rw [List.map_cons]
    unfold lcLoop
    rw [keepW_self, h1]
    simp only [lift_ok, R.bind_ok, h2]
    cases hp : p x with
    | true =>
      obtain ⟨e3, h5, h6⟩ := h3 hp
      simp only [if_true, h5, lift_ok, R.bind_ok, h6, ih, List.filter_cons, hp, List.map_cons]
    | false =>
      simp only [Bool.false_eq_true, if_false, h4 hp, ih, List.filter_cons, hp]
/-- a comprehension whose items change a state told by hand: e s the slots at state s -/
theorem lc_state {ws : List Nat} {S : Type} (e : S → En) {vs : List Nat} {tg : PyData → En → R En} {elt : Sem' PyData} (P : S → Prop) (G : PyData → Prop) (en1 : En) (hw : ∀ s, P s → ∀ i ∈ ws, (e s)[i]? = en1[i]?) (xs : List PyData)
    (h : ∀ x ∈ xs, ∀ s, P s → ∃ e1 y s' e3, tg x (e s) = .ok e1 ∧ elt e1 = .ok (y, e3) ∧ wipeE e3 vs = e s' ∧ P s' ∧ G y) (s : S) (hs : P s) :
    ∃ ys s', lcLoop ws en1 vs tg dYes elt xs (e s) = .ok (ys, e s') ∧ P s' ∧ ys.length = xs.length ∧ ∀ y ∈ ys, G y := by
  have kw : ∀ {α : Type} (s : S), P s → ∀ x : R α, keepW ws en1 (e s) x = x := fun s hs x => by
    unfold keepW
    rw [if_pos (hw s hs)]
  induction xs generalizing s with
  | nil =>
    refine ⟨[], s, ?_, hs, rfl, fun y hy => by cases hy⟩
    unfold lcLoop
    rw [kw s hs]
  | cons x xs ih =>
    obtain ⟨e1, y, s', e3, h1, h2, h3, h4, h5⟩ := h x List.mem_cons_self s hs
    obtain ⟨ys, s2, i1, i2, i3, i4⟩ := ih (fun z hz => h z (List.mem_cons_of_mem _ hz)) s' h4
    refine ⟨y :: ys, s2, ?_, i2, by rw [List.length_cons, List.length_cons, i3], fun z hz => ?_⟩
    · unfold lcLoop
      rw [kw s hs, h1]
      simp only [lift_ok, R.bind_ok, dYes, if_true]
      rw [h2]
      simp only [lift_ok, R.bind_ok, h3, i1]
    · rcases List.mem_cons.mp hz with rfl | hz
      · exact h5
      · exact i4 z hz
/-- a for loop that always goes on: the state from item to item -/
theorem for_state {S : Type} (e : S → En) {g : PyData → En → R En} {B : SemS} (P : Nat → S → Prop) (xs : List PyData)
    (h : ∀ (i : Nat) (x : PyData), xs[i]? = some x → ∀ s, P i s → ∃ e1 s', g x (e s) = .ok e1 ∧ (B e1 = .next (e s') ∨ B e1 = .cont (e s')) ∧ P (i + 1) s') (s : S) (hs : P 0 s) :
    ∃ s', forLoop g B xs (e s) = .next (e s') ∧ P xs.length s' := by
  induction xs generalizing s P with
  | nil => exact ⟨s, rfl, hs⟩
  | cons x xs ih =>
    obtain ⟨e1, s', h1, h2, h3⟩ := h 0 x rfl s hs
    obtain ⟨s2, i1, i2⟩ := ih (fun i => P (i + 1)) (fun i y hy => h (i + 1) y (by simpa using hy)) s' h3
    refine ⟨s2, ?_, i2⟩
    unfold forLoop
    rw [h1]
    simp only [lift_ok, ofR_ok]
    rcases h2 with h2 | h2 <;> rw [h2] <;> exact i1
theorem seq_next {S T : SemS} {en e : En} (h : S en = .next e) : sSeq S T en = T e := by unfold sSeq; rw [h]; rfl
theorem seq_ret {S T : SemS} {en e : En} {r : Rv} (h : S en = .ret r e) : sSeq S T en = .ret r e := by unfold sSeq; rw [h]; rfl
theorem seq_exc {S T : SemS} {en : En} {n : Nat} (h : S en = .exc n) : sSeq S T en = .exc n := by unfold sSeq; rw [h]; rfl
theorem dLc_ok {it : Sem' Its'} {vs ws : List Nat} {tg : PyData → En → R En} {tst : Sem' Bool} {elt : Sem' PyData} {en en1 e2 : En} {xs ys : List PyData} (h1 : it en = .ok ((xs, ws), en1)) (h2 : freeOf en1 vs = true) (h3 : xs.length ≤ 100000) (h4 : ws.all (fun i => !vs.contains i) = true)
    (h5 : lcLoop ws (wipeE en1 vs) vs tg tst elt xs (wipeE en1 vs) = .ok (ys, e2)) : dLc it vs tg tst elt en = .ok (ys, restE en1 e2 vs) := by
  unfold dLc
  rw [h1]
  simp only [R.bind_ok]
  rw [if_pos ⟨h2, h3, h4⟩, h5]
  rfl
theorem MulOk_r {a b : Int} (h : b.natAbs < 2 ^ 63) : MulOk a b := .inl (.inr h)
theorem MulOk_l {a b : Int} (h : a.natAbs < 2 ^ 63) : MulOk a b := .inl (.inl h)
theorem pMulA_r {a b : Int} (h : b.natAbs < 2 ^ 63) : pMulA (.int a) (.int b) = .ok (.int (a * b)) := if_pos (MulOk_r h)
theorem pMulA_l {a b : Int} (h : a.natAbs < 2 ^ 63) : pMulA (.int a) (.int b) = .ok (.int (a * b)) := if_pos (MulOk_l h)
theorem pFdiv_ok {a b : Int} (h : 0 < b) (h2 : b.natAbs < 2 ^ 8000) : pFdiv (.int a) (.int b) = .ok (.int (a / b)) := if_pos ⟨h, h2⟩
theorem pMod_ok {a b : Int} (h : 0 < b) : pMod (.int a) (.int b) = .ok (.int (a % b)) := if_pos h
theorem small_lt {b : Int} (h0 : 0 ≤ b) (h : b < 2 ^ 63) : b.natAbs < 2 ^ 63 := by omega
theorem lt8000 {b m : Nat} (hm : m ≤ 8000) (h : b < 2 ^ m) : b < 2 ^ 8000 := Nat.lt_of_lt_of_le h (Nat.pow_le_pow_right (by decide) hm)
theorem pIx_list {ds : List PyData} {i : Int} {d : PyData} (h : atI ds i = some d) : pIx (.list ds) (.int i) = .ok d := by show R.get (atI ds i) = _; rw [h]; rfl
theorem pIx_tuple {ds : List PyData} {i : Int} {d : PyData} (h : atI ds i = some d) : pIx (.tuple ds) (.int i) = .ok d := by show R.get (atI ds i) = _; rw [h]; rfl
theorem atI_nat' {ds : List PyData} {j : Nat} {d : PyData} (h : ds[j]? = some d) : atI ds (j : Int) = some d := by
  have hl := (List.getElem?_eq_some_iff.mp h).1
  unfold atI ixN
  rw [if_pos (by omega), if_pos (by omega)]
  simpa using h
theorem pFdiv_s {a b : Int} (h : 0 < b) (h2 : b < 9223372036854775808) : pFdiv (.int a) (.int b) = .ok (.int (a / b)) := pFdiv_ok h (lt8000 (m := 63) (by decide) (by omega))
theorem pMulA_m {x m b : Int} (h : 0 < m) (h2 : m < 9223372036854775808) : pMulA (.int (x % m)) (.int b) = .ok (.int (x % m * b)) := by
  have h3 := Int.emod_nonneg x (show m ≠ 0 by omega)
  have h4 := Int.emod_lt_of_pos x h
  exact pMulA_l (by omega)
theorem asg_lc {it : Sem' Its'} {vs ws : List Nat} {tg : PyData → En → R En} {tst : Sem' Bool} {elt : Sem' PyData} {en en1 e2 e' : En} {xs ys : List PyData} {i : Nat} (h1 : it en = .ok ((xs, ws), en1)) (h2 : PD.freeOf en1 vs = true) (h3 : xs.length ≤ 100000) (h4 : ws.all (fun i => !vs.contains i) = true)
    (h5 : lcLoop ws (wipeE en1 vs) vs tg tst elt xs (wipeE en1 vs) = .ok (ys, e2)) (h6 : ioAt (restE en1 e2 vs) i = false) (h7 : (restE en1 e2 vs).set i (.dat (.list ys)) = e') : sAsg (dFrz (dLc it vs tg tst elt)) (tgN i) en = .next e' := by
  unfold sAsg dFrz
  rw [dLc_ok h1 h2 h3 h4 h5]
  simp only [R.bind_ok, ofR_ok, tgN, h6, Bool.false_eq_true, if_false, lift_ok, h7]
theorem own_lc {it : Sem' Its'} {vs ws : List Nat} {tg : PyData → En → R En} {tst : Sem' Bool} {elt : Sem' PyData} {en en1 e2 e' : En} {xs ys : List PyData} {i : Nat} (h1 : it en = .ok ((xs, ws), en1)) (h2 : PD.freeOf en1 vs = true) (h3 : xs.length ≤ 100000) (h4 : ws.all (fun i => !vs.contains i) = true)
    (h5 : lcLoop ws (wipeE en1 vs) vs tg tst elt xs (wipeE en1 vs) = .ok (ys, e2)) (h6 : ioAt (restE en1 e2 vs) i = false) (h7 : (restE en1 e2 vs).set i (.own false ys) = e') : sOwn (dLc it vs tg tst elt) i en = .next e' := by
  unfold sOwn
  rw [dLc_ok h1 h2 h3 h4 h5]
  simp only [ofR_ok, h6, Bool.false_eq_true, if_false, h7]
/-- tuple of a comprehension -/
theorem tup_lc {it : Sem' Its'} {vs ws : List Nat} {tg : PyData → En → R En} {tst : Sem' Bool} {elt : Sem' PyData} {en en1 e2 e' : En} {xs ys : List PyData} (h1 : it en = .ok ((xs, ws), en1)) (h2 : PD.freeOf en1 vs = true) (h3 : xs.length ≤ 100000) (h4 : ws.all (fun i => !vs.contains i) = true)
    (h5 : lcLoop ws (wipeE en1 vs) vs tg tst elt xs (wipeE en1 vs) = .ok (ys, e2)) (h7 : restE en1 e2 vs = e') : dA pTuple (aCons (oVal (dFrz (dLc it vs tg tst elt))) aNil) en = .ok (.tuple ys, e') := by
  unfold dA aCons oVal dFrz
  rw [dLc_ok h1 h2 h3 h4 h5]
  simp [aNil, resAll, Op.res, pTuple, h7]
/-! ### lists of ints -/
theorem canLay_ints (ns : List Int) : PyData.canLayAll0 (ns.map PyData.int) = true := by
  induction ns with
  | nil => simp [PyData.canLayAll0]
  | cons n ns ih => simp [PyData.canLayAll0, PyData.canLay0, ih]
theorem depth_ints (ns : List Int) : PyData.depthAll (ns.map PyData.int) ≤ 1 := by
  induction ns with
  | nil => simp [PyData.depthAll]
  | cons n ns ih => simp [PyData.depthAll, PyData.depth]; omega
theorem nd_ints (ns : List Int) : nd.ndAll (ns.map PyData.int) = true := by
  induction ns with
  | nil => simp [nd.ndAll]
  | cons n ns ih => simp [nd.ndAll, nd, ih]
theorem plain_ints (ns : List Int) : plainD (.list (ns.map PyData.int)) = true := by
  have h1 := canLay_ints ns
  have h2 := depth_ints ns
  have h3 := nd_ints ns
  simp [plainD, nd, SeqAt.shaped, PyData.canLay0, PyData.depth, h1, h3]
  omega
theorem plain_intsT (ns : List Int) : plainD (.tuple (ns.map PyData.int)) = true := by
  have h1 := canLay_ints ns
  have h2 := depth_ints ns
  have h3 := nd_ints ns
  simp [plainD, nd, SeqAt.shaped, PyData.canLay0, PyData.depth, h1, h3]
  omega
theorem plain_int (i : Int) : plainD (.int i) = true := by simp [plainD, nd, SeqAt.shaped, PyData.canLay0, PyData.depth]
theorem beq_int (a b : Int) : (a == b) = decide (a = b) := by by_cases h : a = b <;> simp [h]
theorem any_int (ns : List Int) (i : Int) : ((ns.map PyData.int).any fun z => PyData.eqv z (.int i)) = decide (i ∈ ns) := by
  induction ns with
  | nil => simp
  | cons n ns ih =>
    rw [List.map_cons, List.any_cons, ih]
    have e : PyData.eqv (.int n) (.int i) = decide (n = i) := by simp [PyData.eqv, beq_int]
    rw [e]
    by_cases z : n = i
    · simp [z]
    · have z' : ¬ i = n := fun h => z h.symm
      simp [z, z']
theorem flat_ints (ns : List Int) : (ns.map PyData.int).all flatD = true := by
  induction ns with
  | nil => rfl
  | cons n ns ih => simp [flatD]
theorem pIn_list (ns : List Int) (i : Int) : pIn (.int i) (.list (ns.map PyData.int)) = .ok (.bool (decide (i ∈ ns))) := by
  show (if plainD (.int i) = true ∧ plainD (.list (ns.map PyData.int)) = true then R.ok (PyData.bool ((ns.map PyData.int).any fun z => PyData.eqv z (.int i))) else .bad) = _
  rw [if_pos ⟨plain_int i, plain_ints ns⟩, any_int]
theorem pIn_tuple (ns : List Int) (i : Int) : pIn (.int i) (.tuple (ns.map PyData.int)) = .ok (.bool (decide (i ∈ ns))) := by
  show (if flatD (.int i) = true ∧ (ns.map PyData.int).all flatD = true then R.ok (PyData.bool ((ns.map PyData.int).any fun z => PyData.eqv z (.int i))) else .bad) = _
  rw [if_pos ⟨rfl, flat_ints ns⟩, any_int]
theorem pEq_int (i j : Int) : pEq (.int i) (.int j) = .ok (.bool (decide (i = j))) := by
  show (if plainD (.int i) = true ∧ plainD (.int j) = true then R.ok (PyData.bool (PyData.eqv (.int i) (.int j))) else .bad) = _
  rw [if_pos ⟨plain_int i, plain_int j⟩]
  simp [PyData.eqv, beq_int]
theorem pNe_int (i j : Int) : pNe (.int i) (.int j) = .ok (.bool (!decide (i = j))) := by
  show (if plainD (.int i) = true ∧ plainD (.int j) = true then R.ok (PyData.bool (!PyData.eqv (.int i) (.int j))) else .bad) = _
  rw [if_pos ⟨plain_int i, plain_int j⟩]
  simp [PyData.eqv, beq_int]
abbrev qE (p : Int × Nat) : PyData := .tuple [.int (p.2 : Int), .int p.1]
theorem enum_ints (ns : List Int) : enumD (ns.map PyData.int) = ns.zipIdx.map qE := by
  unfold enumD
  rw [List.zipIdx_map, List.map_map]
  rfl
abbrev qZ (p : Int × Int) : PyData := .tuple [.int p.1, .int p.2]
theorem zip_ints (as bs : List Int) : zipD (as.map PyData.int) (bs.map PyData.int) = (as.zip bs).map qZ := by
  unfold zipD
  rw [List.zip_map, List.map_map]
  rfl
section
variable {it : Sem' Its'} {vs ws : List Nat} {tg : PyData → En → R En} {tst : Sem' Bool} {elt : Sem' PyData} {en e' : En} {i : Nat} {α : Type}
theorem asg_map (q : α → PyData) (g : α → PyData) (xs : List α) (h1 : it en = .ok ((xs.map q, ws), en)) (h2 : PD.freeOf en vs = true) (h3 : xs.length ≤ 100000) (h4 : ws.all (fun i => !vs.contains i) = true)
    (h5 : ∀ x ∈ xs, ∃ e1 e3, tg (q x) (wipeE en vs) = .ok e1 ∧ elt e1 = .ok (g x, e3) ∧ wipeE e3 vs = wipeE en vs) (h6 : ioAt (restE en (wipeE en vs) vs) i = false) (h7 : (restE en (wipeE en vs) vs).set i (.dat (.list (xs.map g))) = e') :
    sAsg (dFrz (dLc it vs tg dYes elt)) (tgN i) en = .next e' := asg_lc h1 h2 (by rw [List.length_map]; exact h3) h4 (lc_map q g xs h5) h6 h7
theorem own_map (q : α → PyData) (g : α → PyData) (xs : List α) (h1 : it en = .ok ((xs.map q, ws), en)) (h2 : PD.freeOf en vs = true) (h3 : xs.length ≤ 100000) (h4 : ws.all (fun i => !vs.contains i) = true)
    (h5 : ∀ x ∈ xs, ∃ e1 e3, tg (q x) (wipeE en vs) = .ok e1 ∧ elt e1 = .ok (g x, e3) ∧ wipeE e3 vs = wipeE en vs) (h6 : ioAt (restE en (wipeE en vs) vs) i = false) (h7 : (restE en (wipeE en vs) vs).set i (.own false (xs.map g)) = e') :
    sOwn (dLc it vs tg dYes elt) i en = .next e' := own_lc h1 h2 (by rw [List.length_map]; exact h3) h4 (lc_map q g xs h5) h6 h7
theorem tup_map (q : α → PyData) (g : α → PyData) (xs : List α) (h1 : it en = .ok ((xs.map q, ws), en)) (h2 : PD.freeOf en vs = true) (h3 : xs.length ≤ 100000) (h4 : ws.all (fun i => !vs.contains i) = true)
    (h5 : ∀ x ∈ xs, ∃ e1 e3, tg (q x) (wipeE en vs) = .ok e1 ∧ elt e1 = .ok (g x, e3) ∧ wipeE e3 vs = wipeE en vs) (h7 : restE en (wipeE en vs) vs = e') :
    dA pTuple (aCons (oVal (dFrz (dLc it vs tg dYes elt))) aNil) en = .ok (.tuple (xs.map g), e') := tup_lc h1 h2 (by rw [List.length_map]; exact h3) h4 (lc_map q g xs h5) h7
theorem asg_filter (q : α → PyData) (p : α → Bool) (g : α → PyData) (xs : List α) (h1 : it en = .ok ((xs.map q, ws), en)) (h2 : PD.freeOf en vs = true) (h3 : xs.length ≤ 100000) (h4 : ws.all (fun i => !vs.contains i) = true)
    (h5 : ∀ x ∈ xs, ∃ e1 e2, tg (q x) (wipeE en vs) = .ok e1 ∧ tst e1 = .ok (p x, e2) ∧ (p x = true → ∃ e3, elt e2 = .ok (g x, e3) ∧ wipeE e3 vs = wipeE en vs) ∧ (p x = false → wipeE e2 vs = wipeE en vs)) (h6 : ioAt (restE en (wipeE en vs) vs) i = false) (h7 : (restE en (wipeE en vs) vs).set i (.dat (.list ((xs.filter p).map g))) = e') :
    sAsg (dFrz (dLc it vs tg tst elt)) (tgN i) en = .next e' := asg_lc h1 h2 (by rw [List.length_map]; exact h3) h4 (lc_filter q p g xs h5) h6 h7
theorem tup_filter (q : α → PyData) (p : α → Bool) (g : α → PyData) (xs : List α) (h1 : it en = .ok ((xs.map q, ws), en)) (h2 : PD.freeOf en vs = true) (h3 : xs.length ≤ 100000) (h4 : ws.all (fun i => !vs.contains i) = true)
    (h5 : ∀ x ∈ xs, ∃ e1 e2, tg (q x) (wipeE en vs) = .ok e1 ∧ tst e1 = .ok (p x, e2) ∧ (p x = true → ∃ e3, elt e2 = .ok (g x, e3) ∧ wipeE e3 vs = wipeE en vs) ∧ (p x = false → wipeE e2 vs = wipeE en vs)) (h7 : restE en (wipeE en vs) vs = e') :
    dA pTuple (aCons (oVal (dFrz (dLc it vs tg tst elt))) aNil) en = .ok (.tuple ((xs.filter p).map g), e') := tup_lc h1 h2 (by rw [List.length_map]; exact h3) h4 (lc_filter q p g xs h5) h7
end
theorem for_next {it : Sem' Its'} {g : PyData → En → R En} {B : SemS} {en en1 e' : En} {xs : List PyData} (h1 : it en = .ok ((xs, []), en1)) (h2 : forLoop g B xs en1 = .next e') : sFor it g B en = .next e' := by
  unfold sFor
  rw [h1]
  simp only [ofR_ok, List.isEmpty_nil, if_true, h2]
end PD
end
section
/-! PK: kinds. -/
namespace PD
open PySem PySem.Spec
theorem kit_tab : ((["NoneType", "bool", "int", "str", "list", "tuple", "dict"] : List String).map fun u => ((["int", "bool", "tuple", "str", "list"] : List String).map fun t => L2.kitB u t)) =
    [[some false, some false, some false, some false, some false], [some true, some true, some false, some false, some false], [some true, some false, some false, some false, some false],
     [some false, some false, some false, some true, some false], [some false, some false, some false, some false, some true], [some false, some false, some true, some false, some false], [some false, some false, some false, some false, some false]] := by decide +kernel
/-- a thing of the law's own: no reference -/
def plainK (d : PyData) : Bool := (tyD d).isSome
def isIntB : PyData → Bool
  | .int _ => true
  | .bool _ => true
  | _ => false
def isBoolB : PyData → Bool
  | .bool _ => true
  | _ => false
def isTupB : PyData → Bool
  | .tuple _ => true
  | _ => false
def isStrB : PyData → Bool
  | .str _ => true
  | _ => false
def isLstB : PyData → Bool
  | .list _ => true
  | _ => false
theorem ty_dict {x : List (PyData × PyData)} (h : plainK (.dict x) = true) : tyD (.dict x) = some "dict" := by
  unfold plainK at h
  unfold tyD at h ⊢
  split <;> first | rfl | skip
  all_goals simp_all
theorem isD_int {d : PyData} (h : plainK d = true) : isD "int" d = .ok (.bool (isIntB d)) := by
  have k := kit_tab
  simp only [List.map_cons, List.map_nil, List.cons.injEq, and_true] at k
  unfold isD
  cases d with
  | dict x => rw [ty_dict h]; simp [k, isIntB]
  | _ => simp [tyD, k, isIntB]
theorem isD_bool {d : PyData} (h : plainK d = true) : isD "bool" d = .ok (.bool (isBoolB d)) := by
  have k := kit_tab
  simp only [List.map_cons, List.map_nil, List.cons.injEq, and_true] at k
  unfold isD
  cases d with
  | dict x => rw [ty_dict h]; simp [k, isBoolB]
  | _ => simp [tyD, k, isBoolB]
theorem isD_tuple {d : PyData} (h : plainK d = true) : isD "tuple" d = .ok (.bool (isTupB d)) := by
  have k := kit_tab
  simp only [List.map_cons, List.map_nil, List.cons.injEq, and_true] at k
  unfold isD
  cases d with
  | dict x => rw [ty_dict h]; simp [k, isTupB]
  | _ => simp [tyD, k, isTupB]
theorem isD_str {d : PyData} (h : plainK d = true) : isD "str" d = .ok (.bool (isStrB d)) := by
  have k := kit_tab
  simp only [List.map_cons, List.map_nil, List.cons.injEq, and_true] at k
  unfold isD
  cases d with
  | dict x => rw [ty_dict h]; simp [k, isStrB]
  | _ => simp [tyD, k, isStrB]
theorem isD_list {d : PyData} (h : plainK d = true) : isD "list" d = .ok (.bool (isLstB d)) := by
  have k := kit_tab
  simp only [List.map_cons, List.map_nil, List.cons.injEq, and_true] at k
  unfold isD
  cases d with
  | dict x => rw [ty_dict h]; simp [k, isLstB]
  | _ => simp [tyD, k, isLstB]
@[simp] theorem dVar_dat {en : En} {i : Nat} {d : PyData} (h : en[i]? = some (.dat d)) : dVar i en = .ok (d, en) := by unfold dVar; rw [h]
end PD
end
section
/-! PX6: slots that are forgotten; what a body leaves, told by the caller's lists alone. -/
namespace PD
open PySem PySem.Spec PyProof.Rows L2 Evl
def clrSl : Sl → Sl
  | .own true ds => .own true ds
  | _ => .no
def clrE (en : En) : List Nat → En
  | [] => en
  | i :: is => (clrE en is).set i (clrSl ((clrE en is).getD i .no))
def clrRS (is : List Nat) : RS → RS
  | .next e => .next (clrE e is)
  | .brk e => .brk (clrE e is)
  | .cont e => .cont (clrE e is)
  | r => r
def sClr (is : List Nat) (S : SemS) : SemS := fun en => clrRS is (S en)
section
variable {C : Ct} {X : Cx} {H0 H H0' H' : Hp} {σ σ' : L2.St} {en en' : En} {D : Ends}
theorem clr1_at {i j : Nat} {y : Sl} (h : (en.set i (clrSl (en.getD i .no)))[j]? = some y) (hy : y ≠ .no) : en[j]? = some y := by
  by_cases z : i = j
  · subst z
    have hl : i < en.length := by
      have := (List.getElem?_eq_some_iff.mp h).1
      rwa [List.length_set] at this
    rw [List.getElem?_set_self hl] at h
    have e : en[i]? = some (en.getD i .no) := by rw [List.getD_eq_getElem?_getD, List.getElem?_eq_getElem hl]; rfl
    rw [e]
    have h := Option.some.inj h
    revert h
    cases en.getD i .no with
    | no => exact fun h => absurd h.symm hy
    | dat d => exact fun h => absurd h.symm hy
    | own io ds =>
      cases io with
      | true => exact fun h => by rw [← h]; rfl
      | false => exact fun h => absurd h.symm hy
  · rwa [List.getElem?_set_ne z] at h
theorem clr1_own {i j : Nat} {ds : List PyData} (h : en[j]? = some (.own true ds)) : (en.set i (clrSl (en.getD i .no)))[j]? = some (.own true ds) := by
  by_cases z : i = j
  · subst z
    have hl := (List.getElem?_eq_some_iff.mp h).1
    rw [List.getElem?_set_self hl]
    have e : en.getD i .no = .own true ds := by rw [List.getD_eq_getElem?_getD, h]; rfl
    rw [e]
    rfl
  · rwa [List.getElem?_set_ne z]
theorem clrE_len (en : En) : ∀ is, (clrE en is).length = en.length
  | [] => rfl
  | i :: is => by unfold clrE; rw [List.length_set, clrE_len en is]
theorem clrE_at {j : Nat} {y : Sl} : ∀ {is : List Nat}, (clrE en is)[j]? = some y → y ≠ .no → en[j]? = some y
  | [], h, _ => h
  | i :: is, h, hy => clrE_at (is := is) (clr1_at h hy) hy
theorem clrE_own {j : Nat} {ds : List PyData} (h : en[j]? = some (.own true ds)) : ∀ is : List Nat, (clrE en is)[j]? = some (.own true ds)
  | [] => h
  | i :: is => clr1_own (clrE_own h is)
theorem sr_clr (is : List Nat) (s : SR C.K C.T H0 H σ en) : SR C.K C.T H0 H σ (clrE en is) where
  len := by rw [clrE_len]; exact s.len
  ex := s.ex
  tb := s.tb
  nt := s.nt
  dat := fun i d h => s.dat i d (clrE_at h fun z => by cases z)
  own := fun i io ds h => s.own i io ds (clrE_at h fun z => by cases z)
  sep := fun i j io ds jo es p n h1 h2 => s.sep i j io ds jo es p n (clrE_at h1 fun z => by cases z) (clrE_at h2 fun z => by cases z)
theorem own_clr {is : List Nat} {p : Addr} (h : OwnA σ (clrE en is) p) : OwnA σ en p := by
  obtain ⟨i, io, ds, h1, h2⟩ := h
  exact ⟨i, io, ds, clrE_at h1 (fun z => by cases z), h2⟩
theorem stp_clr (is : List Nat) (t : Stp σ en H0 H σ' en' H0' H') : Stp σ en H0 H σ' (clrE en' is) H0' H' where
  fm := t.fm
  ow := fun p h => t.ow p (own_clr h)
  io := fun i ds h => by
    obtain ⟨e1, ds', h'⟩ := t.io i ds h
    exact ⟨e1, ds', clrE_own h' is⟩
theorem postS_clr {is : List Nat} {r : RS} (p : PostS C H0 H σ en D (clrRS is r)) : PostS C H0 H σ en D r := by
  cases r with
  | next e => exact fun H0' H' σ' t s => p H0' H' σ' (stp_clr is t) (sr_clr is s)
  | brk e => exact fun H0' H' σ' t s => p H0' H' σ' (stp_clr is t) (sr_clr is s)
  | cont e => exact fun H0' H' σ' t s => p H0' H' σ' (stp_clr is t) (sr_clr is s)
  | ret r e => exact p
  | exc n => exact p
  | bad => exact p
theorem ds_clr {st : Stmt} {S : SemS} (is : List Nat) (h : PS X st (tS C S)) : PS X st (tS C (sClr is S)) := h.imp fun D σ H ⟨H0, en, s, p⟩ => ⟨H0, en, s, postS_clr p⟩
theorem dss_clr {st : List Stmt} {S : SemS} (is : List Nat) (h : PSs X st (tS C S)) : PSs X st (tS C (sClr is S)) := h.imp fun D σ H ⟨H0, en, s, p⟩ => ⟨H0, en, s, postS_clr p⟩
end
/-- only the caller's lists -/
def ioE (en : En) : En := en.map clrSl
def runI (m : Nat) (B : SemS) : Fn := fun args => match B (args ++ List.replicate (m - args.length) .no) with
  | .ret r e => .ok (r, backArgs args (ioE e))
  | .next e => .ok (.dat .none, backArgs args (ioE e))
  | .exc n => .exc n
  | _ => .bad
theorem ioE_tail (e : En) : (ioE e).tail = ioE e.tail := by cases e <;> rfl
theorem back_io : ∀ (as : List Sl) (e : En), (∀ (i : Nat) (ds : List PyData), as[i]? = some (.own true ds) → ∃ ds', e[i]? = some (.own true ds')) → backArgs as (ioE e) = backArgs as e
  | [], e, _ => rfl
  | a :: as, e, h => by
    unfold backArgs
    have ht := back_io as e.tail fun i ds hi => by
      obtain ⟨ds', h'⟩ := h (i + 1) ds (by simpa using hi)
      exact ⟨ds', by cases e with
        | nil => simp at h'
        | cons z r => simpa using h'⟩
    rw [ioE_tail, ht]
    congr 1
    cases a with
    | no => rfl
    | dat d => rfl
    | own io ds =>
      cases io with
      | false => rfl
      | true =>
        obtain ⟨ds', h'⟩ := h 0 ds rfl
        cases e with
        | nil => simp at h'
        | cons z r =>
          have : z = .own true ds' := by simpa using h'
          subst this
          rfl
section
variable {K : PySem.W.Frag} {T : List (Addr × Str)} {ca : Nat → Addr} {H0 H : Hp}
theorem spI {N : List Str} {n : Nat} {B : SemS} (hl : n ≤ N.length) {vs : List V} {Q : VK} {E : XK} (h : spD K T ca n (runI N.length B) vs H Q E) : spD K T ca n (runF N.length B) vs H Q E := by
  obtain ⟨hn, H0, args, sr, ho, p⟩ := h
  refine ⟨hn, H0, args, sr, ho, ?_⟩
  have hlen : vs.length = args.length := by have := sr.len; rwa [List.length_map] at this
  unfold runI at p
  unfold runF
  have io : ∀ (e1 : En), (∀ (i : Nat) (ds : List PyData), args[i]? = some (.own true ds) → ∃ ds', (backArgs args e1)[i]? = some (.own true ds')) → backArgs args (ioE e1) = backArgs args e1 := fun e1 h => back_io args e1 fun i ds hi => by
    obtain ⟨ds', h'⟩ := h i ds hi
    cases q : e1[i]? with
    | none =>
      exfalso
      have : ∀ (as : List Sl) (e : En) (i : Nat) (ds : List PyData), as[i]? = some (.own true ds) → e[i]? = none → (backArgs as e)[i]? = some .no := by
        intro as
        induction as with
        | nil => intro e i ds h; simp at h
        | cons a as ih =>
          intro e i ds h1 h2
          cases i with
          | zero =>
            have h1 : a = .own true ds := Option.some.inj h1
            subst h1
            unfold backArgs
            cases e with
            | nil => rfl
            | cons z r => simp at h2
          | succ i =>
            unfold backArgs
            have := ih e.tail i ds (by simpa using h1) (by cases e with
              | nil => rfl
              | cons z r => simpa using h2)
            simpa using this
      rw [this args e1 i ds hi q] at h'
      cases h'
    | some y =>
      rw [back_own args e1 i ds y hi q] at h'
      exact ⟨ds', h'⟩
  cases e : B (args ++ List.replicate (N.length - args.length) Sl.no) with
  | next e1 =>
    rw [e] at p
    intro H0' H' v t s1 rr
    have := io e1 fun i ds hi => (t.io i ds hi).2
    dsimp only at p
    rw [this] at p
    exact p H0' H' v t s1 rr
  | ret r e1 =>
    rw [e] at p
    intro H0' H' v t s1 rr
    have := io e1 fun i ds hi => (t.io i ds hi).2
    dsimp only at p
    rw [this] at p
    exact p H0' H' v t s1 rr
  | exc n => rw [e] at p; exact p
  | brk e1 => rw [e] at p; exact p.elim
  | cont e1 => rw [e] at p; exact p.elim
  | bad => rw [e] at p; exact p.elim
/-- a def's promise, by the caller's lists alone -/
theorem fn_I {P : Program} {w : World} {mg : Str → Option Value} {base : Heap} {CX : CXT} {k n : Nat} {f : Addr} {fd : FuncData} {ps : List Str} {N : List Str} {B : SemS} (F : FnOk P w K mg base CX k f fd ps (spD K T ca n (runF N.length B))) (hl : n ≤ N.length) : FnOk P w K mg base CX k f fd ps (spD K T ca n (runI N.length B)) :=
  F.imp fun vs H Q E h => spI hl h
theorem fn_IG {P : Program} {w : World} {mg : Str → Option Value} {base : Heap} {CX : CXT} {k n : Nat} {f : Addr} {fd : FuncData} {ps : List Str} {N : List Str} {B : SemS} (F : FnG P w K mg base CX k f fd ps (spD K T ca n (runF N.length B))) (hl : n ≤ N.length) : FnG P w K mg base CX k f fd ps (spD K T ca n (runI N.length B)) :=
  ⟨fun vs H Q E h => F.len vs H Q E (spI hl h), fun A outer s H args us vs Q E rm gd e0 bt rv z => F.run A outer s H args us vs Q E rm gd e0 bt rv (spI hl z)⟩
end
end PD
end
section
/-! PO: readings told without slots. Xv: an expression; Ea: arguments; Js: a suite; Es, Eas: where lists that slots hold change within an expression. -/
namespace PD
open PySem PySem.Spec PyProof.Rows L2 Evl
/-! ### results -/
theorem R.assoc {α β γ : Type} (x : R α) (f : α → R β) (g : β → R γ) : ((x >>= f) >>= g) = x >>= fun a => f a >>= g := by cases x <;> rfl
theorem R.right {α : Type} (x : R α) : (x >>= fun v => R.ok v) = x := by cases x <;> rfl
theorem R.congr {α β : Type} {x : R α} {f g : α → R β} (h : ∀ a, f a = g a) : (x >>= f) = x >>= g := by cases x <;> first | exact h _ | rfl
theorem R.congr2 {α β : Type} {x y : R α} {f g : α → R β} (e : x = y) (h : ∀ a, f a = g a) : (x >>= f) = y >>= g := by rw [e]; exact R.congr h
theorem lift_bind {α β : Type} (x : R α) (f : α → R β) : lift (x >>= f) = lift x >>= fun a => lift (f a) := by cases x <;> rfl
theorem lift_lift {α : Type} (x : R α) : lift (lift x) = lift x := by cases x <;> rfl
@[simp] theorem lift_exc {α : Type} (n : Nat) : lift (R.exc n : R α) = R.bad := rfl
def NX2 {α : Type} (op : PyData → PyData → R α) : Prop := ∀ a b, lift (op a b) = op a b
def NX1 {α : Type} (op : PyData → R α) : Prop := ∀ a, lift (op a) = op a
def NXA {α : Type} (op : List PyData → R α) : Prop := ∀ a, lift (op a) = op a
theorem lift_get {α : Type} (o : Option α) : lift (R.get o) = R.get o := by cases o <;> rfl
theorem lift_iteR {α : Type} (c : Prop) [Decidable c] (x y : R α) : lift (if c then x else y) = if c then lift x else lift y := by split <;> rfl
theorem lift_few2 {α : Type} (n : Nat) (x : α) : lift (few2 n (R.ok x)) = few2 n (R.ok x) := by unfold few2; split <;> rfl
theorem nx_pAdd : NX2 pAdd := fun a b => by unfold pAdd; split <;> rfl
theorem nx_pSub : NX2 pSub := fun a b => by unfold pSub; split <;> rfl
theorem nx_pFdiv : NX2 pFdiv := fun a b => by unfold pFdiv; split <;> (try split) <;> rfl
theorem nx_pMod : NX2 pMod := fun a b => by unfold pMod; split <;> (try split) <;> rfl
theorem nx_pPow : NX2 pPow := fun a b => by unfold pPow; split <;> (try split) <;> rfl
theorem nx_pAddA : NX2 pAddA := fun a b => by unfold pAddA; split <;> first | rfl | exact lift_few2 _ _
theorem nx_pMulA : NX2 pMulA := fun a b => by unfold pMulA; split <;> (try split) <;> rfl
theorem nx_pLt : NX2 pLt := fun a b => by unfold pLt; split <;> rfl
theorem nx_pLe : NX2 pLe := fun a b => by unfold pLe; split <;> rfl
theorem nx_pGt : NX2 pGt := fun a b => by unfold pGt; split <;> rfl
theorem nx_pGe : NX2 pGe := fun a b => by unfold pGe; split <;> rfl
theorem nx_pEq : NX2 pEq := fun a b => by unfold pEq; split <;> rfl
theorem nx_pNe : NX2 pNe := fun a b => by unfold pNe; split <;> rfl
theorem nx_pIsN : NX2 pIsN := fun a b => by unfold pIsN; split <;> rfl
theorem nx_pNotN : NX2 pNotN := fun a b => by unfold pNotN; split <;> rfl
theorem nx_pIn : NX2 pIn := fun a b => by unfold pIn; split <;> (try split) <;> rfl
theorem nx_pNotIn : NX2 pNotIn := fun a b => by unfold pNotIn; split <;> (try split) <;> rfl
theorem nx_pIx : NX2 pIx := fun a b => by unfold pIx; split <;> first | rfl | exact lift_get _
theorem nx_pCat : NX2 pCat := fun a b => by unfold pCat; split <;> first | rfl | exact lift_few2 _ _
theorem nx_pRep : NX2 pRep := fun a b => by unfold pRep; split <;> (try split) <;> rfl
theorem nx_pCount : NX2 pCount := fun a b => by unfold pCount; split <;> (try split) <;> rfl
theorem nx_get1 {α β : Type} (o : Option α) (f : α → β) : lift (R.get o >>= fun a => R.ok (f a)) = R.get o >>= fun a => R.ok (f a) := by cases o <;> rfl
theorem nx_pIndex : NX2 pIndex := fun a b => by unfold pIndex; split <;> (try split) <;> first | rfl | exact nx_get1 _ _
theorem nx_pNeg : NX1 pNeg := fun a => by unfold pNeg; split <;> rfl
theorem nx_revP : NX1 revP := fun a => by unfold revP; split <;> rfl
theorem nx_isD (T : String) : NX1 (isD T) := fun a => by unfold isD; cases tyD a <;> first | rfl | exact nx_get1 _ _
theorem nx_pLen : NXA pLen := fun a => by unfold pLen; split <;> (try split) <;> rfl
theorem nx_pAbs : NXA pAbs := fun a => by unfold pAbs; split <;> rfl
theorem nx_pInt : NXA pInt := fun a => by unfold pInt; split <;> rfl
theorem nx_pAll : NXA pAll := fun a => by unfold pAll; split <;> first | rfl | exact nx_get1 _ _
theorem nx_pAny : NXA pAny := fun a => by unfold pAny; split <;> first | rfl | exact nx_get1 _ _
theorem nx_pSum : NXA pSum := fun a => by unfold pSum; split <;> first | rfl | exact nx_get1 _ _
theorem nx_get2 {α β γ : Type} (o : Option α) (g : α → Option β) (f : β → γ) : lift (R.get o >>= fun a => R.get (g a) >>= fun b => R.ok (f b)) = R.get o >>= fun a => R.get (g a) >>= fun b => R.ok (f b) := by cases o <;> first | rfl | exact nx_get1 _ _
theorem nx_pMax : NXA pMax := fun a => by unfold pMax; split <;> first | rfl | exact nx_get2 _ _ _
theorem nx_pMin : NXA pMin := fun a => by unfold pMin; split <;> first | rfl | exact nx_get2 _ _ _
theorem nx_pTuple : NXA pTuple := fun a => by unfold pTuple; split <;> rfl
theorem nx_pList : NXA pList := fun a => by unfold pList; split <;> rfl
theorem nx_pSorted : NXA pSorted := fun a => by unfold pSorted; split <;> first | rfl | exact nx_get1 _ _
theorem nx_pRepr : NXA pRepr := fun a => by unfold pRepr; split <;> (try split) <;> rfl
theorem nx_asPart (d : PyData) : lift (asPart d) = asPart d := by unfold asPart; split <;> rfl
theorem nx_cutP (d : PyData) (l u : Option Int) : lift (cutP d l u) = cutP d l u := by unfold cutP; split <;> rfl
theorem nx_asList (d : PyData) : lift (asList d) = asList d := by unfold asList; split <;> rfl
def asB (d : PyData) : R Bool := match d with
  | .bool b => .ok b
  | _ => .bad
@[simp] theorem asB_bool (b : Bool) : asB (.bool b) = .ok b := rfl
/-! ### expressions that leave the slots -/
variable {α β γ σ τ ρ : Type} {e e1 e2 e3 e' : En} {i j : Nat}
def Xv (F : Sem' α) (e : En) (x : R α) (e' : En) : Prop := F e = x >>= fun v => .ok (v, e')
section
variable {F G I : Sem' PyData} {x y z : R PyData} {d : PyData} {ds : List PyData} {io : Bool}
theorem xv_var (h : e[i]? = some (.dat d)) : Xv (dVar i) e (.ok d) e := by unfold Xv dVar; rw [h]; rfl
theorem xv_c : Xv (dC d) e (.ok d) e := rfl
theorem xv_frz (h : e[i]? = some (.own false ds)) : Xv (dVarF i) e (.ok (.list ds)) (e.set i (.dat (.list ds))) := by unfold Xv dVarF; rw [h]; rfl
theorem xv_frd (h : e[i]? = some (.dat d)) : Xv (dVarF i) e (.ok d) e := by unfold Xv dVarF; rw [h]; rfl
def Eo (F : Sem' Op) (e : En) (x : R PyData) (e' : En) (o : PyData → Op) : Prop := F e = x >>= fun v => .ok (o v, e')
def Rs (x : R PyData) (o : PyData → Op) (e : En) : Prop := ∀ v, x = .ok v → (o v).res e = .ok v
theorem xo_val (h : Xv F e x e') : Eo (oVal F) e x e' .val := by unfold Eo oVal; rw [show F e = _ from h]; cases x <;> rfl
theorem xo_own (h : e[i]? = some (.own io ds)) : Eo (oAny i) e (.ok (.list ds)) e (fun _ => .own i) := by unfold Eo oAny; rw [h]; rfl
theorem xo_dat (h : e[i]? = some (.dat d)) : Eo (oAny i) e (.ok d) e .val := by unfold Eo oAny; rw [h]; rfl
theorem rs_val : Rs x .val e := fun v _ => rfl
theorem res_own (h : e[i]? = some (.own io ds)) : Op.res e (.own i) = .ok (.list ds) := by
  have : Op.res e (.own i) = (match e[i]? with
    | some (.own _ ds) => R.ok (PyData.list ds)
    | _ => .bad) := rfl
  rw [this, h]
theorem rs_own (h : e[i]? = some (.own io ds)) : Rs (.ok (.list ds)) (fun _ => .own i) e := fun v hv => by cases hv; exact res_own h
variable {A B : Sem' Op} {o o1 o2 : PyData → Op} {op op' : PyData → PyData → R α}
theorem xv_d2 (nx : NX2 op) (hF : Eo A e x e1 o1) (hG : Eo B e1 y e2 o2) (r1 : Rs x o1 e2) (r2 : Rs y o2 e2) : Xv (d2 op A B) e (x >>= fun a => y >>= fun b => op a b) e2 := by
  unfold Xv d2
  rw [show A e = _ from hF]
  cases x with
  | exc n => rfl
  | bad => rfl
  | ok a =>
    show (B e1 >>= _) = _
    rw [show B e1 = _ from hG]
    cases y with
    | exc n => rfl
    | bad => rfl
    | ok b =>
      show (lift ((o1 a).res e2) >>= fun x => lift ((o2 b).res e2) >>= fun y => lift (op x y) >>= fun z => R.ok (z, e2)) = _
      rw [r1 a rfl, r2 b rfl]
      show (lift (op a b) >>= _) = _
      rw [nx]
      rfl
theorem xv_d1 {op : PyData → R α} (nx : NX1 op) (hF : Eo A e x e1 o1) (r1 : Rs x o1 e1) : Xv (d1 op A) e (x >>= fun a => op a) e1 := by
  unfold Xv d1
  rw [show A e = _ from hF]
  cases x with
  | exc n => rfl
  | bad => rfl
  | ok a =>
    show (lift ((o1 a).res e1) >>= fun x => lift (op x) >>= fun z => R.ok (z, e1)) = _
    rw [r1 a rfl]
    show (lift (op a) >>= _) = _
    rw [nx]
    rfl
theorem xv_dM {op : PyData → PyData → R PyData} (nx : NX2 op) (hF : Eo A e x e1 o1) (hG : Eo B e1 y e2 o2) (r0 : Rs x o1 e1) (r1 : Rs x o1 e2) (r2 : Rs y o2 e2) : Xv (dM op A B) e (x >>= fun a => asList a >>= fun _ => y >>= fun b => op a b) e2 := by
  unfold Xv dM
  rw [show A e = _ from hF]
  cases x with
  | exc n => rfl
  | bad => rfl
  | ok a =>
    show (lift ((o1 a).res e1) >>= fun x0 => lift (asList x0) >>= fun _ => B e1 >>= fun q => lift ((o1 a).res q.2) >>= fun x => lift (q.1.res q.2) >>= fun y => lift (op x y) >>= fun z => R.ok (z, q.2)) = _
    rw [r0 a rfl]
    show (lift (asList a) >>= _) = _
    rw [nx_asList]
    show _ = ((asList a >>= fun _ => y >>= fun b => op a b) >>= _)
    rw [R.assoc]
    refine R.congr fun _ => ?_
    rw [show B e1 = _ from hG]
    cases y with
    | exc n => rfl
    | bad => rfl
    | ok b =>
      show (lift ((o1 a).res e2) >>= fun x => lift ((o2 b).res e2) >>= fun y => lift (op x y) >>= fun z => R.ok (z, e2)) = _
      rw [r1 a rfl, r2 b rfl]
      show (lift (op a b) >>= _) = _
      rw [nx]
      rfl
/-! tests -/
theorem xv_dB (h : Xv F e x e') : Xv (dB F) e (x >>= fun d => asB d) e' := by
  unfold Xv dB; rw [show F e = _ from h]
  cases x <;> first | rfl | skip
  rename_i d
  cases d <;> rfl
variable {S T U : Sem' Bool} {s t u : R Bool}
theorem xv_dNot (h : Xv T e t e') : Xv (dNot T) e (t >>= fun b => .ok (!b)) e' := by unfold Xv dNot; rw [show T e = _ from h]; cases t <;> rfl
theorem xv_dAnd (h : Xv T e t e1) (g : Xv U e1 u e1) : Xv (dAnd T U) e (t >>= fun b => if b = true then u else .ok false) e1 := by
  unfold Xv dAnd; rw [show T e = _ from h]
  cases t <;> first | rfl | skip
  rename_i b
  cases b
  · rfl
  · exact g
theorem xv_dOr (h : Xv T e t e1) (g : Xv U e1 u e1) : Xv (dOr T U) e (t >>= fun b => if b = true then .ok true else u) e1 := by
  unfold Xv dOr; rw [show T e = _ from h]
  cases t <;> first | rfl | skip
  rename_i b
  cases b
  · exact g
  · rfl
theorem xv_dYes : Xv dYes e (.ok true) e := rfl
theorem xv_dIf {F G : Sem' α} {x y : R α} (h : Xv T e t e1) (hF : Xv F e1 x e2) (hG : Xv G e1 y e2) : Xv (dIf T F G) e (t >>= fun b => if b = true then x else y) e2 := by
  unfold Xv dIf; rw [show T e = _ from h]
  cases t <;> first | rfl | skip
  rename_i b
  cases b
  · exact hG
  · exact hF
theorem xv_dNotV (h : Xv F e x e') : Xv (dNotV F) e (x >>= fun d => asB d >>= fun b => .ok (.bool (!b))) e' := by
  unfold Xv dNotV; rw [show F e = _ from h]
  cases x <;> first | rfl | skip
  rename_i d
  cases d <;> rfl
theorem xv_dAndV (h : Xv F e x e1) (g : Xv G e1 y e1) : Xv (dAndV F G) e (x >>= fun d => asB d >>= fun b => if b = true then y else .ok (.bool false)) e1 := by
  unfold Xv dAndV; rw [show F e = _ from h]
  cases x <;> first | rfl | skip
  rename_i d
  cases d <;> first | rfl | skip
  rename_i b
  cases b
  · rfl
  · exact g
theorem xv_dOrV (h : Xv F e x e1) (g : Xv G e1 y e1) : Xv (dOrV F G) e (x >>= fun d => asB d >>= fun b => if b = true then .ok (.bool true) else y) e1 := by
  unfold Xv dOrV; rw [show F e = _ from h]
  cases x <;> first | rfl | skip
  rename_i d
  cases d <;> first | rfl | skip
  rename_i b
  cases b
  · exact g
  · rfl
theorem xv_chain {C : Sem' Op} {o3 : PyData → Op} {op op' : PyData → PyData → R PyData} (nx : NX2 op) (nx' : NX2 op') (hF : Eo A e x e1 o1) (hG : Eo B e1 y e2 o2) (hI : Eo C e2 z e2 o3) (r1 : Rs x o1 e2) (r2 : Rs y o2 e2) (r3 : Rs z o3 e2) :
    Xv (dChain op op' A B C) e (x >>= fun a => y >>= fun b => op a b >>= fun d => asB d >>= fun q => if q = true then z >>= fun c => op' b c else .ok (.bool false)) e2 := by
  unfold Xv dChain
  rw [show A e = _ from hF]
  cases x with
  | exc n => rfl
  | bad => rfl
  | ok a =>
    show (B e1 >>= _) = _
    rw [show B e1 = _ from hG]
    cases y with
    | exc n => rfl
    | bad => rfl
    | ok b =>
      simp only [R.bind_ok]
      rw [r1 a rfl, r2 b rfl]
      simp only [lift_ok, R.bind_ok]
      rw [nx]
      cases op a b with
      | exc n => rfl
      | bad => rfl
      | ok d =>
        cases d <;> first | rfl | skip
        rename_i q
        cases q with
        | false => rfl
        | true =>
          simp only [R.bind_ok, asB_bool, if_true]
          rw [show C e2 = _ from hI]
          cases z with
          | exc n => rfl
          | bad => rfl
          | ok c =>
            simp only [R.bind_ok]
            rw [r2 b rfl, r3 c rfl]
            simp only [lift_ok, R.bind_ok]
            rw [nx']
theorem xv_no : Xv pNo e (.ok none) e := rfl
theorem xv_some (h : Xv F e x e') : Xv (pSome F) e (x >>= fun d => asPart d) e' := by
  unfold Xv pSome; rw [show F e = _ from h]
  cases x <;> first | rfl | skip
  rename_i d
  show (lift (asPart d) >>= _) = _
  rw [nx_asPart]
  rfl
theorem xv_dSl {L U : Sem' (Option Int)} {l u : R (Option Int)} (hF : Eo A e x e1 o) (hL : Xv L e1 l e2) (hU : Xv U e2 u e3) (r : Rs x o e3) : Xv (dSl A L U) e (x >>= fun a => l >>= fun lo => u >>= fun hi => cutP a lo hi) e3 := by
  unfold Xv dSl
  rw [show A e = _ from hF]
  cases x with
  | exc n => rfl
  | bad => rfl
  | ok a =>
    show (L e1 >>= _) = _
    rw [show L e1 = _ from hL]
    cases l with
    | exc n => rfl
    | bad => rfl
    | ok lo =>
      show (U e2 >>= _) = _
      rw [show U e2 = _ from hU]
      cases u with
      | exc n => rfl
      | bad => rfl
      | ok hi =>
        show (lift ((o a).res e3) >>= fun x => lift (cutP x lo hi) >>= fun z => R.ok (z, e3)) = _
        rw [r a rfl]
        show (lift (cutP a lo hi) >>= _) = _
        rw [nx_cutP]
        rfl
theorem xv_dFrz {N : Sem' (List PyData)} {xs : R (List PyData)} (h : Xv N e xs e') : Xv (dFrz N) e (xs >>= fun ds => .ok (.list ds)) e' := by unfold Xv dFrz; rw [show N e = _ from h]; cases xs <;> rfl
/-! arguments -/
abbrev MA := (β : Type) → (List PyData → R β) → R β
structure Ea (F : Sem' (List Op)) (e e' : En) (m : MA) (os : List PyData → List Op) (fx : List PyData → List PyData) : Prop where
  run : ∀ (β : Type) (k : List Op → En → R β), (F e >>= fun p => k p.1 p.2) = m β fun vs => k (os vs) e'
  nat : ∀ (β γ : Type) (k : List PyData → R β) (f : β → R γ), (m β k >>= f) = m γ fun vs => k vs >>= f
  res : ∀ vs, resAll e' (os vs) = .ok (fx vs)
structure Ew (F : Sem' (List Op)) (e e' : En) (m : MA) (os : List PyData → List Op) (fx : List PyData → List PyData) (n : Nat) : Prop extends Ea F e e' m os fx where
  vl : ∀ vs, vals (os vs) = .ok (fx vs)
  ar : ∀ (e : En) vs, argsOf e (os vs) = .ok ((fx vs).map .dat)
  ow : ∀ vs k, ownsOf (os vs) k = []
  len : ∀ vs, (fx vs).length = n
variable {AA BB : Sem' (List Op)} {m : MA} {os : List PyData → List Op} {fx : List PyData → List PyData} {n : Nat}
theorem ew_nil : Ew aNil e e (fun _ k => k []) (fun _ => []) (fun _ => []) 0 := ⟨⟨fun _ _ => rfl, fun _ _ _ _ => rfl, fun _ => rfl⟩, fun _ => rfl, fun _ _ => rfl, fun _ _ => rfl, fun _ => rfl⟩
theorem xa_nil : Ea aNil e e (fun _ k => k []) (fun _ => []) (fun _ => []) := ew_nil.toEa
theorem xa_cons0 (hF : Eo A e x e1 .val) (h : Ea BB e1 e2 m os fx) : Ea (aCons A BB) e e2 (fun β k => x >>= fun a => m β fun bs => k (a :: bs)) (fun vs => .val (vs.headD .none) :: os vs.tail) (fun vs => vs.headD .none :: fx vs.tail) where
  run := fun β k => by
    show ((A e >>= fun p => BB p.2 >>= fun q => R.ok (p.1 :: q.1, q.2)) >>= fun p => k p.1 p.2) = _
    rw [show A e = _ from hF, R.assoc, R.assoc]
    refine R.congr fun a => ?_
    show ((BB e1 >>= fun q => R.ok (Op.val a :: q.1, q.2)) >>= fun p => k p.1 p.2) = _
    rw [R.assoc]
    exact h.run β fun q e => k (.val a :: q) e
  nat := fun β γ k f => by rw [R.assoc]; exact R.congr fun a => h.nat β γ _ f
  res := fun vs => by
    show (lift (Op.res e2 (.val _)) >>= fun d => resAll e2 (os vs.tail) >>= fun ds => R.ok (d :: ds)) = _
    rw [h.res]
    rfl
theorem ew_cons0 (hF : Eo A e x e1 .val) (h : Ew BB e1 e2 m os fx n) : Ew (aCons A BB) e e2 (fun β k => x >>= fun a => m β fun bs => k (a :: bs)) (fun vs => .val (vs.headD .none) :: os vs.tail) (fun vs => vs.headD .none :: fx vs.tail) (n + 1) where
  toEa := xa_cons0 hF h.toEa
  vl := fun vs => by show (vals (os vs.tail) >>= fun ds => R.ok (_ :: ds)) = _; rw [h.vl]; rfl
  ar := fun e vs => by show (lift (argOf e (.val _)) >>= fun a => argsOf e (os vs.tail) >>= fun as => R.ok (a :: as)) = _; rw [h.ar]; rfl
  ow := fun vs k => h.ow vs.tail (k + 1)
  len := fun vs => by show (fx vs.tail).length + 1 = _; rw [h.len]
theorem xa_val (hF : Xv F e x e1) (h : Ea BB e1 e2 m os fx) : Ea (aCons (oVal F) BB) e e2 (fun β k => x >>= fun a => m β fun bs => k (a :: bs)) (fun vs => .val (vs.headD .none) :: os vs.tail) (fun vs => vs.headD .none :: fx vs.tail) := xa_cons0 (xo_val hF) h
theorem xa_dat (hi : e[i]? = some (.dat d)) (h : Ea BB e e2 m os fx) : Ea (aCons (oAny i) BB) e e2 (fun β k => m β fun bs => k (d :: bs)) (fun vs => .val (vs.headD .none) :: os vs.tail) (fun vs => vs.headD .none :: fx vs.tail) := xa_cons0 (xo_dat hi) h
theorem ew_val (hF : Xv F e x e1) (h : Ew BB e1 e2 m os fx n) : Ew (aCons (oVal F) BB) e e2 (fun β k => x >>= fun a => m β fun bs => k (a :: bs)) (fun vs => .val (vs.headD .none) :: os vs.tail) (fun vs => vs.headD .none :: fx vs.tail) (n + 1) := ew_cons0 (xo_val hF) h
theorem ew_dat (hi : e[i]? = some (.dat d)) (h : Ew BB e e2 m os fx n) : Ew (aCons (oAny i) BB) e e2 (fun β k => m β fun bs => k (d :: bs)) (fun vs => .val (vs.headD .none) :: os vs.tail) (fun vs => vs.headD .none :: fx vs.tail) (n + 1) := ew_cons0 (xo_dat hi) h
theorem xa_own (hi : e[i]? = some (.own io ds)) (hi2 : e2[i]? = some (.own io ds)) (h : Ea BB e e2 m os fx) : Ea (aCons (oAny i) BB) e e2 (fun β k => m β fun bs => k (.list ds :: bs)) (fun vs => .own i :: os vs.tail) (fun vs => .list ds :: fx vs.tail) where
  run := fun β k => by
    show ((oAny i e >>= fun p => BB p.2 >>= fun q => R.ok (p.1 :: q.1, q.2)) >>= fun p => k p.1 p.2) = _
    rw [show oAny i e = _ from xo_own hi]
    show ((BB e >>= fun q => R.ok (Op.own i :: q.1, q.2)) >>= fun p => k p.1 p.2) = _
    rw [R.assoc]
    exact h.run β fun q e => k (.own i :: q) e
  nat := fun β γ k f => h.nat β γ _ f
  res := fun vs => by
    show (lift (Op.res e2 (.own i)) >>= fun d => resAll e2 (os vs.tail) >>= fun ds => R.ok (d :: ds)) = _
    rw [h.res, res_own hi2]
    rfl
theorem xv_dA {op : List PyData → R α} (nx : NXA op) (h : Ea AA e e' m os fx) : Xv (dA op AA) e (m α fun vs => op (fx vs)) e' := by
  unfold Xv dA
  rw [h.nat, h.run _ fun p e => lift (resAll e p) >>= fun ds => lift (op ds) >>= fun z => R.ok (z, e)]
  congr 1
  funext vs
  rw [h.res]
  show (lift (op (fx vs)) >>= _) = _
  rw [nx]
theorem xv_dTup (h : Ew AA e e' m os fx n) (hn : n ≤ 100000) : Xv (dTup AA) e (m PyData fun vs => .ok (.tuple (fx vs))) e' := by
  unfold Xv dTup
  rw [h.nat, h.run (PyData × En) fun p e => lift (vals p) >>= fun ds => few ds.length (R.ok (.tuple ds, e))]
  congr 1
  funext vs
  rw [h.vl]
  show few (fx vs).length _ = _
  rw [h.len]
  unfold few
  rw [if_pos hn]
  rfl
theorem xv_dLst (h : Ew AA e e' m os fx n) (hn : n ≤ 100000) : Xv (dLst AA) e (m (List PyData) fun vs => .ok (fx vs)) e' := by
  unfold Xv dLst
  rw [h.nat, h.run (List PyData × En) fun p e => lift (vals p) >>= fun ds => few ds.length (R.ok (ds, e))]
  congr 1
  funext vs
  rw [h.vl]
  show few (fx vs).length _ = _
  rw [h.len]
  unfold few
  rw [if_pos hn]
  rfl
/-! calls -/
def Er (V : Sem' Rv) (e : En) (x : R α) (e' : En) (rv : α → Rv) : Prop := V e = x >>= fun v => .ok (rv v, e')
theorem er_rvD (h : Xv F e x e') : Er (rvD F) e x e' .dat := by unfold Er rvD; rw [show F e = _ from h]; cases x <;> rfl
theorem er_rvW {N : Sem' (List PyData)} {xs : R (List PyData)} (h : Xv N e xs e') : Er (rvW N) e xs e' .new := by unfold Er rvW; rw [show N e = _ from h]; cases xs <;> rfl
theorem xv_rvE {V : Sem' Rv} (h : Er V e x e' .dat) : Xv (rvE V) e x e' := by unfold Xv rvE; rw [show V e = _ from h]; cases x <;> rfl
theorem xv_rvEn {V : Sem' Rv} {xs : R (List PyData)} (h : Er V e xs e' .new) : Xv (rvE V) e (xs >>= fun ds => .ok (.list ds)) e' := by unfold Xv rvE; rw [show V e = _ from h]; cases xs <;> rfl
theorem xv_rvN {V : Sem' Rv} {xs : R (List PyData)} (h : Er V e xs e' .new) : Xv (rvN V) e xs e' := by unfold Xv rvN; rw [show V e = _ from h]; cases xs <;> rfl
/-- what a def of n parameters, all data, comes to -/
def Cl (n : Nat) (f : Fn) (g : List PyData → R α) (rv : α → Rv) : Prop := ∀ l : List PyData, l.length = n → f (l.map .dat) = g l >>= fun r => .ok (rv r, l.map .dat)
theorem er_call {f : Fn} {g : List PyData → R α} {rv : α → Rv} (hf : Cl n f g rv) (h : Ew AA e e' m os fx n) : Er (dCall n f AA) e (m α fun vs => g (fx vs)) e' rv := by
  unfold Er dCall
  rw [h.nat, h.run _ fun p e => lift (argsOf e p) >>= fun as => if as.length = n ∧ (ownsOf p 0).length ≤ 1 then f as >>= fun q => lift (callEn e p q.2) >>= fun e => R.ok (q.1, e) else .bad]
  congr 1
  funext vs
  rw [h.ar, h.ow]
  simp only [lift_ok, R.bind_ok, List.length_map, h.len, List.length_nil, Nat.zero_le, and_self, if_true]
  rw [hf _ (h.len vs), R.assoc]
  refine R.congr fun r => ?_
  unfold callEn
  simp only [R.bind_ok, h.ow, lift_ok]
theorem cl0 {f : Fn} {P : R α} {rv : α → Rv} (h : f [] = P >>= fun r => .ok (rv r, [])) : Cl 0 f (fun _ => P) rv := fun l hl => by
  match l, hl with
  | [], _ => exact h
abbrev gd (l : List PyData) (k : Nat) : PyData := l.getD k .none
theorem cl1 {f : Fn} {P : PyData → R α} {rv : α → Rv} (h : ∀ a, f [.dat a] = P a >>= fun r => .ok (rv r, [.dat a])) : Cl 1 f (fun l => P (gd l 0)) rv := fun l hl => by
  match l, hl with
  | [a], _ => exact h a
theorem cl2 {f : Fn} {P : PyData → PyData → R α} {rv : α → Rv} (h : ∀ a b, f [.dat a, .dat b] = P a b >>= fun r => .ok (rv r, [.dat a, .dat b])) : Cl 2 f (fun l => P (gd l 0) (gd l 1)) rv := fun l hl => by
  match l, hl with
  | [a, b], _ => exact h a b
theorem cl3 {f : Fn} {P : PyData → PyData → PyData → R α} {rv : α → Rv} (h : ∀ a b c, f [.dat a, .dat b, .dat c] = P a b c >>= fun r => .ok (rv r, [.dat a, .dat b, .dat c])) : Cl 3 f (fun l => P (gd l 0) (gd l 1) (gd l 2)) rv := fun l hl => by
  match l, hl with
  | [a, b, c], _ => exact h a b c
theorem cl4 {f : Fn} {P : PyData → PyData → PyData → PyData → R α} {rv : α → Rv} (h : ∀ a b c d, f [.dat a, .dat b, .dat c, .dat d] = P a b c d >>= fun r => .ok (rv r, [.dat a, .dat b, .dat c, .dat d])) : Cl 4 f (fun l => P (gd l 0) (gd l 1) (gd l 2) (gd l 3)) rv := fun l hl => by
  match l, hl with
  | [a, b, c, d], _ => exact h a b c d
theorem cl5 {f : Fn} {P : PyData → PyData → PyData → PyData → PyData → R α} {rv : α → Rv} (h : ∀ a b c d p, f [.dat a, .dat b, .dat c, .dat d, .dat p] = P a b c d p >>= fun r => .ok (rv r, [.dat a, .dat b, .dat c, .dat d, .dat p])) : Cl 5 f (fun l => P (gd l 0) (gd l 1) (gd l 2) (gd l 3) (gd l 4)) rv := fun l hl => by
  match l, hl with
  | [a, b, c, d, p], _ => exact h a b c d p
/-- x(lambda: ..) -/
def saidP (okF : PyData → R PyData) (exF : Nat → R PyData) (x : R PyData) : R PyData := match x with
  | .ok d => lift (okF d)
  | .exc n => lift (exF n)
  | .bad => .bad
theorem xv_said {okF : PyData → R PyData} {exF : Nat → R PyData} (hd : dropO e = e1) (h : Xv F e1 x e2) : Xv (dSaid okF exF F) e (saidP okF exF x) e := by
  unfold Xv dSaid
  rw [hd, show F e1 = _ from h]
  cases x <;> rfl
/-! sources -/
def Ei (it : Sem' Its') (e : En) (X : R (List PyData)) (e' : En) (ws : List Nat) : Prop := it e = X >>= fun xs => .ok ((xs, ws), e')
theorem ei_itA {f : List PyData → R (List PyData)} {ws : List Nat} (nx : NXA f) (h : Ea AA e e' m os fx) (hw : ∀ vs, ownIx (os vs) = ws) : Ei (itA f AA) e (m _ fun vs => f (fx vs)) e' ws := by
  unfold Ei itA
  rw [h.nat, h.run _ fun p e => lift (resAll e p) >>= fun ds => lift (f ds) >>= fun z => R.ok ((z, ownIx p), e)]
  congr 1
  funext vs
  rw [h.res, hw]
  show (lift (f (fx vs)) >>= _) = _
  rw [nx]
theorem it1_eq (F : Sem' Op) : it1 F = aCons F aNil := by
  funext en
  unfold it1 aCons aNil
  rfl
theorem nx_seqOf (d : PyData) : lift (seqOf d) = seqOf d := by unfold seqOf; split <;> rfl
theorem nx_in62 (i : Int) (x : α) : lift (in62 i (R.ok x)) = in62 i (R.ok x) := by unfold in62; split <;> rfl
theorem nx_seq1 : NXA seq1 := fun a => by unfold seq1; split <;> first | rfl | exact nx_seqOf _
theorem nx_rng1 : NXA rng1 := fun a => by unfold rng1; split <;> first | rfl | exact nx_in62 _ _
theorem nx_rng2 : NXA rng2 := fun a => by unfold rng2 in62; split <;> (try split) <;> (try split) <;> rfl
theorem nx_zip2 : NXA zip2 := fun a => by
  unfold zip2; split <;> first | rfl | skip
  rw [lift_bind, nx_seqOf]
  refine R.congr fun _ => ?_
  rw [lift_bind, nx_seqOf]
  rfl
theorem nx_enum1 : NXA enum1 := fun a => by
  unfold enum1; split <;> first | rfl | skip
  rw [lift_bind, nx_seqOf]
  rfl
theorem ei_seq {A : Sem' Op} {ws : List Nat} (h : Ea (aCons A aNil) e e' m os fx) (hw : ∀ vs, ownIx (os vs) = ws) : Ei (itA seq1 (it1 A)) e (m _ fun vs => seq1 (fx vs)) e' ws := by rw [it1_eq]; exact ei_itA nx_seq1 h hw
/-! targets: what an item gives -/
def un2 (d : PyData) : R (PyData × PyData) := match d with
  | .tuple [a, b] => .ok (a, b)
  | _ => .bad
def un3 (d : PyData) : R (PyData × PyData × PyData) := match d with
  | .tuple [a, b, c] => .ok (a, b, c)
  | _ => .bad
structure Eg (g : PyData → En → R En) (x : PyData) (e : En) (τ : Type) (m : (β : Type) → (τ → R β) → R β) (e' : τ → En) : Prop where
  run : ∀ (β : Type) (k : En → R β), (lift (g x e) >>= k) = m β fun v => k (e' v)
  obs : ∀ (k : En → RS), ∃ y : R τ, lift (g x e) = (y >>= fun v => .ok (e' v)) ∧ ∀ (β : Type) (f : τ → R β), m β f = y >>= f
theorem eg_of {g : PyData → En → R En} {x : PyData} {m : (β : Type) → (τ → R β) → R β} {e' : τ → En} (y : R τ) (h : lift (g x e) = (y >>= fun v => .ok (e' v))) (hm : ∀ (β : Type) (f : τ → R β), m β f = y >>= f) : Eg g x e τ m e' :=
  ⟨fun β k => by rw [h, hm, R.assoc]; rfl, fun k => ⟨y, h, hm⟩⟩
theorem eg_n {x : PyData} (hi : ioAt e i = false) : Eg (tgN i) x e PyData (fun _ k => k x) (fun v => e.set i (.dat v)) := eg_of (.ok x) (by unfold tgN; rw [hi]; rfl) fun _ _ => rfl
theorem tgT2 (g g' : PyData → En → R En) (d : PyData) (e : En) : tgT 2 (tgCons g (tgCons g' tgNil)) d e = un2 d >>= fun p => g p.1 e >>= fun e1 => g' p.2 e1 := by
  unfold tgT
  cases d <;> first | rfl | skip
  rename_i ds
  match ds with
  | [] => rfl
  | [a] => rfl
  | [a, b] =>
    show (g a e >>= fun e1 => g' b e1 >>= fun e2 => R.ok e2) = _
    refine R.congr fun e1 => ?_
    exact R.right _
  | a :: b :: c :: r =>
    show (if (a :: b :: c :: r).length = 2 then _ else R.bad) = _
    rw [if_neg (by simp)]
    rfl
theorem tgT3 (g g' g3 : PyData → En → R En) (d : PyData) (e : En) : tgT 3 (tgCons g (tgCons g' (tgCons g3 tgNil))) d e = un3 d >>= fun p => g p.1 e >>= fun e1 => g' p.2.1 e1 >>= fun e2 => g3 p.2.2 e2 := by
  unfold tgT
  cases d <;> first | rfl | skip
  rename_i ds
  match ds with
  | [] => rfl
  | [a] => rfl
  | [a, b] => rfl
  | [a, b, c] =>
    show (g a e >>= fun e1 => g' b e1 >>= fun e2 => g3 c e2 >>= fun e3 => R.ok e3) = _
    refine R.congr fun e1 => R.congr fun e2 => ?_
    exact R.right _
  | a :: b :: c :: q :: r =>
    show (if (a :: b :: c :: q :: r).length = 3 then _ else R.bad) = _
    rw [if_neg (by simp)]
    rfl
theorem lift_un2 (d : PyData) : lift (un2 d) = un2 d := by unfold un2; split <;> rfl
theorem lift_un3 (d : PyData) : lift (un3 d) = un3 d := by unfold un3; split <;> rfl
theorem eg_t2 {x : PyData} (hi : ioAt e i = false) (hj : ∀ a, ioAt (e.set i (.dat a)) j = false) : Eg (tgT 2 (tgCons (tgN i) (tgCons (tgN j) tgNil))) x e (PyData × PyData) (fun _ k => un2 x >>= k) (fun p => (e.set i (.dat p.1)).set j (.dat p.2)) :=
  eg_of (un2 x) (by
    rw [tgT2, lift_bind, lift_un2]
    refine R.congr fun p => ?_
    unfold tgN
    rw [hi]
    simp only [Bool.false_eq_true, if_false, R.bind_ok, hj, lift_ok]) fun _ _ => rfl
theorem eg_t3 {k : Nat} {x : PyData} (hi : ioAt e i = false) (hj : ∀ a, ioAt (e.set i (.dat a)) j = false) (hk : ∀ a b, ioAt ((e.set i (.dat a)).set j (.dat b)) k = false) : Eg (tgT 3 (tgCons (tgN i) (tgCons (tgN j) (tgCons (tgN k) tgNil)))) x e (PyData × PyData × PyData) (fun _ k => un3 x >>= k) (fun p => ((e.set i (.dat p.1)).set j (.dat p.2.1)).set k (.dat p.2.2)) :=
  eg_of (un3 x) (by
    rw [tgT3, lift_bind, lift_un3]
    refine R.congr fun p => ?_
    unfold tgN
    rw [hi]
    simp only [Bool.false_eq_true, if_false, R.bind_ok, hj, hk, lift_ok]) fun _ _ => rfl
/-- (a, (b, c)) -/
theorem eg_t12 {k : Nat} {x : PyData} (hi : ioAt e i = false) (hj : ∀ a, ioAt (e.set i (.dat a)) j = false) (hk : ∀ a b, ioAt ((e.set i (.dat a)).set j (.dat b)) k = false) : Eg (tgT 2 (tgCons (tgN i) (tgCons (tgT 2 (tgCons (tgN j) (tgCons (tgN k) tgNil))) tgNil))) x e (PyData × PyData × PyData) (fun _ k => un2 x >>= fun p => un2 p.2 >>= fun q => k (p.1, q.1, q.2)) (fun p => ((e.set i (.dat p.1)).set j (.dat p.2.1)).set k (.dat p.2.2)) :=
  eg_of (un2 x >>= fun p => un2 p.2 >>= fun q => .ok (p.1, q.1, q.2)) (by
    rw [tgT2, lift_bind, lift_un2, R.assoc]
    refine R.congr fun p => ?_
    rw [R.assoc, lift_bind]
    unfold tgN
    rw [hi]
    simp only [Bool.false_eq_true, if_false, R.bind_ok, lift_ok]
    rw [tgT2, lift_bind, lift_un2]
    refine R.congr fun q => ?_
    simp only [hj, hk, Bool.false_eq_true, if_false, R.bind_ok, lift_ok]) fun _ f => by rw [R.assoc]; refine R.congr fun p => ?_; rw [R.assoc]; rfl
/-- ((a, b), c) -/
theorem eg_t21 {k : Nat} {x : PyData} (hi : ioAt e i = false) (hj : ∀ a, ioAt (e.set i (.dat a)) j = false) (hk : ∀ a b, ioAt ((e.set i (.dat a)).set j (.dat b)) k = false) : Eg (tgT 2 (tgCons (tgT 2 (tgCons (tgN i) (tgCons (tgN j) tgNil))) (tgCons (tgN k) tgNil))) x e (PyData × PyData × PyData) (fun _ k => un2 x >>= fun p => un2 p.1 >>= fun q => k (q.1, q.2, p.2)) (fun p => ((e.set i (.dat p.1)).set j (.dat p.2.1)).set k (.dat p.2.2)) :=
  eg_of (un2 x >>= fun p => un2 p.1 >>= fun q => .ok (q.1, q.2, p.2)) (by
    rw [tgT2, lift_bind, lift_un2, R.assoc]
    refine R.congr fun p => ?_
    rw [R.assoc, lift_bind, tgT2, lift_bind, lift_un2, R.assoc]
    refine R.congr fun q => ?_
    unfold tgN
    simp only [hi, hj, hk, Bool.false_eq_true, if_false, R.bind_ok, lift_ok]) fun _ f => by rw [R.assoc]; refine R.congr fun p => ?_; rw [R.assoc]; rfl
end
/-! ### comprehensions -/
def lcP (f : PyData → R (Option PyData)) : List PyData → R (List PyData)
  | [] => .ok []
  | x :: xs => lift (f x) >>= fun o => lcP f xs >>= fun r => .ok (match o with
    | some y => y :: r
    | none => r)
/-- a comprehension over the items xs: f tells what an item gives, none if it is left out -/
def lcR (f : PyData → R (Option PyData)) (xs : List PyData) : R (List PyData) := if xs.length ≤ 100000 then lcP f xs else .bad
section
variable {it : Sem' Its'} {vs ws : List Nat} {tg : PyData → En → R En} {tst : Sem' Bool} {elt : Sem' PyData} {w : En}
theorem lcLoop_eq (f : PyData → R (Option PyData)) (h : ∀ x, (lift (tg x w) >>= fun e1 => lift (tst e1) >>= fun p => if p.1 = true then lift (elt p.2) >>= fun q => R.ok (some q.1, wipeE q.2 vs) else R.ok (none, wipeE p.2 vs)) = lift (f x) >>= fun o => R.ok (o, w)) : ∀ xs : List PyData,
    lcLoop ws w vs tg tst elt xs w = lcP f xs >>= fun ys => R.ok (ys, w)
  | [] => by unfold lcLoop; rw [keepW_self]; rfl
  | x :: xs => by
    unfold lcLoop lcP
    rw [keepW_self, R.assoc]
    have e : (lift (tg x w) >>= fun e1 => lift (tst e1) >>= fun p => if p.1 = true then lift (elt p.2) >>= fun q => lcLoop ws w vs tg tst elt xs (wipeE q.2 vs) >>= fun r => R.ok (q.1 :: r.1, r.2) else lcLoop ws w vs tg tst elt xs (wipeE p.2 vs)) =
        (lift (tg x w) >>= fun e1 => lift (tst e1) >>= fun p => if p.1 = true then lift (elt p.2) >>= fun q => R.ok (some q.1, wipeE q.2 vs) else R.ok (none, wipeE p.2 vs)) >>= fun (o : Option PyData × En) => lcLoop ws w vs tg tst elt xs o.2 >>= fun r => R.ok (match o.1 with
          | some y => (y :: r.1, r.2)
          | none => (r.1, r.2)) := by
      rw [R.assoc]
      refine R.congr fun e1 => ?_
      rw [R.assoc]
      refine R.congr fun p => ?_
      cases p.1 with
      | true =>
        simp only [if_true]
        rw [R.assoc]
        rfl
      | false =>
        simp only [Bool.false_eq_true, if_false]
        exact (R.right _).symm
    rw [e, h x, R.assoc]
    refine R.congr fun o => ?_
    show (lcLoop ws w vs tg tst elt xs w >>= _) = _
    rw [lcLoop_eq f h xs, R.assoc, R.assoc]
    refine R.congr fun r => ?_
    cases o <;> rfl
def LcS (tg : PyData → En → R En) (tst : Sem' Bool) (elt : Sem' PyData) (vs : List Nat) (w : En) (x : PyData) (f : R (Option PyData)) : Prop := (lift (tg x w) >>= fun e1 => lift (tst e1) >>= fun p => if p.1 = true then lift (elt p.2) >>= fun q => R.ok (some q.1, wipeE q.2 vs) else R.ok (none, wipeE p.2 vs)) = lift f >>= fun o => R.ok (o, w)
theorem xv_dLc {X : R (List PyData)} (f : PyData → R (Option PyData)) (hi : Ei it e X e1 ws) (hfr : freeOf e1 vs = true) (hws : ws.all (fun i => !vs.contains i) = true) (hw : wipeE e1 vs = w) (hr : restE e1 w vs = e2)
    (h : ∀ x, LcS tg tst elt vs w x (f x)) :
    Xv (dLc it vs tg tst elt) e (X >>= fun xs => lcR f xs) e2 := by
  unfold Xv dLc
  rw [show it e = _ from hi, R.assoc, R.assoc]
  refine R.congr fun xs => ?_
  simp only [R.bind_ok, hfr, hws, and_true, true_and, hw]
  unfold lcR
  by_cases hl : xs.length ≤ 100000
  · simp only [hl, if_true]
    rw [lcLoop_eq f h, R.assoc, R.congr fun ys => ?_]
    simp only [R.bind_ok, hr]
  · simp only [hl, if_false]
    rfl
/-- an item's step -/
theorem xlc_step {x : PyData} {τ : Type} {m : (β : Type) → (τ → R β) → R β} {e' : τ → En} {t : τ → R Bool} {y : τ → R PyData} (g : Eg tg x w τ m e') (ht : ∀ v, Xv tst (e' v) (t v) (e' v)) (hy : ∀ v, Xv elt (e' v) (y v) (e' v)) (hw : ∀ v, wipeE (e' v) vs = w) :
    LcS tg tst elt vs w x (m (Option PyData) fun v => t v >>= fun b => if b = true then y v >>= fun z => .ok (some z) else .ok none) := by
  unfold LcS
  obtain ⟨z, h1, h2⟩ := g.obs fun _ => .bad
  have h1 : lift (tg x w) = lift z >>= fun v => R.ok (e' v) := by
    have : lift (tg x w) = lift (lift (tg x w)) := (lift_lift _).symm
    rw [this, h1, lift_bind]
    rfl
  rw [h1, h2, lift_bind, R.assoc, R.assoc]
  refine R.congr fun v => ?_
  show (lift (tst (e' v)) >>= _) = _
  rw [show tst (e' v) = _ from ht v, lift_bind, lift_bind, R.assoc, R.assoc]
  refine R.congr fun b => ?_
  cases b with
  | true =>
    show (lift (elt (e' v)) >>= _) = (lift (y v >>= fun z => R.ok (some z)) >>= _)
    rw [show elt (e' v) = _ from hy v, lift_bind, lift_bind, R.assoc, R.assoc]
    refine R.congr fun z => ?_
    show R.ok (some z, wipeE (e' v) vs) = _
    rw [hw]
    rfl
  | false =>
    show R.ok (none, wipeE (e' v) vs) = _
    rw [hw]
    rfl
theorem xlc_step1 {x : PyData} {τ : Type} {m : (β : Type) → (τ → R β) → R β} {e' : τ → En} {y : τ → R PyData} (g : Eg tg x w τ m e') (hy : ∀ v, Xv elt (e' v) (y v) (e' v)) (hw : ∀ v, wipeE (e' v) vs = w) :
    LcS tg dYes elt vs w x (m (Option PyData) fun v => y v >>= fun z => .ok (some z)) :=
  xlc_step (t := fun _ => .ok true) g (fun v => xv_dYes) hy hw
end
end PD
end
section
/-! PO2: suites told without slots. -/
namespace PD
open PySem PySem.Spec PyProof.Rows L2 Evl
variable {α β γ σ τ ρ : Type} {e e1 e2 e3 e' : En} {i j : Nat}
theorem ofR_bind (x : R α) (f : α → R β) (k : β → RS) : ofR (x >>= f) k = ofR x fun a => ofR (f a) k := by cases x <;> rfl
theorem ofR_congr {x : R α} {k k' : α → RS} (h : ∀ a, k a = k' a) : ofR x k = ofR x k' := by cases x <;> first | exact h _ | rfl
theorem ofR_lift {x : R α} {k : α → RS} (h : lift x = x) : ofR (lift x) k = ofR x k := by rw [h]
def nrm : RS → RS
  | .ret r e => .ret r (ioE e)
  | r => r
theorem nrm_ofR (x : R α) (k : α → RS) : nrm (ofR x k) = ofR x fun a => nrm (k a) := by cases x <;> rfl
/-- a suite: m what it comes to, κ how that is left -/
def Js (S : SemS) (e : En) (m : R γ) (κ : γ → RS) : Prop := nrm (S e) = ofR m κ
/-- how a loop's turnS ends -/
inductive Ctl (σ ρ : Type) where
  | nx (s : σ)
  | bk (s : σ)
  | rt (r : ρ)
def Ctl.fin (c : Ctl σ ρ) (f : σ → β) (g : ρ → β) : β := match c with
  | .nx s => f s
  | .bk s => f s
  | .rt r => g r
@[simp] theorem Ctl.fin_nx (s : σ) (f : σ → β) (g : ρ → β) : (Ctl.nx s : Ctl σ ρ).fin f g = f s := rfl
@[simp] theorem Ctl.fin_bk (s : σ) (f : σ → β) (g : ρ → β) : (Ctl.bk s : Ctl σ ρ).fin f g = f s := rfl
@[simp] theorem Ctl.fin_rt (r : ρ) (f : σ → β) (g : ρ → β) : (Ctl.rt r : Ctl σ ρ).fin f g = g r := rfl
def kCtl (E : σ → En) (rr : ρ → RS) : Ctl σ ρ → RS
  | .nx s => .next (E s)
  | .bk s => .brk (E s)
  | .rt r => rr r
def kFin (E : σ → En) (rr : ρ → RS) : Ctl σ ρ → RS
  | .nx s => .next (E s)
  | .bk s => .next (E s)
  | .rt r => rr r
section
variable {S T U A B : SemS} {m mA mB mT : R γ} {κ : γ → RS} {E : σ → En}
theorem js_seq {x : R σ} {m2 : σ → R γ} (h1 : Js S e x fun s => .next (E s)) (h2 : ∀ s, Js T (E s) (m2 s) κ) : Js (sSeq S T) e (x >>= m2) κ := by
  unfold Js sSeq
  unfold Js at h1 h2
  rw [ofR_bind]
  cases hs : S e with
  | next e1 =>
    rw [hs] at h1
    cases x with
    | ok s => cases h1; exact h2 s
    | exc n => cases h1
    | bad => cases h1
  | exc n =>
    rw [hs] at h1
    cases x with
    | ok s => cases h1
    | exc n => cases h1; rfl
    | bad => cases h1
  | bad =>
    rw [hs] at h1
    cases x with
    | ok s => cases h1
    | exc n => cases h1
    | bad => rfl
  | ret r e1 => rw [hs] at h1; cases x <;> cases h1
  | brk e1 => rw [hs] at h1; cases x <;> cases h1
  | cont e1 => rw [hs] at h1; cases x <;> cases h1
/-- a loop that may hand back, then the rest -/
theorem js_seqC {x : R (Ctl σ ρ)} {rr : ρ → RS} {m2 : σ → R γ} {w : ρ → γ} (h1 : Js S e x (kFin E rr)) (h2 : ∀ s, Js T (E s) (m2 s) κ) (hr : ∀ r, κ (w r) = rr r) (hx : ∀ r, ∃ v e, rr r = .ret v e) : Js (sSeq S T) e (x >>= fun c => c.fin m2 fun r => .ok (w r)) κ := by
  unfold Js sSeq
  unfold Js at h1 h2
  rw [ofR_bind]
  cases x with
  | exc n =>
    have h1 : nrm (S e) = .exc n := h1
    cases hs : S e <;> rw [hs] at h1 <;> cases h1
    rfl
  | bad =>
    have h1 : nrm (S e) = .bad := h1
    cases hs : S e <;> rw [hs] at h1 <;> cases h1
    rfl
  | ok c =>
    have key : ∀ s, nrm (S e) = .next (E s) → nrm (sThen (S e) T) = ofR (m2 s) κ := fun s h => by
      cases hs : S e <;> rw [hs] at h <;> cases h
      exact h2 s
    cases c with
    | nx s => exact key s h1
    | bk s => exact key s h1
    | rt r =>
      have h1 : nrm (S e) = rr r := h1
      obtain ⟨v, e0, hv⟩ := hx r
      show nrm (sThen (S e) T) = κ (w r)
      rw [hr, ← h1]
      rw [hv] at h1
      cases hs : S e <;> rw [hs] at h1 <;> cases h1
      rfl
/-- never goes on -/
def Nn (S : SemS) : Prop := ∀ e e2, S e ≠ .next e2
theorem nn_ofR {x : R α} {k : α → RS} (h : ∀ a e2, k a ≠ .next e2) : ∀ e2, ofR x k ≠ .next e2 := fun e2 => by
  cases x with
  | ok a => exact h a e2
  | exc n => exact fun z => by cases z
  | bad => exact fun z => by cases z
theorem nn_ret {F : Sem' PyData} : Nn (sRet F) := fun e e2 => nn_ofR (fun a e2 z => by cases z) e2
theorem nn_retL {F : Sem' (List PyData)} : Nn (sRetL F) := fun e e2 => nn_ofR (fun a e2 z => by cases z) e2
theorem nn_retV {F : Sem' Rv} : Nn (sRetV F) := fun e e2 => nn_ofR (fun a e2 z => by cases z) e2
theorem nn_retN : Nn sRetN := fun e e2 z => by cases z
theorem nn_exc {n : Nat} : Nn (sExc n) := fun e e2 z => by cases z
theorem nn_brk : Nn sBrk := fun e e2 z => by cases z
theorem nn_cont : Nn sCont := fun e e2 z => by cases z
theorem nn_seq (h : Nn T) : Nn (sSeq S T) := fun e e2 => by
  unfold sSeq
  cases S e with
  | next e1 => exact h e1 e2
  | _ => exact fun z => by cases z
theorem nn_if {t : Sem' Bool} (h1 : Nn A) (h2 : Nn B) : Nn (sIf t A B) := fun e e2 => nn_ofR (fun p e2 => by
  split
  · exact h1 _ e2
  · exact h2 _ e2) e2
theorem nn_clr {is : List Nat} (h : Nn S) : Nn (sClr is S) := fun e e2 => by
  unfold sClr
  have := h e
  cases hs : S e <;> first | (exact absurd hs (this _)) | (intro z; cases z)
theorem then_nn (h : Nn S) (T : SemS) : sThen (S e) T = S e := by
  have := h e
  cases hs : S e <;> first | (exact absurd hs (this _)) | rfl
theorem js_if {t : Sem' Bool} {x : R Bool} (ht : Xv t e x e1) (h1 : Js A e1 mA κ) (h2 : Js B e1 mB κ) : Js (sIf t A B) e (x >>= fun b => if b = true then mA else mB) κ := by
  unfold Js sIf
  unfold Js at h1 h2
  rw [show t e = _ from ht, ofR_bind, nrm_ofR, ofR_bind]
  refine ofR_congr fun b => ?_
  cases b
  · exact h2
  · exact h1
/-- if t: leave; the rest -/
theorem js_ifx {t : Sem' Bool} {x : R Bool} (nA : Nn A) (ht : Xv t e x e1) (h1 : Js A e1 mA κ) (h2 : Js T e1 mT κ) : Js (sSeq (sIf t A sNext) T) e (x >>= fun b => if b = true then mA else mT) κ := by
  unfold Js sSeq sIf
  unfold Js at h1 h2
  rw [show t e = _ from ht]
  cases x <;> first | rfl | skip
  rename_i b
  cases b
  · exact h2
  · show nrm (sThen (A e1) T) = _
    rw [then_nn nA]
    exact h1
/-- if t: leave; else: go on; the rest -/
theorem js_ifxe {t : Sem' Bool} {x : R Bool} (nA : Nn A) (ht : Xv t e x e1) (h1 : Js A e1 mA κ) (h2 : Js (sSeq B T) e1 mT κ) : Js (sSeq (sIf t A B) T) e (x >>= fun b => if b = true then mA else mT) κ := by
  unfold Js sSeq sIf
  unfold Js at h1 h2
  rw [show t e = _ from ht]
  cases x <;> first | rfl | skip
  rename_i b
  cases b
  · exact h2
  · show nrm (sThen (A e1) T) = _
    rw [then_nn nA]
    exact h1
/-- if t: go on; else: leave; the rest -/
theorem js_ifex {t : Sem' Bool} {x : R Bool} (nB : Nn B) (ht : Xv t e x e1) (h1 : Js (sSeq A T) e1 mA κ) (h2 : Js B e1 mT κ) : Js (sSeq (sIf t A B) T) e (x >>= fun b => if b = true then mA else mT) κ := by
  unfold Js sSeq sIf
  unfold Js at h1 h2
  rw [show t e = _ from ht]
  cases x <;> first | rfl | skip
  rename_i b
  cases b
  · show nrm (sThen (B e1) T) = _
    rw [then_nn nB]
    exact h2
  · exact h1
theorem js_exc {n : Nat} : Js (sExc n) e (.exc n : R γ) κ := rfl
theorem js_next : Js sNext e (.ok ()) fun _ => .next e := rfl
theorem js_nextv {v : γ} (h : κ v = .next e) : Js sNext e (.ok v) κ := by unfold Js sNext; exact h.symm
theorem js_brk {v : γ} (h : κ v = .brk e) : Js sBrk e (.ok v) κ := by unfold Js sBrk; exact h.symm
/-- a suite's end told otherwise -/
theorem js_map {x : R σ} {w : σ → γ} {κ' : σ → RS} (h : Js S e x κ') (hw : ∀ s, κ (w s) = κ' s) : Js S e (x >>= fun s => .ok (w s)) κ := by
  unfold Js
  rw [show nrm (S e) = _ from h, ofR_bind]
  exact ofR_congr fun s => (hw s).symm
theorem js_same {κ' : γ → RS} (h : Js S e m κ') (hw : ∀ s, κ' s = κ s) : Js S e m κ := by
  unfold Js
  rw [show nrm (S e) = _ from h]
  exact ofR_congr hw
theorem js_clr {is : List Nat} (h : Js S e m κ) : Js (sClr is S) e m fun c => clrRS is (κ c) := by
  unfold Js sClr
  have h : nrm (S e) = ofR m κ := h
  have e1 : nrm (clrRS is (S e)) = clrRS is (nrm (S e)) := by cases S e <;> rfl
  rw [e1, h]
  cases m <;> rfl
end
section
variable {S T U A B : SemS} {κ : γ → RS} {F G : Sem' PyData} {x y : R PyData} {ds : List PyData} {io : Bool}
theorem jl_ret (h : Xv F e x e') : Js (sRet F) e x fun v => .ret (.dat v) (ioE e') := by
  unfold Js sRet
  rw [show F e = _ from h, ofR_bind, nrm_ofR]
  rfl
theorem jl_retN : Js sRetN e (.ok ()) fun _ => .ret (.dat .none) (ioE e) := rfl
theorem jl_retL {N : Sem' (List PyData)} {xs : R (List PyData)} (h : Xv N e xs e') : Js (sRetL N) e xs fun v => .ret (.new v) (ioE e') := by
  unfold Js sRetL
  rw [show N e = _ from h, ofR_bind, nrm_ofR]
  rfl
theorem jl_retV {V : Sem' Rv} {xs : R α} {rv : α → Rv} (h : Er V e xs e' rv) : Js (sRetV V) e xs fun v => .ret (rv v) (ioE e') := by
  unfold Js sRetV
  rw [show V e = _ from h, ofR_bind, nrm_ofR]
  rfl
theorem jl_asg (h : Xv F e x e1) (hi : ioAt e1 i = false) : Js (sAsg F (tgN i)) e x fun v => .next (e1.set i (.dat v)) := by
  unfold Js sAsg
  rw [show F e = _ from h, ofR_bind, nrm_ofR]
  refine ofR_congr fun v => ?_
  unfold tgN
  simp only [ofR_ok, hi, Bool.false_eq_true, if_false, lift_ok]
  rfl
theorem jl_asgT {g : PyData → En → R En} {m : PyData → (β : Type) → (τ → R β) → R β} {E : τ → En} (h : Xv F e x e1) (hg : ∀ d, Eg g d e1 τ (m d) E) : Js (sAsg F g) e (x >>= fun d => m d τ fun v => .ok v) fun v => .next (E v) := by
  unfold Js sAsg
  rw [show F e = _ from h, ofR_bind, nrm_ofR, ofR_bind]
  refine ofR_congr fun d => ?_
  obtain ⟨z, h1, h2⟩ := (hg d).obs fun _ => .bad
  simp only [ofR_ok]
  rw [h1, h2, ofR_bind, nrm_ofR, R.right]
  rfl
theorem jl_own {N : Sem' (List PyData)} {xs : R (List PyData)} (h : Xv N e xs e1) (hi : ioAt e1 i = false) : Js (sOwn N i) e xs fun v => .next (e1.set i (.own false v)) := by
  unfold Js sOwn
  rw [show N e = _ from h, ofR_bind, nrm_ofR]
  refine ofR_congr fun v => ?_
  simp only [ofR_ok, hi, Bool.false_eq_true, if_false]
  rfl
theorem jl_drop (h : Xv F e x e1) : Js (sDrop F) e x fun _ => .next e1 := by
  unfold Js sDrop
  rw [show F e = _ from h, ofR_bind, nrm_ofR]
  rfl
theorem jl_par {V W : Sem' Rv} {a : R α} {b : R β} {rv : α → Rv} {rw' : β → Rv} (h1 : Er V e a e1 rv) (h2 : Er W e1 b e2 rw') (hi : ioAt e2 i = false) (hj : ∀ v, ioAt (e2.set i v) j = false ∨ True) (hj2 : ∀ r : Rv, ioAt (e2.set i (slOf r)) j = false) :
    Js (sPar i j V W) e (a >>= fun u => b >>= fun v => .ok (u, v)) fun p => .next ((e2.set i (slOf (rv p.1))).set j (slOf (rw' p.2))) := by
  unfold Js sPar
  rw [show V e = _ from h1, ofR_bind, nrm_ofR, ofR_bind]
  refine ofR_congr fun u => ?_
  simp only [ofR_ok]
  rw [show W e1 = _ from h2, ofR_bind, nrm_ofR, ofR_bind]
  refine ofR_congr fun v => ?_
  unfold putE
  simp only [ofR_ok, hi, hj2, Bool.false_eq_true, if_false, lift_ok]
  rfl
theorem lift_ixR (n : Nat) (d : PyData) : lift (ixR n d) = ixR n d := by unfold ixR; split <;> first | rfl | exact lift_get _
theorem ownAt_is (h : e[i]? = some (.own io ds)) : ownAt e i = .ok (io, ds) := by unfold ownAt; rw [h]
/-- x[i] = v -/
def setIxP (ds : List PyData) (k v : PyData) : R (List PyData) := ixR ds.length k >>= fun j => .ok (ds.set j v)
theorem jl_setIx {I : Sem' PyData} {s : Nat} (h1 : Xv F e x e) (h2 : Xv I e y e) (hs : e[s]? = some (.own io ds)) : Js (sSetIx s I F) e (x >>= fun v => y >>= fun k => setIxP ds k v) fun ds' => .next (e.set s (.own io ds')) := by
  unfold Js sSetIx
  rw [show F e = _ from h1, ofR_bind, nrm_ofR, ofR_bind]
  refine ofR_congr fun v => ?_
  simp only [ofR_ok]
  rw [ownAt_is hs]
  simp only [ofR_ok]
  rw [show I e = _ from h2, ofR_bind, nrm_ofR, ofR_bind]
  refine ofR_congr fun k => ?_
  simp only [ofR_ok]
  rw [ownAt_is hs]
  unfold setIxP
  rw [ofR_bind]
  simp only [ofR_ok]
  rw [nrm_ofR]
  rfl
/-- x[i] op= v -/
def augIxP (op : PyData → PyData → R PyData) (ds : List PyData) (k : PyData) (v : R PyData) : R (List PyData) := ixR ds.length k >>= fun j => R.get ds[j]? >>= fun a => v >>= fun b => op a b >>= fun d => .ok (ds.set j d)
theorem jl_augIx {I : Sem' PyData} {s : Nat} {op : PyData → PyData → R PyData} (nx : NX2 op) (h2 : Xv I e y e) (h1 : Xv F e x e) (hs : e[s]? = some (.own io ds)) : Js (sAugIx s op I F) e (y >>= fun k => augIxP op ds k x) fun ds' => .next (e.set s (.own io ds')) := by
  unfold Js sAugIx
  rw [ownAt_is hs]
  simp only [ofR_ok]
  rw [show I e = _ from h2, ofR_bind, nrm_ofR, ofR_bind]
  refine ofR_congr fun k => ?_
  simp only [ofR_ok]
  rw [ownAt_is hs]
  simp only [ofR_ok]
  unfold augIxP
  rw [nrm_ofR, ofR_bind]
  cases hj : ixR ds.length k with
  | exc n => rfl
  | bad => rfl
  | ok j =>
    simp only [ofR_ok]
    rw [nrm_ofR, ofR_bind]
    refine ofR_congr fun a => ?_
    rw [show F e = _ from h1, ofR_bind, nrm_ofR, ofR_bind]
    refine ofR_congr fun b => ?_
    simp only [ofR_ok]
    rw [nx, nrm_ofR, ofR_bind]
    refine ofR_congr fun d => ?_
    rw [ownAt_is hs]
    simp only [ofR_ok, hj]
    rfl
theorem jl_aug {op : PyData → PyData → R PyData} {d : PyData} (nx : NX2 op) (hi : e[i]? = some (.dat d)) (h : Xv F e x e1) (h2 : ioAt e1 i = false) : Js (sAug i op F) e (x >>= fun b => op d b) fun v => .next (e1.set i (.dat v)) := by
  unfold Js sAug
  rw [hi]
  simp only []
  rw [show F e = _ from h, ofR_bind, nrm_ofR, ofR_bind]
  refine ofR_congr fun b => ?_
  simp only [ofR_ok]
  rw [nx, nrm_ofR]
  refine ofR_congr fun v => ?_
  unfold tgN
  simp only [h2, Bool.false_eq_true, if_false, lift_ok, ofR_ok]
  rfl
def appP (ds : List PyData) (v : PyData) : R (List PyData) := if ds.length < 100000 then .ok (ds ++ [v]) else .bad
theorem jl_app {s : Nat} (h : Xv F e x e1) (h0 : e[s]? = some (.own io ds)) (hs : e1[s]? = some (.own io ds)) : Js (sAppend s F) e (x >>= fun v => appP ds v) fun ds' => .next (e1.set s (.own io ds')) := by
  unfold Js sAppend sApp
  rw [ownAt_is h0]
  simp only [ofR_ok]
  rw [show F e = _ from h, ofR_bind, nrm_ofR, ofR_bind]
  refine ofR_congr fun v => ?_
  simp only [ofR_ok]
  rw [ownAt_is hs]
  simp only [ofR_ok]
  unfold appP
  split <;> rfl
/-! ### loops -/
def forP (step : PyData → σ → R σ) : List PyData → σ → R σ
  | [], s => .ok s
  | x :: xs, s => step x s >>= fun s' => forP step xs s'
def forC (step : PyData → σ → R (Ctl σ ρ)) : List PyData → σ → R (Ctl σ ρ)
  | [], s => .ok (.nx s)
  | x :: xs, s => step x s >>= fun c => match c with
    | .nx s' => forC step xs s'
    | .bk s' => .ok (.nx s')
    | .rt r => .ok (.rt r)
def whP (t : σ → R Bool) (b : σ → R σ) : Nat → σ → R σ
  | 0, _ => .bad
  | n + 1, s => t s >>= fun q => if q = true then b s >>= fun s' => whP t b n s' else .ok s
def whC (t : σ → R Bool) (b : σ → R (Ctl σ ρ)) : Nat → σ → R (Ctl σ ρ)
  | 0, _ => .bad
  | n + 1, s => t s >>= fun q => if q = true then b s >>= fun c => match c with
    | .nx s' => whC t b n s'
    | .bk s' => .ok (.nx s')
    | .rt r => .ok (.rt r) else .ok (.nx s)
/-- so many turns are more than any that are gone -/
def bigF : Nat := 10 ^ 60
/-- a turnS of a for: the item, then the suite -/
def Jb (g : PyData → En → R En) (S : SemS) (x : PyData) (e : En) (m : R γ) (κ : γ → RS) : Prop := nrm (ofR (lift (g x e)) S) = ofR m κ
theorem jb_of {g : PyData → En → R En} {x : PyData} {m : (β : Type) → (τ → R β) → R β} {E : τ → En} {f : τ → R γ} (hg : Eg g x e τ m E) (h : ∀ v, Js S (E v) (f v) κ) : Jb g S x e (m γ f) κ := by
  obtain ⟨z, h1, h2⟩ := hg.obs fun _ => .bad
  unfold Jb
  rw [h1, h2, ofR_bind, nrm_ofR, ofR_bind]
  exact ofR_congr fun v => h v
theorem nrm_next {r : RS} {e : En} (h : nrm r = .next e) : r = .next e := by cases r <;> first | exact h | cases h
theorem nrm_brk {r : RS} {e : En} (h : nrm r = .brk e) : r = .brk e := by cases r <;> first | exact h | cases h
theorem nrm_exc {r : RS} {n : Nat} (h : nrm r = .exc n) : r = .exc n := by cases r <;> first | exact h | cases h
theorem nrm_bad {r : RS} (h : nrm r = .bad) : r = .bad := by cases r <;> first | exact h | cases h
/-- a turnS, by what its suite comes to -/
def turnS (g : PyData → En → R En) (S : SemS) (x : PyData) (e : En) : RS := ofR (lift (g x e)) S
theorem forLoop_cons (g : PyData → En → R En) (S : SemS) (x : PyData) (xs : List PyData) (e : En) : forLoop g S (x :: xs) e = match turnS g S x e with
    | .next e2 => forLoop g S xs e2
    | .cont e2 => forLoop g S xs e2
    | .brk e2 => .next e2
    | y => y := by
  show (ofR (lift (g x e)) fun e1 => match S e1 with
    | .next e2 => forLoop g S xs e2
    | .cont e2 => forLoop g S xs e2
    | .brk e2 => .next e2
    | y => y) = _
  unfold turnS
  cases lift (g x e) <;> rfl
variable {E : σ → En} {rr : ρ → RS} {g : PyData → En → R En}
theorem forl_next {step : PyData → σ → R σ} (h : ∀ x s, Jb g S x (E s) (step x s) fun s => .next (E s)) : ∀ (xs : List PyData) (s : σ), nrm (forLoop g S xs (E s)) = ofR (forP step xs s) fun s => .next (E s)
  | [], s => rfl
  | x :: xs, s => by
    rw [forLoop_cons]
    unfold forP
    rw [ofR_bind]
    have hb : nrm (turnS g S x (E s)) = _ := h x s
    cases hm : step x s with
    | ok s' =>
      rw [hm] at hb
      rw [nrm_next hb]
      exact forl_next h xs s'
    | exc n =>
      rw [hm] at hb
      rw [nrm_exc hb]
      rfl
    | bad =>
      rw [hm] at hb
      rw [nrm_bad hb]
      rfl
theorem forl_ctl {step : PyData → σ → R (Ctl σ ρ)} (hx : ∀ r, ∃ v e, rr r = .ret v e) (h : ∀ x s, Jb g S x (E s) (step x s) (kCtl E rr)) : ∀ (xs : List PyData) (s : σ), nrm (forLoop g S xs (E s)) = ofR (forC step xs s) (kFin E rr)
  | [], s => rfl
  | x :: xs, s => by
    rw [forLoop_cons]
    unfold forC
    rw [ofR_bind]
    have hb : nrm (turnS g S x (E s)) = _ := h x s
    cases hm : step x s with
    | ok c =>
      rw [hm] at hb
      cases c with
      | nx s' =>
        rw [nrm_next hb]
        exact forl_ctl hx h xs s'
      | bk s' =>
        rw [nrm_brk hb]
        rfl
      | rt r =>
        have hb : nrm (turnS g S x (E s)) = rr r := hb
        obtain ⟨v, e0, hv⟩ := hx r
        show _ = rr r
        rw [← hb]
        rw [hv] at hb
        cases ht : turnS g S x (E s) <;> rw [ht] at hb <;> cases hb <;> rfl
    | exc n =>
      rw [hm] at hb
      rw [nrm_exc hb]
      rfl
    | bad =>
      rw [hm] at hb
      rw [nrm_bad hb]
      rfl
theorem jl_for {it : Sem' Its'} {X : R (List PyData)} {s0 : σ} {step : PyData → σ → R σ} (hi : Ei it e X (E s0) []) (h : ∀ x s, Jb g S x (E s) (step x s) fun s => .next (E s)) : Js (sFor it g S) e (X >>= fun xs => forP step xs s0) fun s => .next (E s) := by
  unfold Js sFor
  rw [show it e = _ from hi, ofR_bind, nrm_ofR, ofR_bind]
  exact ofR_congr fun xs => forl_next h xs s0
theorem jl_forC {it : Sem' Its'} {X : R (List PyData)} {s0 : σ} {step : PyData → σ → R (Ctl σ ρ)} (hi : Ei it e X (E s0) []) (hx : ∀ r, ∃ v e, rr r = .ret v e) (h : ∀ x s, Jb g S x (E s) (step x s) (kCtl E rr)) : Js (sFor it g S) e (X >>= fun xs => forC step xs s0) (kFin E rr) := by
  unfold Js sFor
  rw [show it e = _ from hi, ofR_bind, nrm_ofR, ofR_bind]
  exact ofR_congr fun xs => forl_ctl hx h xs s0
theorem wh_next {T : Sem' Bool} {t : σ → R Bool} {b : σ → R σ} (ht : ∀ s, Xv T (E s) (t s) (E s)) (h : ∀ s, Js S (E s) (b s) fun s => .next (E s)) : ∀ (n : Nat) (s : σ), nrm (whLoop T S n (E s)) = ofR (whP t b n s) fun s => .next (E s)
  | 0, s => rfl
  | n + 1, s => by
    unfold whLoop whP
    rw [show T (E s) = _ from ht s, ofR_bind, nrm_ofR, ofR_bind]
    refine ofR_congr fun q => ?_
    cases q with
    | false => rfl
    | true =>
      simp only [ofR_ok, if_true]
      rw [ofR_bind]
      have hb : nrm (S (E s)) = _ := h s
      cases hm : b s with
      | ok s' =>
        rw [hm] at hb
        rw [nrm_next hb]
        exact wh_next ht h n s'
      | exc k =>
        rw [hm] at hb
        rw [nrm_exc hb]
        rfl
      | bad =>
        rw [hm] at hb
        rw [nrm_bad hb]
        rfl
theorem jl_while {T : Sem' Bool} {s0 : σ} {t : σ → R Bool} {b : σ → R σ} (ht : ∀ s, Xv T (E s) (t s) (E s)) (h : ∀ s, Js S (E s) (b s) fun s => .next (E s)) : Js (sWhile (fun _ => bigF) T S) (E s0) (whP t b bigF s0) fun s => .next (E s) := wh_next ht h bigF s0
theorem wh_ctl {T : Sem' Bool} {t : σ → R Bool} {b : σ → R (Ctl σ ρ)} (hx : ∀ r, ∃ v e, rr r = .ret v e) (ht : ∀ s, Xv T (E s) (t s) (E s)) (h : ∀ s, Js S (E s) (b s) (kCtl E rr)) : ∀ (n : Nat) (s : σ), nrm (whLoop T S n (E s)) = ofR (whC t b n s) (kFin E rr)
  | 0, s => rfl
  | n + 1, s => by
    unfold whLoop whC
    rw [show T (E s) = _ from ht s, ofR_bind, nrm_ofR, ofR_bind]
    refine ofR_congr fun q => ?_
    cases q with
    | false => rfl
    | true =>
      simp only [ofR_ok, if_true]
      rw [ofR_bind]
      have hb : nrm (S (E s)) = _ := h s
      cases hm : b s with
      | ok c =>
        rw [hm] at hb
        cases c with
        | nx s' =>
          rw [nrm_next hb]
          exact wh_ctl hx ht h n s'
        | bk s' =>
          rw [nrm_brk hb]
          rfl
        | rt r =>
          have hb : nrm (S (E s)) = rr r := hb
          obtain ⟨v, e0, hv⟩ := hx r
          show _ = rr r
          rw [← hb]
          rw [hv] at hb
          cases hs : S (E s) <;> rw [hs] at hb <;> cases hb <;> rfl
      | exc k =>
        rw [hm] at hb
        rw [nrm_exc hb]
        rfl
      | bad =>
        rw [hm] at hb
        rw [nrm_bad hb]
        rfl
theorem jl_whileC {T : Sem' Bool} {s0 : σ} {t : σ → R Bool} {b : σ → R (Ctl σ ρ)} (hx : ∀ r, ∃ v e, rr r = .ret v e) (ht : ∀ s, Xv T (E s) (t s) (E s)) (h : ∀ s, Js S (E s) (b s) (kCtl E rr)) : Js (sWhile (fun _ => bigF) T S) (E s0) (whC t b bigF s0) (kFin E rr) := wh_ctl hx ht h bigF s0
end
/-! ### a def -/
def finI (args : List Sl) : RS → R (Rv × List Sl)
  | .ret r e => .ok (r, backArgs args e)
  | .next e => .ok (.dat .none, backArgs args (ioE e))
  | .exc n => .exc n
  | _ => .bad
theorem ioE_io (e : En) : ioE (ioE e) = ioE e := by
  unfold ioE
  rw [List.map_map]
  refine List.map_congr_left fun s _ => ?_
  cases s with
  | no => rfl
  | dat d => rfl
  | own io ds => cases io <;> rfl
theorem run_fin (n : Nat) (B : SemS) (args : List Sl) : runI n B args = finI args (nrm (B (args ++ List.replicate (n - args.length) .no))) := by
  unfold runI
  cases B (args ++ List.replicate (n - args.length) .no) with
  | ret r e => rfl
  | _ => rfl
theorem fn_js {n : Nat} {B : SemS} {args : List Sl} {e0 : En} {m : R γ} {κ : γ → RS} {w : γ → Rv × List Sl} (h0 : args ++ List.replicate (n - args.length) .no = e0) (h : Js B e0 m κ) (hw : ∀ c, finI args (κ c) = .ok (w c)) : runI n B args = m >>= fun c => .ok (w c) := by
  rw [run_fin, h0, show nrm (B e0) = _ from h]
  cases m with
  | ok c => exact hw c
  | exc k => rfl
  | bad => rfl
end PD
end
section
/-! PO3: expressions within which lists change that slots hold (a hand that draws, a list that is popped). -/
namespace PD
open PySem PySem.Spec PyProof.Rows L2 Evl
variable {α β γ σ τ ρ : Type} {i j : Nat} {E W : σ → En}
def Es (F : Sem' α) (E : σ → En) (X : σ → R (α × σ)) : Prop := ∀ s, F (E s) = X s >>= fun p => .ok (p.1, E p.2)
theorem es_ev {F : Sem' α} {x : σ → R α} (h : ∀ s, Xv F (E s) (x s) (E s)) : Es F E fun s => x s >>= fun v => .ok (v, s) := fun s => by rw [show F (E s) = _ from h s, R.assoc]; rfl
def Eso (F : Sem' Op) (E : σ → En) (X : σ → R (PyData × σ)) (o : PyData → Op) : Prop := ∀ s, F (E s) = X s >>= fun p => .ok (o p.1, E p.2)
def Rss (X : σ → R (PyData × σ)) (o : PyData → Op) (E : σ → En) : Prop := ∀ s s' v s1, X s = .ok (v, s1) → (o v).res (E s') = .ok v
section
variable {F G : Sem' PyData} {X Y : σ → R (PyData × σ)} {x : σ → R PyData} {d : PyData} {ds : List PyData} {io : Bool} {A B : Sem' Op} {o o1 o2 : PyData → Op}
theorem eso_val (h : Es F E X) : Eso (oVal F) E X .val := fun s => by
  unfold oVal; rw [h s, R.assoc]; rfl
theorem eso_ev (h : ∀ s, Eo A (E s) (x s) (E s) o) : Eso A E (fun s => x s >>= fun v => .ok (v, s)) o := fun s => by rw [show A (E s) = _ from h s, R.assoc]; rfl
theorem eso_dat (h : ∀ s, (E s)[i]? = some (.dat d)) : Eso (oAny i) E (fun s => .ok (d, s)) .val := fun s => by rw [show oAny i (E s) = _ from xo_dat (h s)]; rfl
theorem rss_val : Rss X .val E := fun s s' v s1 _ => rfl
theorem rss_own (h : ∀ s, (E s)[i]? = some (.own io ds)) : Rss (fun s => R.ok (PyData.list ds) >>= fun v => R.ok (v, s)) (fun _ => .own i) E := fun s s' v s1 e => by cases e; exact res_own (h s')
theorem es_d2 {op : PyData → PyData → R α} (nx : NX2 op) (hF : Eso A E X o1) (hG : Eso B E Y o2) (r1 : Rss X o1 E) (r2 : Rss Y o2 E) : Es (d2 op A B) E fun s => X s >>= fun p => Y p.2 >>= fun q => op p.1 q.1 >>= fun z => .ok (z, q.2) := fun s => by
  unfold d2
  dsimp only
  rw [hF s]
  cases hx : X s with
  | exc n => rfl
  | bad => rfl
  | ok p =>
    simp only [R.bind_ok]
    rw [hG p.2]
    cases hy : Y p.2 with
    | exc n => rfl
    | bad => rfl
    | ok q =>
      simp only [R.bind_ok]
      rw [r1 s q.2 p.1 p.2 hx, r2 p.2 q.2 q.1 q.2 hy]
      simp only [lift_ok, R.bind_ok]
      rw [nx, R.assoc]
      rfl
theorem es_d1 {op : PyData → R α} (nx : NX1 op) (hF : Eso A E X o1) (r1 : Rss X o1 E) : Es (d1 op A) E fun s => X s >>= fun p => op p.1 >>= fun z => .ok (z, p.2) := fun s => by
  unfold d1
  dsimp only
  rw [hF s]
  cases hx : X s with
  | exc n => rfl
  | bad => rfl
  | ok p =>
    simp only [R.bind_ok]
    rw [r1 s p.2 p.1 p.2 hx]
    simp only [lift_ok, R.bind_ok]
    rw [nx, R.assoc]
    rfl
/-! arguments -/
abbrev MS (σ : Type) := σ → (β : Type) → (List PyData → σ → R β) → R β
structure Eas (F : Sem' (List Op)) (E : σ → En) (m : MS σ) (os : List PyData → List Op) (fx : List PyData → List PyData) : Prop where
  run : ∀ (s : σ) (β : Type) (k : List Op → En → R β), (F (E s) >>= fun p => k p.1 p.2) = m s β fun vs s' => k (os vs) (E s')
  nat : ∀ (s : σ) (β γ : Type) (k : List PyData → σ → R β) (f : β → R γ), (m s β k >>= f) = m s γ fun vs s' => k vs s' >>= f
  res : ∀ s vs, resAll (E s) (os vs) = .ok (fx vs)
structure Ews (F : Sem' (List Op)) (E : σ → En) (m : MS σ) (os : List PyData → List Op) (fx : List PyData → List PyData) (n : Nat) : Prop extends Eas F E m os fx where
  vl : ∀ vs, vals (os vs) = .ok (fx vs)
  ar : ∀ (e : En) vs, argsOf e (os vs) = .ok ((fx vs).map .dat)
  ow : ∀ vs k, ownsOf (os vs) k = []
  ix : ∀ vs, ownIx (os vs) = []
  len : ∀ vs, (fx vs).length = n
variable {AA BB : Sem' (List Op)} {m : MS σ} {os : List PyData → List Op} {fx : List PyData → List PyData} {n : Nat}
theorem ews_nil : Ews aNil E (fun s _ k => k [] s) (fun _ => []) (fun _ => []) 0 := ⟨⟨fun _ _ _ => rfl, fun _ _ _ _ _ => rfl, fun _ _ => rfl⟩, fun _ => rfl, fun _ _ => rfl, fun _ _ => rfl, fun _ => rfl, fun _ => rfl⟩
theorem eas_nil : Eas aNil E (fun s _ k => k [] s) (fun _ => []) (fun _ => []) := ews_nil.toEas
theorem eas_cons0 (hF : Eso A E X .val) (h : Eas BB E m os fx) : Eas (aCons A BB) E (fun s β k => X s >>= fun p => m p.2 β fun bs s' => k (p.1 :: bs) s') (fun vs => .val (vs.headD .none) :: os vs.tail) (fun vs => vs.headD .none :: fx vs.tail) where
  run := fun s β k => by
    show ((A (E s) >>= fun p => BB p.2 >>= fun q => R.ok (p.1 :: q.1, q.2)) >>= fun p => k p.1 p.2) = _
    rw [hF s, R.assoc, R.assoc]
    refine R.congr fun a => ?_
    show ((BB (E a.2) >>= fun q => R.ok (Op.val a.1 :: q.1, q.2)) >>= fun p => k p.1 p.2) = _
    rw [R.assoc]
    exact h.run a.2 β fun q e => k (.val a.1 :: q) e
  nat := fun s β γ k f => by rw [R.assoc]; exact R.congr fun a => h.nat _ β γ _ f
  res := fun s vs => by
    show (lift (Op.res (E s) (.val _)) >>= fun d => resAll (E s) (os vs.tail) >>= fun ds => R.ok (d :: ds)) = _
    rw [h.res]
    rfl
theorem ews_cons0 (hF : Eso A E X .val) (h : Ews BB E m os fx n) : Ews (aCons A BB) E (fun s β k => X s >>= fun p => m p.2 β fun bs s' => k (p.1 :: bs) s') (fun vs => .val (vs.headD .none) :: os vs.tail) (fun vs => vs.headD .none :: fx vs.tail) (n + 1) where
  toEas := eas_cons0 hF h.toEas
  vl := fun vs => by show (vals (os vs.tail) >>= fun ds => R.ok (_ :: ds)) = _; rw [h.vl]; rfl
  ar := fun e vs => by show (lift (argOf e (.val _)) >>= fun a => argsOf e (os vs.tail) >>= fun as => R.ok (a :: as)) = _; rw [h.ar]; rfl
  ow := fun vs k => h.ow vs.tail (k + 1)
  ix := fun vs => h.ix vs.tail
  len := fun vs => by show (fx vs.tail).length + 1 = _; rw [h.len]
theorem eas_st (hF : Es F E X) (h : Eas BB E m os fx) : Eas (aCons (oVal F) BB) E (fun s β k => X s >>= fun p => m p.2 β fun bs s' => k (p.1 :: bs) s') (fun vs => .val (vs.headD .none) :: os vs.tail) (fun vs => vs.headD .none :: fx vs.tail) := eas_cons0 (eso_val hF) h
theorem ews_st (hF : Es F E X) (h : Ews BB E m os fx n) : Ews (aCons (oVal F) BB) E (fun s β k => X s >>= fun p => m p.2 β fun bs s' => k (p.1 :: bs) s') (fun vs => .val (vs.headD .none) :: os vs.tail) (fun vs => vs.headD .none :: fx vs.tail) (n + 1) := ews_cons0 (eso_val hF) h
theorem ews_dat (hi : ∀ s, (E s)[i]? = some (.dat d)) (h : Ews BB E m os fx n) : Ews (aCons (oAny i) BB) E (fun s β k => m s β fun bs s' => k (d :: bs) s') (fun vs => .val (vs.headD .none) :: os vs.tail) (fun vs => vs.headD .none :: fx vs.tail) (n + 1) := ews_cons0 (eso_dat hi) h
theorem eas_dat (hi : ∀ s, (E s)[i]? = some (.dat d)) (h : Eas BB E m os fx) : Eas (aCons (oAny i) BB) E (fun s β k => m s β fun bs s' => k (d :: bs) s') (fun vs => .val (vs.headD .none) :: os vs.tail) (fun vs => vs.headD .none :: fx vs.tail) := eas_cons0 (eso_dat hi) h
theorem es_dA {op : List PyData → R α} (nx : NXA op) (h : Eas AA E m os fx) : Es (dA op AA) E fun s => m s (α × σ) fun vs s' => op (fx vs) >>= fun z => .ok (z, s') := fun s => by
  unfold dA
  rw [h.nat, h.run s _ fun p e => lift (resAll e p) >>= fun ds => lift (op ds) >>= fun z => R.ok (z, e)]
  congr 1
  funext vs s'
  rw [h.res]
  show (lift (op (fx vs)) >>= _) = _
  rw [nx, R.assoc]
  rfl
theorem es_tup (h : Ews AA E m os fx n) (hn : n ≤ 100000) : Es (dTup AA) E fun s => m s (PyData × σ) fun vs s' => .ok (.tuple (fx vs), s') := fun s => by
  unfold dTup
  rw [h.nat, h.run s (PyData × En) fun p e => lift (vals p) >>= fun ds => few ds.length (R.ok (.tuple ds, e))]
  congr 1
  funext vs s'
  rw [h.vl]
  show few (fx vs).length _ = _
  rw [h.len]
  unfold few
  rw [if_pos hn]
  rfl
theorem es_lst (h : Ews AA E m os fx n) (hn : n ≤ 100000) : Es (dLst AA) E fun s => m s (List PyData × σ) fun vs s' => .ok (fx vs, s') := fun s => by
  unfold dLst
  rw [h.nat, h.run s (List PyData × En) fun p e => lift (vals p) >>= fun ds => few ds.length (R.ok (ds, e))]
  congr 1
  funext vs s'
  rw [h.vl]
  show few (fx vs).length _ = _
  rw [h.len]
  unfold few
  rw [if_pos hn]
  rfl
theorem es_frz {N : Sem' (List PyData)} {X : σ → R (List PyData × σ)} (h : Es N E X) : Es (dFrz N) E fun s => X s >>= fun p => .ok (.list p.1, p.2) := fun s => by
  unfold dFrz; rw [h s, R.assoc, R.assoc]; rfl
/-! calls -/
def Ers (V : Sem' Rv) (E : σ → En) (X : σ → R (α × σ)) (rv : α → Rv) : Prop := ∀ s, V (E s) = X s >>= fun p => .ok (rv p.1, E p.2)
theorem ers_rvD (h : Es F E X) : Ers (rvD F) E X .dat := fun s => by unfold rvD; rw [h s, R.assoc]; rfl
theorem ers_rvW {N : Sem' (List PyData)} {X : σ → R (List PyData × σ)} (h : Es N E X) : Ers (rvW N) E X .new := fun s => by unfold rvW; rw [h s, R.assoc]; rfl
theorem ers_er {V : Sem' Rv} {x : σ → R α} {rv : α → Rv} (h : ∀ s, Er V (E s) (x s) (E s) rv) : Ers V E (fun s => x s >>= fun v => .ok (v, s)) rv := fun s => by rw [show V (E s) = _ from h s, R.assoc]; rfl
theorem es_rvE {V : Sem' Rv} (h : Ers V E X .dat) : Es (rvE V) E X := fun s => by unfold rvE; rw [h s, R.assoc]; rfl
theorem es_rvEn {V : Sem' Rv} {X : σ → R (List PyData × σ)} (h : Ers V E X .new) : Es (rvE V) E fun s => X s >>= fun p => .ok (.list p.1, p.2) := fun s => by unfold rvE; rw [h s, R.assoc, R.assoc]; rfl
theorem es_rvN {V : Sem' Rv} {X : σ → R (List PyData × σ)} (h : Ers V E X .new) : Es (rvN V) E X := fun s => by unfold rvN; rw [h s, R.assoc]; rfl
theorem ers_call {f : Fn} {g : List PyData → R α} {rv : α → Rv} (hf : Cl n f g rv) (h : Ews AA E m os fx n) : Ers (dCall n f AA) E (fun s => m s (α × σ) fun vs s' => g (fx vs) >>= fun r => .ok (r, s')) rv := fun s => by
  unfold dCall
  rw [h.nat, h.run s _ fun p e => lift (argsOf e p) >>= fun as => if as.length = n ∧ (ownsOf p 0).length ≤ 1 then f as >>= fun q => lift (callEn e p q.2) >>= fun e => R.ok (q.1, e) else .bad]
  congr 1
  funext vs s'
  rw [h.ar, h.ow]
  simp only [lift_ok, R.bind_ok, List.length_map, h.len, List.length_nil, Nat.zero_le, and_self, if_true]
  rw [hf _ (h.len vs), R.assoc, R.assoc]
  refine R.congr fun r => ?_
  unfold callEn
  simp only [R.bind_ok, h.ow, lift_ok]
/-- what a def comes to whose first parameter is a list that it changes -/
def ClH (n : Nat) (f : Fn) (g : List PyData → List PyData → R (α × List PyData)) (rv : α → Rv) : Prop := ∀ (h l : List PyData), l.length = n → f (.own true h :: l.map .dat) = g h l >>= fun p => .ok (rv p.1, .own true p.2 :: l.map .dat)
theorem clh0 {f : Fn} {P : List PyData → R (α × List PyData)} {rv : α → Rv} (h : ∀ z, f [.own true z] = P z >>= fun p => .ok (rv p.1, [.own true p.2])) : ClH 0 f (fun z _ => P z) rv := fun z l hl => by
  match l, hl with
  | [], _ => exact h z
theorem clh1 {f : Fn} {P : List PyData → PyData → R (α × List PyData)} {rv : α → Rv} (h : ∀ z a, f [.own true z, .dat a] = P z a >>= fun p => .ok (rv p.1, [.own true p.2, .dat a])) : ClH 1 f (fun z l => P z (gd l 0)) rv := fun z l hl => by
  match l, hl with
  | [a], _ => exact h z a
theorem clh2 {f : Fn} {P : List PyData → PyData → PyData → R (α × List PyData)} {rv : α → Rv} (h : ∀ z a b, f [.own true z, .dat a, .dat b] = P z a b >>= fun p => .ok (rv p.1, [.own true p.2, .dat a, .dat b])) : ClH 2 f (fun z l => P z (gd l 0) (gd l 1)) rv := fun z l hl => by
  match l, hl with
  | [a, b], _ => exact h z a b
theorem clh3 {f : Fn} {P : List PyData → PyData → PyData → PyData → R (α × List PyData)} {rv : α → Rv} (h : ∀ z a b c, f [.own true z, .dat a, .dat b, .dat c] = P z a b c >>= fun p => .ok (rv p.1, [.own true p.2, .dat a, .dat b, .dat c])) : ClH 3 f (fun z l => P z (gd l 0) (gd l 1) (gd l 2)) rv := fun z l hl => by
  match l, hl with
  | [a, b, c], _ => exact h z a b c
theorem clh4 {f : Fn} {P : List PyData → PyData → PyData → PyData → PyData → R (α × List PyData)} {rv : α → Rv} (h : ∀ z a b c d, f [.own true z, .dat a, .dat b, .dat c, .dat d] = P z a b c d >>= fun p => .ok (rv p.1, [.own true p.2, .dat a, .dat b, .dat c, .dat d])) : ClH 4 f (fun z l => P z (gd l 0) (gd l 1) (gd l 2) (gd l 3)) rv := fun z l hl => by
  match l, hl with
  | [a, b, c, d], _ => exact h z a b c d
theorem ers_callH {f : Fn} {g : List PyData → List PyData → R (α × List PyData)} {rv : α → Rv} (gh : σ → List PyData) (up : σ → List PyData → σ) (hf : ClH n f g rv) (hi : ∀ s, (E s)[i]? = some (.own io (gh s))) (hu : ∀ s z, (E s).set i (.own io z) = E (up s z)) (h : Ews AA E m os fx n) :
    Ers (dCall (n + 1) f (aCons (oVar i) AA)) E (fun s => m s (α × σ) fun vs s' => g (gh s') (fx vs) >>= fun p => .ok (p.1, up s' p.2)) rv := fun s => by
  unfold dCall
  have e1 : oVar i (E s) = .ok (.own i, E s) := by unfold oVar; rw [hi]
  have e0 : ∀ (γ : Type) (k : List Op → En → R γ), (aCons (oVar i) AA (E s) >>= fun p => k p.1 p.2) = m s γ fun vs s' => k (.own i :: os vs) (E s') := fun γ k => by
    show ((oVar i (E s) >>= fun p => AA p.2 >>= fun q => R.ok (p.1 :: q.1, q.2)) >>= fun p => k p.1 p.2) = _
    rw [e1]
    show ((AA (E s) >>= fun q => R.ok (Op.own i :: q.1, q.2)) >>= fun p => k p.1 p.2) = _
    rw [R.assoc]
    exact h.run s γ fun q e => k (.own i :: q) e
  rw [h.nat, e0 _ fun p e => lift (argsOf e p) >>= fun as => if as.length = n + 1 ∧ (ownsOf p 0).length ≤ 1 then f as >>= fun q => lift (callEn e p q.2) >>= fun e => R.ok (q.1, e) else .bad]
  congr 1
  funext vs s'
  have e2 : argsOf (E s') (.own i :: os vs) = .ok (.own true (gh s') :: (fx vs).map .dat) := by
    have ea : argOf (E s') (.own i) = .ok (.own true (gh s')) := by
      have : argOf (E s') (.own i) = (match (E s')[i]? with
        | some (.own _ ds) => R.ok (Sl.own true ds)
        | _ => .bad) := rfl
      rw [this, hi]
    show (lift (argOf (E s') (.own i)) >>= fun a => argsOf (E s') (os vs) >>= fun as => R.ok (a :: as)) = _
    rw [ea, h.ar]
    rfl
  have e3 : ownsOf (.own i :: os vs) 0 = [(0, i)] := by
    show (0, i) :: ownsOf (os vs) 1 = _
    rw [h.ow]
  rw [e2, e3]
  simp only [lift_ok, R.bind_ok, List.length_cons, List.length_map, h.len, List.length_nil, Nat.le_refl, and_self, if_true, Nat.zero_add]
  rw [hf _ _ (h.len vs), R.assoc, R.assoc]
  refine R.congr fun r => ?_
  unfold callEn
  simp only [R.bind_ok, e3, hi, List.getElem?_cons_zero, hu, lift_ok]
theorem ers_callH1 {E : List PyData → En} {m : MS (List PyData)} {f : Fn} {g : List PyData → List PyData → R (α × List PyData)} {rv : α → Rv} (hf : ClH n f g rv) (hi : ∀ s, (E s)[i]? = some (.own io s)) (hu : ∀ s z, (E s).set i (.own io z) = E z) (h : Ews AA E m os fx n) :
    Ers (dCall (n + 1) f (aCons (oVar i) AA)) E (fun s => m s (α × List PyData) fun vs s' => g s' (fx vs)) rv := fun s => by
  have := ers_callH (gh := fun s => s) (up := fun _ z => z) hf hi hu h s
  rw [this]
  dsimp only
  have e : (fun (vs : List PyData) (s' : List PyData) => g s' (fx vs) >>= fun p => R.ok (p.1, p.2)) = fun vs s' => g s' (fx vs) := by
    funext vs s'
    exact R.right _
  rw [e]
theorem er_unit {V : Sem' Rv} {e e' : En} {x : R Unit} (h : Er V e x e' fun _ => .dat .none) : Er V e (x >>= fun _ => .ok .none) e' .dat := by
  unfold Er
  rw [show V e = _ from h, R.assoc]
  rfl
theorem ers_unit {V : Sem' Rv} {X : σ → R (Unit × σ)} (h : Ers V E X fun _ => .dat .none) : Ers V E (fun s => X s >>= fun p => .ok (.none, p.2)) .dat := fun s => by
  rw [h s, R.assoc]
  rfl
/-! tests -/
theorem es_dB (h : Es F E X) : Es (dB F) E fun s => X s >>= fun p => asB p.1 >>= fun b => .ok (b, p.2) := fun s => by
  unfold dB; rw [h s, R.assoc, R.assoc]
  refine R.congr fun p => ?_
  obtain ⟨d, s'⟩ := p
  cases d <;> rfl
variable {T U : Sem' Bool} {t u : σ → R (Bool × σ)}
theorem es_not (h : Es T E t) : Es (dNot T) E fun s => t s >>= fun p => .ok (!p.1, p.2) := fun s => by unfold dNot; rw [h s, R.assoc, R.assoc]; rfl
theorem es_and (h : Es T E t) (g : Es U E u) : Es (dAnd T U) E fun s => t s >>= fun p => if p.1 = true then u p.2 else .ok (false, p.2) := fun s => by
  unfold dAnd; rw [h s, R.assoc, R.assoc]
  refine R.congr fun p => ?_
  obtain ⟨b, s'⟩ := p
  cases b
  · rfl
  · exact g s'
theorem es_or (h : Es T E t) (g : Es U E u) : Es (dOr T U) E fun s => t s >>= fun p => if p.1 = true then .ok (true, p.2) else u p.2 := fun s => by
  unfold dOr; rw [h s, R.assoc, R.assoc]
  refine R.congr fun p => ?_
  obtain ⟨b, s'⟩ := p
  cases b
  · exact g s'
  · rfl
theorem es_if {F G : Sem' α} {X Y : σ → R (α × σ)} (h : Es T E t) (hF : Es F E X) (hG : Es G E Y) : Es (dIf T F G) E fun s => t s >>= fun p => if p.1 = true then X p.2 else Y p.2 := fun s => by
  unfold dIf; rw [h s, R.assoc, R.assoc]
  refine R.congr fun p => ?_
  obtain ⟨b, s'⟩ := p
  cases b
  · exact hG s'
  · exact hF s'
theorem es_notV (h : Es F E X) : Es (dNotV F) E fun s => X s >>= fun p => asB p.1 >>= fun b => .ok (.bool (!b), p.2) := fun s => by
  unfold dNotV; rw [h s, R.assoc, R.assoc]
  refine R.congr fun p => ?_
  obtain ⟨d, s'⟩ := p
  cases d <;> rfl
theorem es_andV (h : Es F E X) (g : Es G E Y) : Es (dAndV F G) E fun s => X s >>= fun p => asB p.1 >>= fun b => if b = true then Y p.2 else .ok (.bool false, p.2) := fun s => by
  unfold dAndV; rw [h s, R.assoc, R.assoc]
  refine R.congr fun p => ?_
  obtain ⟨d, s'⟩ := p
  cases d <;> first | rfl | skip
  rename_i b
  cases b
  · rfl
  · exact g s'
theorem es_orV (h : Es F E X) (g : Es G E Y) : Es (dOrV F G) E fun s => X s >>= fun p => asB p.1 >>= fun b => if b = true then .ok (.bool true, p.2) else Y p.2 := fun s => by
  unfold dOrV; rw [h s, R.assoc, R.assoc]
  refine R.congr fun p => ?_
  obtain ⟨d, s'⟩ := p
  cases d <;> first | rfl | skip
  rename_i b
  cases b
  · exact g s'
  · rfl
/-! pop -/
def popP (ds : List PyData) (k : PyData) : R (PyData × List PyData) := match k with
  | .int k => if -(2 ^ 62) ≤ k ∧ k < 2 ^ 62 then R.get (ixN ds.length k) >>= fun j => R.get ds[j]? >>= fun x => .ok (x, ds.eraseIdx j) else .bad
  | _ => .bad
theorem es_pop {q : Nat} (gh : σ → List PyData) (up : σ → List PyData → σ) (hi : ∀ s, (E s)[q]? = some (.own io (gh s))) (hu : ∀ s z, (E s).set q (.own io z) = E (up s z)) (h : Es F E X) : Es (dPop q F) E fun s => X s >>= fun p => popP (gh p.2) p.1 >>= fun r => .ok (r.1, up p.2 r.2) := fun s => by
  unfold dPop dPopAt
  rw [ownAt_is (hi s)]
  simp only [R.bind_ok]
  rw [h s, R.assoc, R.assoc]
  refine R.congr fun p => ?_
  simp only [R.bind_ok]
  rw [ownAt_is (hi p.2)]
  simp only [R.bind_ok]
  unfold popP
  obtain ⟨d, s'⟩ := p
  cases d with
  | int k =>
    simp only []
    split
    · simp only [R.assoc, R.bind_ok, hu]
    · rfl
  | _ => rfl
/-! sources, comprehensions -/
def Eis (it : Sem' Its') (E : σ → En) (X : σ → R (List PyData × σ)) : Prop := ∀ s, it (E s) = X s >>= fun p => .ok ((p.1, []), E p.2)
theorem eis_itA {f : List PyData → R (List PyData)} (nx : NXA f) (h : Ews AA E m os fx n) : Eis (itA f AA) E fun s => m s _ fun vs s' => f (fx vs) >>= fun z => .ok (z, s') := fun s => by
  unfold itA
  rw [h.nat, h.run s _ fun p e => lift (resAll e p) >>= fun ds => lift (f ds) >>= fun z => R.ok ((z, ownIx p), e)]
  congr 1
  funext vs s'
  rw [h.res, h.ix]
  show (lift (f (fx vs)) >>= _) = _
  rw [nx, R.assoc]
  rfl
theorem eis_seq (h : Ews (aCons A aNil) E m os fx n) : Eis (itA seq1 (it1 A)) E fun s => m s _ fun vs s' => seq1 (fx vs) >>= fun z => .ok (z, s') := by rw [it1_eq]; exact eis_itA nx_seq1 h
theorem eis_ei {it : Sem' Its'} {x : σ → R (List PyData)} (h : ∀ s, Ei it (E s) (x s) (E s) []) : Eis it E fun s => x s >>= fun v => .ok (v, s) := fun s => by rw [show it (E s) = _ from h s, R.assoc]; rfl
def lcSP (f : PyData → σ → R (Option PyData × σ)) : List PyData → σ → R (List PyData × σ)
  | [], s => .ok ([], s)
  | x :: xs, s => lift (f x s) >>= fun o => lcSP f xs o.2 >>= fun r => .ok (match o.1 with
    | some y => (y :: r.1, r.2)
    | none => r)
/-- a comprehension whose items change a state -/
def lcS (f : PyData → σ → R (Option PyData × σ)) (xs : List PyData) (s : σ) : R (List PyData × σ) := if xs.length ≤ 100000 then lcSP f xs s else .bad
variable {it : Sem' Its'} {vs : List Nat} {tg : PyData → En → R En} {tst : Sem' Bool} {elt : Sem' PyData}
theorem lcLoopS_eq (f : PyData → σ → R (Option PyData × σ)) (h : ∀ x s, (lift (tg x (W s)) >>= fun e1 => lift (tst e1) >>= fun p => if p.1 = true then lift (elt p.2) >>= fun q => R.ok (some q.1, wipeE q.2 vs) else R.ok (none, wipeE p.2 vs)) = lift (f x s) >>= fun o => R.ok (o.1, W o.2)) (w0 : En) : ∀ (xs : List PyData) (s : σ),
    lcLoop [] w0 vs tg tst elt xs (W s) = lcSP f xs s >>= fun r => R.ok (r.1, W r.2)
  | [], s => by unfold lcLoop; rw [keepW_nil]; rfl
  | x :: xs, s => by
    unfold lcLoop lcSP
    rw [keepW_nil, R.assoc]
    have e : (lift (tg x (W s)) >>= fun e1 => lift (tst e1) >>= fun p => if p.1 = true then lift (elt p.2) >>= fun q => lcLoop [] w0 vs tg tst elt xs (wipeE q.2 vs) >>= fun r => R.ok (q.1 :: r.1, r.2) else lcLoop [] w0 vs tg tst elt xs (wipeE p.2 vs)) =
        (lift (tg x (W s)) >>= fun e1 => lift (tst e1) >>= fun p => if p.1 = true then lift (elt p.2) >>= fun q => R.ok (some q.1, wipeE q.2 vs) else R.ok (none, wipeE p.2 vs)) >>= fun (o : Option PyData × En) => lcLoop [] w0 vs tg tst elt xs o.2 >>= fun r => R.ok (match o.1 with
          | some y => (y :: r.1, r.2)
          | none => (r.1, r.2)) := by
      rw [R.assoc]
      refine R.congr fun e1 => ?_
      rw [R.assoc]
      refine R.congr fun p => ?_
      cases p.1 with
      | true =>
        simp only [if_true]
        rw [R.assoc]
        rfl
      | false =>
        simp only [Bool.false_eq_true, if_false]
        exact (R.right _).symm
    rw [e, h x s, R.assoc]
    refine R.congr fun o => ?_
    show (lcLoop [] w0 vs tg tst elt xs (W o.2) >>= _) = _
    rw [lcLoopS_eq f h w0 xs o.2, R.assoc, R.assoc]
    refine R.congr fun r => ?_
    obtain ⟨o, s'⟩ := o
    cases o <;> rfl
def LcT (tg : PyData → En → R En) (tst : Sem' Bool) (elt : Sem' PyData) (vs : List Nat) (W : σ → En) (x : PyData) (s : σ) (f : R (Option PyData × σ)) : Prop := (lift (tg x (W s)) >>= fun e1 => lift (tst e1) >>= fun p => if p.1 = true then lift (elt p.2) >>= fun q => R.ok (some q.1, wipeE q.2 vs) else R.ok (none, wipeE p.2 vs)) = lift f >>= fun o => R.ok (o.1, W o.2)
theorem es_lc {X : σ → R (List PyData × σ)} (f : PyData → σ → R (Option PyData × σ)) (hi : Eis it E X) (hfr : ∀ s, freeOf (E s) vs = true) (hw : ∀ s, wipeE (E s) vs = W s) (hr : ∀ s s', restE (E s) (W s') vs = E s')
    (h : ∀ x s, LcT tg tst elt vs W x s (f x s)) :
    Es (dLc it vs tg tst elt) E fun s => X s >>= fun p => lcS f p.1 p.2 := fun s => by
  unfold dLc
  rw [hi s, R.assoc, R.assoc]
  refine R.congr fun p => ?_
  simp only [R.bind_ok, hfr, List.all_nil, and_true, true_and, hw]
  unfold lcS
  by_cases hl : p.1.length ≤ 100000
  · simp only [hl, if_true]
    rw [lcLoopS_eq f h, R.assoc]
    refine R.congr fun r => ?_
    simp only [R.bind_ok, hr]
  · simp only [hl, if_false]
    rfl
theorem lcs_step {x : PyData} {s : σ} {τ : Type} {m : (β : Type) → (τ → R β) → R β} {E' : τ → σ → En} {t : τ → σ → R (Bool × σ)} {y : τ → σ → R (PyData × σ)} (g : Eg tg x (W s) τ m fun v => E' v s) (ht : ∀ v, Es tst (E' v) (t v)) (hy : ∀ v, Es elt (E' v) (y v)) (hw : ∀ v s, wipeE (E' v s) vs = W s) :
    LcT tg tst elt vs W x s (m (Option PyData × σ) fun v => t v s >>= fun p => if p.1 = true then y v p.2 >>= fun z => .ok (some z.1, z.2) else .ok (none, p.2)) := by
  unfold LcT
  obtain ⟨z, h1, h2⟩ := g.obs fun _ => .bad
  have h1 : lift (tg x (W s)) = lift z >>= fun v => R.ok (E' v s) := by
    have : lift (tg x (W s)) = lift (lift (tg x (W s))) := (lift_lift _).symm
    rw [this, h1, lift_bind]
    rfl
  rw [h1, h2, lift_bind, R.assoc, R.assoc]
  refine R.congr fun v => ?_
  show (lift (tst (E' v s)) >>= _) = _
  rw [ht v s, lift_bind, lift_bind, R.assoc, R.assoc]
  refine R.congr fun b => ?_
  obtain ⟨b, s1⟩ := b
  cases b with
  | true =>
    show (lift (elt (E' v s1)) >>= _) = (lift (y v s1 >>= fun z => R.ok (some z.1, z.2)) >>= _)
    rw [hy v s1, lift_bind, lift_bind, R.assoc, R.assoc]
    refine R.congr fun z => ?_
    show R.ok (some z.1, wipeE (E' v z.2) vs) = _
    rw [hw]
    rfl
  | false =>
    show R.ok (none, wipeE (E' v s1) vs) = _
    rw [hw]
    rfl
theorem lcs_step1 {x : PyData} {s : σ} {τ : Type} {m : (β : Type) → (τ → R β) → R β} {E' : τ → σ → En} {y : τ → σ → R (PyData × σ)} (g : Eg tg x (W s) τ m fun v => E' v s) (hy : ∀ v, Es elt (E' v) (y v)) (hw : ∀ v s, wipeE (E' v s) vs = W s) :
    LcT tg dYes elt vs W x s (m (Option PyData × σ) fun v => y v s >>= fun z => .ok (some z.1, z.2)) :=
  lcs_step (t := fun _ s => .ok (true, s)) g (fun v s => rfl) hy hw
/-! statements -/
variable {S S1 S2 : SemS} {κ : γ → RS} {s : σ}
theorem js_ifS {mA mB : σ → R γ} (ht : Es T E t) (h1 : ∀ s, Js S1 (E s) (mA s) κ) (h2 : ∀ s, Js S2 (E s) (mB s) κ) : Js (sIf T S1 S2) (E s) (t s >>= fun p => if p.1 = true then mA p.2 else mB p.2) κ := by
  unfold Js sIf
  rw [ht s, ofR_bind, nrm_ofR, ofR_bind]
  refine ofR_congr fun p => ?_
  obtain ⟨b, s'⟩ := p
  cases b
  · exact h2 s'
  · exact h1 s'
theorem js_ifxS {mA mT : σ → R γ} (nA : Nn S1) (ht : Es T E t) (h1 : ∀ s, Js S1 (E s) (mA s) κ) (h2 : ∀ s, Js S (E s) (mT s) κ) : Js (sSeq (sIf T S1 sNext) S) (E s) (t s >>= fun p => if p.1 = true then mA p.2 else mT p.2) κ := by
  unfold Js sSeq sIf
  rw [ht s]
  cases t s <;> first | rfl | skip
  rename_i p
  obtain ⟨b, s'⟩ := p
  cases b
  · exact h2 s'
  · show nrm (sThen (S1 (E s')) S) = _
    rw [then_nn nA]
    exact h1 s'
theorem jl_retS (h : Es F E X) : Js (sRet F) (E s) (X s) fun p => .ret (.dat p.1) (ioE (E p.2)) := by
  unfold Js sRet
  rw [h s, ofR_bind, nrm_ofR]
  rfl
theorem jl_retLS {N : Sem' (List PyData)} {X : σ → R (List PyData × σ)} (h : Es N E X) : Js (sRetL N) (E s) (X s) fun p => .ret (.new p.1) (ioE (E p.2)) := by
  unfold Js sRetL
  rw [h s, ofR_bind, nrm_ofR]
  rfl
theorem jl_retVS {V : Sem' Rv} {X : σ → R (α × σ)} {rv : α → Rv} (h : Ers V E X rv) : Js (sRetV V) (E s) (X s) fun p => .ret (rv p.1) (ioE (E p.2)) := by
  unfold Js sRetV
  rw [h s, ofR_bind, nrm_ofR]
  rfl
theorem jl_asgS (h : Es F E X) (hi : ∀ s, ioAt (E s) i = false) : Js (sAsg F (tgN i)) (E s) (X s) fun p => .next ((E p.2).set i (.dat p.1)) := by
  unfold Js sAsg
  rw [h s, ofR_bind, nrm_ofR]
  refine ofR_congr fun v => ?_
  unfold tgN
  simp only [ofR_ok, hi, Bool.false_eq_true, if_false, lift_ok]
  rfl
theorem jl_asgTS {g : PyData → En → R En} {m : PyData → (β : Type) → (τ → R β) → R β} {E2 : τ → σ → En} (h : Es F E X) (hg : ∀ d s, Eg g d (E s) τ (m d) fun v => E2 v s) : Js (sAsg F g) (E s) (X s >>= fun p => m p.1 (τ × σ) fun v => .ok (v, p.2)) fun q => .next (E2 q.1 q.2) := by
  unfold Js sAsg
  rw [h s, ofR_bind, nrm_ofR, ofR_bind]
  refine ofR_congr fun p => ?_
  obtain ⟨z, h1, h2⟩ := (hg p.1 p.2).obs fun _ => .bad
  simp only [ofR_ok]
  rw [h1, h2, ofR_bind, nrm_ofR, ofR_bind]
  rfl
theorem jl_ownS {N : Sem' (List PyData)} {X : σ → R (List PyData × σ)} (h : Es N E X) (hi : ∀ s, ioAt (E s) i = false) : Js (sOwn N i) (E s) (X s) fun p => .next ((E p.2).set i (.own false p.1)) := by
  unfold Js sOwn
  rw [h s, ofR_bind, nrm_ofR]
  refine ofR_congr fun v => ?_
  simp only [ofR_ok, hi, Bool.false_eq_true, if_false]
  rfl
theorem jl_dropS (h : Es F E X) : Js (sDrop F) (E s) (X s) fun p => .next (E p.2) := by
  unfold Js sDrop
  rw [h s, ofR_bind, nrm_ofR]
  rfl
theorem jl_parS {V V' : Sem' Rv} {a : σ → R (α × σ)} {b : σ → R (β × σ)} {rv : α → Rv} {rw' : β → Rv} (h1 : Ers V E a rv) (h2 : Ers V' E b rw') (hi : ∀ s, ioAt (E s) i = false) (hj : ∀ s (r : Rv), ioAt ((E s).set i (slOf r)) j = false) :
    Js (sPar i j V V') (E s) (a s >>= fun p => b p.2 >>= fun q => .ok (p.1, q.1, q.2)) fun p => .next (((E p.2.2).set i (slOf (rv p.1))).set j (slOf (rw' p.2.1))) := by
  unfold Js sPar
  rw [h1 s, ofR_bind, nrm_ofR, ofR_bind]
  refine ofR_congr fun u => ?_
  simp only [ofR_ok]
  rw [h2 u.2, ofR_bind, nrm_ofR, ofR_bind]
  refine ofR_congr fun v => ?_
  unfold putE
  simp only [ofR_ok, hi, hj, Bool.false_eq_true, if_false, lift_ok]
  rfl
theorem jl_appS {q : Nat} (gh : σ → List PyData) (h : Es F E X) (hi : ∀ s, (E s)[q]? = some (.own io (gh s))) : Js (sAppend q F) (E s) (X s >>= fun p => appP (gh p.2) p.1 >>= fun l => .ok (l, p.2)) fun r => .next ((E r.2).set q (.own io r.1)) := by
  unfold Js sAppend sApp
  rw [ownAt_is (hi s)]
  simp only [ofR_ok]
  rw [h s, ofR_bind, nrm_ofR, ofR_bind]
  refine ofR_congr fun v => ?_
  simp only [ofR_ok]
  rw [ownAt_is (hi v.2)]
  simp only [ofR_ok]
  unfold appP
  split <;> rfl
theorem jl_setIxS {I : Sem' PyData} {Y : σ → R (PyData × σ)} {q : Nat} (gh : σ → List PyData) (h1 : Es F E X) (h2 : Es I E Y) (hi : ∀ s, (E s)[q]? = some (.own io (gh s))) : Js (sSetIx q I F) (E s) (X s >>= fun v => Y v.2 >>= fun k => setIxP (gh k.2) k.1 v.1 >>= fun l => .ok (l, k.2)) fun r => .next ((E r.2).set q (.own io r.1)) := by
  unfold Js sSetIx
  rw [h1 s, ofR_bind, nrm_ofR, ofR_bind]
  refine ofR_congr fun v => ?_
  simp only [ofR_ok]
  rw [ownAt_is (hi v.2)]
  simp only [ofR_ok]
  rw [h2 v.2, ofR_bind, nrm_ofR, ofR_bind]
  refine ofR_congr fun k => ?_
  simp only [ofR_ok]
  rw [ownAt_is (hi k.2)]
  unfold setIxP
  rw [ofR_bind, ofR_bind]
  simp only [ofR_ok]
  rw [nrm_ofR]
  rfl
variable {rr : ρ → RS} {g : PyData → En → R En} {L : τ → En}
theorem jl_forS {X : σ → R (List PyData × σ)} {step : PyData → τ → R τ} (s0 : σ → τ) (hs : ∀ s, E s = L (s0 s)) (hi : Eis it E X) (h : ∀ x s, Jb g S x (L s) (step x s) fun s => .next (L s)) : Js (sFor it g S) (E s) (X s >>= fun p => forP step p.1 (s0 p.2)) fun s => .next (L s) := by
  unfold Js sFor
  rw [hi s, ofR_bind, nrm_ofR, ofR_bind]
  refine ofR_congr fun p => ?_
  simp only [ofR_ok, List.isEmpty_nil, if_true, hs]
  exact forl_next h p.1 (s0 p.2)
theorem jl_forCS {X : σ → R (List PyData × σ)} {step : PyData → τ → R (Ctl τ ρ)} (s0 : σ → τ) (hs : ∀ s, E s = L (s0 s)) (hi : Eis it E X) (hx : ∀ r, ∃ v e, rr r = .ret v e) (h : ∀ x s, Jb g S x (L s) (step x s) (kCtl L rr)) : Js (sFor it g S) (E s) (X s >>= fun p => forC step p.1 (s0 p.2)) (kFin L rr) := by
  unfold Js sFor
  rw [hi s, ofR_bind, nrm_ofR, ofR_bind]
  refine ofR_congr fun p => ?_
  simp only [ofR_ok, List.isEmpty_nil, if_true, hs]
  exact forl_ctl hx h p.1 (s0 p.2)
end
end PD
end
section
/-! PX7: a lambda with one default that its body does not read. -/
namespace PD
open PySem PySem.Spec PyProof.Rows L2 LamX
section
variable {X : Cx} {pins : List (Addr × Obj)} {σ : L2.St} {H HZ : Hp} {s s1 : Shared}
/-- the lambda is made: its code object is new, or found in the table; its defaults are a new tuple -/
theorem lam_makeD {T : List (Addr × Str)} {c P : Addr} {params : Arguments} {body : Expr} {scope : Scope} {pos : Pos} {E : Value → Shared → Prop} {Q : Value → Shared → Prop} {d : Expr} {i : Int} (I : Inv X pins σ H s) (TB : TabB X.base X.mg c P) (hcode : X.env.code = .ref c)
    (hm : (P, X.env.qual ++ "<lambda>") ∈ T) (hu : ∀ p ∈ T, p.1 = P → p.2 = X.env.qual ++ "<lambda>") (hT : Tabs T H) (hdef : params.defaults = [d]) (hkw : params.kw_defaults = []) (hd : ∀ s Q, Inv X pins σ H s → (∀ t s', Inv X pins σ H s' → Q (.int i t) s') → wpAny (model X.prog X.w) X.A (eval d X.env) Q E s) (hfree : ∀ y ∈ scope.names, y.2 = .free → ∃ c, X.env.cells.lookup y.1 = some c)
    (h : ∀ (f t c' : Addr) (tk : Tok) (doc pm ctv : Value) (H1 : Hp) (s' : Shared), Inv X pins σ H1 s' → ExtN H H1 → Tabs T H1 →
      s'.heap.get? f = some (PySem.W.kdv_obj "<lambda>" (X.env.qual ++ "<lambda>") params (.expr body) scope (cloFrom X.env.cells scope.names []) (.ref t) doc pm c' ctv) → H1 f = none → f ∉ frs X.stack → s'.heap.get? t = some (PySem.W.kdv_tup [.int i tk]) → H1 t = none → t ∉ frs X.stack → H1 c' = some (CodeO c' (X.env.qual ++ "<lambda>")) → Q (.ref f) s') :
    wpAny (model X.prog X.w) X.A (eval (.Lambda params body scope pos) X.env) Q E s := by
  refine PySem.W.kdv_lam (by rw [hdef]; rfl) hkw ?_
  rw [hdef]
  refine PySem.W.kdv_all1 (hd s _ I fun tk s0 I0 => PySem.W.kdv_all0 ?_)
  rw [makeFunction_eq]
  simp only [List.zip_nil_right, List.filterMap_nil, List.isEmpty_nil, if_true, pure_bind, List.isEmpty_cons, Bool.false_eq_true, if_false]
  refine wpAny_bind (wpAny_newTextTuple ?_)
  have I1 : Inv X pins σ H { s0 with heap := s0.heap.push (PySem.W.kdv_tup [.int i tk]) } := I0.kept fun b o e => Heap.get?_push_of_some _ e
  generalize ht0 : s0.heap.objs.size = t at *
  have htup : (s0.heap.push (PySem.W.kdv_tup [.int i tk])).get? t = some (PySem.W.kdv_tup [.int i tk]) := by rw [← ht0]; exact Heap.get?_push_size _ rfl
  have hHt : H t = none := I0.hok.fresh (Nat.le_of_eq ht0)
  have htl : t < (s0.heap.push (PySem.W.kdv_tup [.int i tk])).objs.size := by rw [Heap.size_push]; omega
  have nofr0 : ∀ (s : Shared), Inv X pins σ H s → ∀ f, s.heap.objs.size ≤ f → f ∉ frs X.stack := fun s I f hf z => by
    rcases List.mem_cons.mp (I.stkSub _ z) with e | e
    · have h1 := I.lt
      rw [← e] at h1
      exact Nat.lt_irrefl _ (Nat.lt_of_lt_of_le h1 hf)
    · exact I.nofs hf e
  have htf : t ∉ frs X.stack := nofr0 s0 I0 t (Nat.le_of_eq ht0)
  clear I0
  have htup : ({ s0 with heap := s0.heap.push (PySem.W.kdv_tup [.int i tk]) } : Shared).heap.get? t = some (PySem.W.kdv_tup [.int i tk]) := htup
  have htl : t < ({ s0 with heap := s0.heap.push (PySem.W.kdv_tup [.int i tk]) } : Shared).heap.objs.size := htl
  generalize { s0 with heap := s0.heap.push (PySem.W.kdv_tup [.int i tk]) } = s2 at *
  obtain ⟨ps, hP, ht, ha⟩ := hT _ hm
  have bP : s2.heap.BuiltinsAt X.mg P := TB.bm.keeps I1.bk
  have hP' : s2.heap.get? P = some { cls := .none, data := .fields ps } := I1.hok P _ hP
  have nofr : ∀ f, s2.heap.objs.size ≤ f → f ∉ frs X.stack := nofr0 s2 I1
  cases hc : codeAmong pos ps.toList with
  | none =>
    refine PySem.W.kdv_makeTail (mg := X.mg) (c := c) (P := P) (ps := ps) (closure_ok hfree) I1.ok.glob (I1.mod.glob.keeps I1.bk) hcode (TB.code.keeps I1.bk) hP' ht hc TB.gP bP fun c' ctv doc h' tk2 hx hge hlt hrec htb => ?_
    obtain ⟨c2, oc, vs, tq, e2, hoc, hd2, hv⟩ := hrec
    cases e2
    have hsz : s2.heap.objs.size ≤ h'.objs.size := Nat.le_trans hge (Nat.le_of_lt hlt)
    have nC : H c' = none := I1.hok.fresh hge
    have I2 := inv_table (t' := tk2) (more := #[rawInt pos.line, rawInt pos.col, .ref c']) (h' := h'.push (PySem.W.kdv_obj "<lambda>" (X.env.qual ++ "<lambda>") params (.expr body) scope (cloFrom X.env.cells scope.names []) (.ref t) doc ((X.mg "__name__").getD .none) c' ctv)) I1 hP
      (fun b o hb e => Heap.get?_push_of_some _ (hx b o hb e)) (Heap.get?_push_of_some _ htb) hge ⟨oc, vs, tq, Heap.get?_push_of_some _ hoc, hd2, hv⟩
    have hE : ExtN H (upd (upd H P (.tbl (ps ++ #[rawInt pos.line, rawInt pos.col, .ref c']))) c' (CodeO c' (X.env.qual ++ "<lambda>"))) := fun b o e n => by
      rw [upd_ne (ne_of_none e nC), upd_ne (fun z => n ps (Option.some.inj (e.symm.trans (by rw [z]; exact hP))))]
      exact e
    have eL : (ps ++ #[rawInt pos.line, rawInt pos.col, .ref c']).toList = ps.toList ++ [rawInt pos.line, rawInt pos.col, .ref c'] := by simp
    have ntP : t ≠ P := fun z => by
      rw [z, hP'] at htup
      cases htup
    have ntc : t ≠ c' := Nat.ne_of_lt (Nat.lt_of_lt_of_le htl hge)
    refine h h'.objs.size t c' tk doc ((X.mg "__name__").getD .none) ctv _ _ I2 hE (fun p hp => ?_) (Heap.get?_push_size _ rfl) ?_ (nofr _ hsz) (Heap.get?_push_of_some _ (hx _ _ ntP htup)) (by rw [upd_ne ntc, upd_ne ntP]; exact hHt) htf upd_same
    · by_cases hb : p.1 = P
      · rw [hu p hp hb, hb]
        refine ⟨_, by rw [upd_ne (ne_of_none hP nC), upd_same], by rw [eL]; exact PySem.TriplesOk_snoc _ _ _ _ ht, fun p' cv hcv => ?_⟩
        rw [eL] at hcv
        rcases among_app _ ht hcv with z | z
        · obtain ⟨c0, e1, e2⟩ := ha p' cv z
          exact ⟨c0, e1, hE _ _ e2 codeO_ne⟩
        · exact ⟨c', z, upd_same⟩
      · obtain ⟨ps', a1, a2, a3⟩ := hT p hp
        refine ⟨ps', by rw [upd_ne (ne_of_none a1 nC), upd_ne hb]; exact a1, a2, fun p' cv hcv => ?_⟩
        obtain ⟨c0, e1, e2⟩ := a3 p' cv hcv
        exact ⟨c0, e1, hE _ _ e2 codeO_ne⟩
    · have n1 : h'.objs.size ≠ c' := Nat.ne_of_gt hlt
      have n2 : h'.objs.size ≠ P := Nat.ne_of_gt (Nat.lt_of_lt_of_le (Heap.lt_size hP') hsz)
      rw [upd_ne n1, upd_ne n2]
      exact I1.hok.fresh hsz
  | some cv =>
    obtain ⟨c', e, hco⟩ := ha pos cv hc
    subst e
    refine PySem.W.kdv_makeTailHit (mg := X.mg) (c := c) (P := P) (ps := ps) (closure_ok hfree) I1.ok.glob (I1.mod.glob.keeps I1.bk) hcode (TB.code.keeps I1.bk) hP' ht hc bP fun ctv doc h' tk2 hx hsz => ?_
    have I2 : Inv X pins σ H { s2 with heap := h'.push (PySem.W.kdv_obj "<lambda>" (X.env.qual ++ "<lambda>") params (.expr body) scope (cloFrom X.env.cells scope.names []) (.ref t) doc ((X.mg "__name__").getD .none) c' ctv), toks := tk2 } := I1.kept fun b o e => Heap.get?_push_of_some _ (hx b o e)
    exact h h'.objs.size t c' tk doc ((X.mg "__name__").getD .none) ctv H _ I2 (ExtN.refl H) hT (Heap.get?_push_size _ rfl) (I1.hok.fresh hsz) (nofr _ hsz) (Heap.get?_push_of_some _ (hx _ _ htup)) hHt htf hco
end
/-! ### the lambda's names -/
/-- one parameter x that the def around does not know, else captured names and globals -/
structure LamSD (sc scope : Scope) (x : Str) : Prop where
  kind : scope.kind = .function
  co : scope.isCoroutine = false
  gen : scope.isGenerator = false
  own : ∀ y ∈ scope.names, y.2 = .local → y.1 = x
  cell : ∀ y ∈ scope.names, y.2 ≠ .cell
  loc : scope.names.lookup x = some .local
  free : ∀ y ∈ scope.names, y.2 = .free → sc.names.lookup y.1 = some .cell ∨ sc.names.lookup y.1 = some .free
def lamSDB (sc scope : Scope) (x : Str) : Bool :=
  decide (scope.kind = .function) && !scope.isCoroutine && !scope.isGenerator && decide (scope.names.lookup x = some .local) && scope.names.all fun y => (!decide (y.2 = .local) || decide (y.1 = x)) && !decide (y.2 = .cell) && (!decide (y.2 = .free) || decide (sc.names.lookup y.1 = some .cell) || decide (sc.names.lookup y.1 = some .free))
theorem lamSD_by {sc scope : Scope} {x : Str} (h : lamSDB sc scope x = true) : LamSD sc scope x := by
  unfold lamSDB at h
  simp only [Bool.and_eq_true, Bool.or_eq_true, Bool.not_eq_true', decide_eq_true_eq, decide_eq_false_iff_not, List.all_eq_true] at h
  obtain ⟨⟨⟨⟨h1, h2⟩, h3⟩, h5⟩, h4⟩ := h
  refine ⟨h1, h2, h3, fun y hy e => ?_, fun y hy => (h4 y hy).1.2, h5, fun y hy e => ?_⟩
  · exact (h4 y hy).1.1.elim (fun z => absurd e z) id
  · rcases (h4 y hy).2 with (z | z) | z
    · exact absurd e z
    · exact .inl z
    · exact .inr z
theorem LamSD.has {X : Cx} {scope : Scope} {x : Str} (L : LamSD X.env.scope scope x) (ok : X.Ok) : ∀ y ∈ scope.names, y.2 = .free → ∃ c, X.env.cells.lookup y.1 = some c := fun y hy e => by
  rcases L.free y hy e with k | k
  · exact ok.has _ (.inl k)
  · exact ok.has _ (.inr k)
section
variable {X : Cx} {pins : List (Addr × Obj)} {σ : L2.St} {H HZ : Hp} {s s1 : Shared}
theorem lam_startD {A : Around} {outer : List Env} {E : XK} {scope : Scope} {x : Str} {u0 : Value} {f c' : Addr} {h₁ : Heap} {tk : Nat} (I : Inv X pins σ H s) (L : LamSD X.env.scope scope x) (hx : x ∉ X.N) (e0 : Env0 X.prog X.w X.K X.mg X.base A outer s1 HZ) (hd : A.handled = none)
    (un : Un (frs X.stack) [] H HZ s.heap s1.heap) (hns : h₁.Ns s1.heap.objs.size fun y => ([(x, u0)] : List (Str × Value)).reverse.lookup y) (kp : ∀ b o, s1.heap.get? b = some o → h₁.get? b = some o) :
    Inv (lamCx X A outer s1 HZ E scope f c') [] σ HZ { s1 with heap := h₁, toks := tk } := by
  have hfree := L.has I.ok
  have cm : ∀ {y c}, (cloFrom X.env.cells scope.names []).lookup y = some c → X.env.cells.lookup y = some c := fun {y c} e => by
    rcases cloFrom_mem (PySem.mem_of_lookup e) with hm | ⟨h1, h2⟩
    · cases hm
    · obtain ⟨c1, hc⟩ := hfree _ h1 rfl
      have hc : X.env.cells.lookup y = some c1 := hc
      have e2 : c = c1 := by
        rw [h2, hc] <;> rfl
      rw [e2]
      exact hc
  have look : ∀ {y}, scope.names.lookup y = some .free → ∃ c, (cloFrom X.env.cells scope.names []).lookup y = some c := fun {y} hl => by
    have hy : (y, NameKind.free) ∈ scope.names := PySem.mem_of_lookup hl
    exact mem_lookup (cloFrom_has (cells := X.env.cells) (acc := []) hy)
  have cellK : ∀ {c : Addr} {v : Option Value}, H c = none → s.heap.IsCell c v → h₁.IsCell c v := fun {c v} n ⟨o, ho, hd⟩ => by
    obtain ⟨sl, q⟩ := un.any ho n (by simp)
    exact ⟨_, kp _ _ q, hd⟩
  have noA : ∀ b : Addr, b ∉ (lamCx X A outer s1 HZ E scope f c').ex := fun b z => absurd (show b ∈ ([] : List Addr) from z) (by simp)
  refine ⟨⟨e0.mod, L.kind, rfl, rfl, Nat.le_refl _, fun y z c e1 e2 => I.ok.inj y z c (cm e1) (cm e2), fun y hy => ?_, fun y c z _ => ?_, fun _ => hd, Around.frames_deeper e0.frames, .inr ⟨rfl, rfl⟩, fun b z => absurd z (noA b), e0.bs, e0.bsz, fun b _ _ => noA b,
      fun b z => absurd z (noA b), e0.funs, e0.frf⟩,
    rfl, e0.bare, Un.kept kp, ⟨_, hns, fun i y v e1 e2 e3 => ?_⟩, fun y c e => ?_, e0.hok.fresh (Nat.le_refl _), fun y c e => ?_, fun q hq => absurd (show q ∈ ([] : List (Addr × Obj)) ++ [] from hq) (by simp), e0.hok.kept kp, I.len⟩
  · have hy : scope.names.lookup y = some .cell ∨ scope.names.lookup y = some .free := hy
    rcases hy with hy | hy
    · exact absurd rfl (L.cell _ (PySem.mem_of_lookup hy))
    · exact look hy
  · have z : false = true := z
    cases z
  · have e3 : Vis scope y := e3
    have e1' := e1
    rcases e3 with k | k | k
    · exfalso
      have ey : y = x := L.own _ (PySem.mem_of_lookup k) rfl
      first
        | exact hx (ey ▸ List.mem_of_getElem? e1)
        | exact hx (ey ▸ List.mem_of_getElem? e2)
    · exact absurd rfl (L.cell _ (PySem.mem_of_lookup k))
    · obtain ⟨m, hn, hl⟩ := I.loc
      have hvis : Vis X.env.scope y := (L.free _ (PySem.mem_of_lookup k) rfl).elim (fun k => .inr (.inl k)) (fun k => .inr (.inr k))
      obtain ⟨w', r, q⟩ := hl i y v e1 e2 hvis
      obtain ⟨c2, h2⟩ := look k
      refine ⟨w', r, .inr ⟨.inr k, c2, h2, ?_⟩⟩
      have c1 := cm h2
      rcases q with ⟨k', _⟩ | ⟨_, c3, e', z⟩
      · have k'' : X.env.scope.names.lookup y = some .local := k'
        rcases L.free _ (PySem.mem_of_lookup k) rfl with k2 | k2 <;> cases k''.symm.trans k2
      · rw [c1] at e'
        cases e'
        exact cellK (I.freeC y _ c1) z
  · obtain ⟨w', z⟩ := I.cell y c (cm e)
    exact ⟨w', cellK (I.freeC y c (cm e)) z⟩
  · obtain ⟨v, o, ho, hd⟩ := I.cell y c (cm e)
    exact un.free c o ho (I.freeC y c (cm e)) (by simp)
/-- x(), in the def that got the lambda -/
theorem pe_actD {CXg : CXT} {Eg : XK} {Ng : List Str} {qg : Str} {sg : Scope} {g f t c' : Addr} {cdg doc pm ctv u0 : Value} {params : Arguments} {body : Expr} {scope : Scope} {x : Str} {k i : Nat} {a : Str} {pn : List (Addr × Obj)} {xe : Value → Shared → Prop} {W : WX} {E : XK} {tb : TE} {p1 p2 : Pos}
    (I : Inv X pins σ H s) (L : LamSD X.env.scope scope x) (hxN : x ∉ X.N) (hf : s.heap.get? f = some (PySem.W.kdv_obj "<lambda>" (X.env.qual ++ "<lambda>") params (.expr body) scope (cloFrom X.env.cells scope.names []) (.ref t) doc pm c' ctv)) (hfn : H f = none) (hfr : f ∉ frs X.stack)
    (ht : s.heap.get? t = some (PySem.W.kdv_tup [u0])) (htn : H t = none) (htr : t ∉ frs X.stack)
    (hbind : ∀ (s : Shared), s.heap.get? t = some (PySem.W.kdv_tup [u0]) → BindsTo s (PySem.W.kdv_fn "<lambda>" (X.env.qual ++ "<lambda>") params (.expr body) scope (cloFrom X.env.cells scope.names []) (.ref t) doc pm (.ref c') ctv) ⟨[], []⟩ [(x, u0)])
    (tk : Takes ((cxOf CXg X.prog X.w X.K X.mg X.base Ng qg sg g cdg X.A X.stack s H Eg).tr pn xe) W) (hW : ∀ cls d σ' H', E cls d H' → W cls d σ' H') (hr : Room (k + 1) (X.A.deeper (envOfC qg sg s.heap.objs.size g cdg)))
    (hbody : ∀ (A : Around) (outer : List Env) (s : Shared) (H : Hp), Room k (A.deeper (lamEnv X scope s.heap.objs.size f c')) → PE (lamCx X A outer s H E scope f c') body tb)
    (hN : Ng[i]? = some a) (hv : Vis sg a) (hd : (a == ("__debug__" : Str)) = false := by decide) (hcd : (a == ("__classdict__" : Str)) = false := by decide) :
    PE ((cxOf CXg X.prog X.w X.K X.mg X.base Ng qg sg g cdg X.A X.stack s H Eg).tr pn xe) (.Call (.Name a p1) [] [] p2)
      (fun σZ HZ Q => σZ[i]? = some (some (.ref f)) ∧ HZ c' = some (CodeO c' (X.env.qual ++ "<lambda>")) ∧ tb σ HZ Q) := by
  refine ⟨fun pinsZ sZ σZ HZ Q IZ h => ?_⟩
  obtain ⟨hs, hc, htt⟩ := h
  refine wpAny_Call_Name_kw (thn ((pe_var (pos := p1) (i := i) hN hv hd hcd).run pinsZ sZ σZ HZ (fun v H1 => v = .ref f ∧ H1 = HZ) IZ ⟨.ref f, hs, rfl, rfl⟩) fun u s1 ⟨v, H1, I1, r1, q1⟩ => ?_)
  obtain ⟨ev, eH⟩ := q1
  subst ev
  rw [eH] at I1
  obtain rfl : u = Value.ref f := r1
  have of1 := I1.base.keep f _ hf hfn hfr (fun z => nomatch (show f ∈ ([] : List Addr) from z))
  have ot1 := I1.base.keep t _ ht htn htr (fun z => nomatch (show t ∈ ([] : List Addr) from z))
  refine PySem.W.callWith_F0 ⟨_, _, _, _, of1⟩ ?_
  have un : Un (frs X.stack) [] H HZ s.heap s1.heap := I1.base
  obtain ⟨⟨oc, vs, tq, hoc, hdc, hvc⟩, _, _⟩ := I1.hok c' _ hc
  have rc : codeAny (model X.prog X.w) (X.A.deeper (envOfC qg sg s.heap.objs.size g cdg)) (.call (.ref f) ⟨[], []⟩) (CR (L2.CX X.prog X.w) (envOfC qg sg s.heap.objs.size g cdg :: X.stack) X.prog X.w HZ s1 Q E) s1 := by
    refine PySem.W.kla_callFunE hr.depth of1 rfl L.co L.gen rfl ⟨c', oc, vs, tq, rfl, hoc, hdc, hvc⟩ ?_
    refine hbind s1 ot1 _ _ _ _ ?_
    refine wpAny_newFunctionEnv L.cell (fun y hy => by
      rcases List.mem_singleton.mp hy with rfl
      exact L.loc) (fun h₁ hns hsb => ⟨I1.nolimit.fresh _ hsb, ?_⟩) L.kind
    show codeAny _ _ (.expr body (lamEnv X scope s1.heap.objs.size f c')) _ _
    have kp : ∀ b o, s1.heap.get? b = some o → h₁.get? b = some o := fun b o e => hsb.extBut b o (Nat.ne_of_lt (Heap.lt_size e)) (Heap.get?_push_of_some _ e)
    have J : Inv (lamCx X (X.A.deeper (envOfC qg sg s.heap.objs.size g cdg)) (envOfC qg sg s.heap.objs.size g cdg :: X.stack) s1 HZ E scope f c') [] σ HZ { s1 with heap := h₁, toks := s1.toks + ([(x, u0)] : List (Str × Value)).length } :=
      lam_startD I L hxN I1.env0 hr.hd un hns kp
    refine PySem.W.kla_codeExpr (wpAny_mono ((hbody _ _ s1 HZ (hr.deeper _)).run [] _ _ HZ Q J htt) (fun v s' hq => ?_) fun e s' hq => hq)
    obtain ⟨w', H', J', rv, q⟩ := hq
    exact ⟨w', H', J'.os, J'.bare, J'.base, J'.hok, rv, q⟩
  have hx : Passes (L2.CX X.prog X.w) ((cxOf CXg X.prog X.w X.K X.mg X.base Ng qg sg g cdg X.A X.stack s H Eg).tr pn xe) E := passes_call tk hW
  refine wpAny_call (codeAny_mono rc fun r s' hq => ?_)
  cases r with
  | error e => exact hx pinsZ σZ HZ s1 e s' I1 hq
  | ok fl =>
    cases fl with
    | ret u => exact I1.after hq
    | next => exact False.elim hq
    | brk => exact False.elim hq
    | cont => exact False.elim hq
/-- g(lambda x=i: body) -/
theorem pe_lamcallD {T : List (Addr × Str)} {TT : (XK → Hp → VK → Prop) → Hp → VK → Prop} {x a xd : Str} {g c P : Addr} {k : Nat} {pg : Arguments} {bg : List Stmt} {sg : Scope} {dV kV doc pm cdv ct oc : Value} {an od : Option Addr} {osl : Array (Option Value)} {Ng : List Str}
    {params : Arguments} {body d : Expr} {i : Int} {scope : Scope} {t : XK → TE} {p lpos pos : Pos} (hg : Gl X x) (hm : X.mg x = some (.ref g)) (hk : PySem.W.keepIn X.K (.ref g) = true)
    (lk : X.K.lookup g = some ⟨oc, od, .func (PySem.W.fnOf x x pg bg sg dV kV doc pm an cdv ct), osl⟩) (hcg : PySem.W.codeIn X.K cdv x = true) (hb : L2.Binds X.K (PySem.W.fnOf x x pg bg sg dV kV doc pm an cdv ct) [a] []) (Sg : FnScope Ng [a] sg) (hNg : Ng[0]? = some a) (hva : Vis sg a)
    (hG : GivesTo X Ng x sg g cdv bg a (X.env.qual ++ "<lambda>") TT)
    (TB : TabB X.base X.mg c P) (hcode : X.env.code = .ref c) (hmT : (P, X.env.qual ++ "<lambda>") ∈ T) (hu : ∀ p ∈ T, p.1 = P → p.2 = X.env.qual ++ "<lambda>") (hr : Room (k + 2) X.A) (L : LamSD X.env.scope scope xd) (hxN : xd ∉ X.N) (hdef : params.defaults = [d]) (hkw : params.kw_defaults = [])
    (hde : ∃ j q, d = .Constant (.int i) j q)
    (hbind : ∀ (q : Str) (cl : List (Str × Addr)) (T : Addr) (doc pm cv ctv : Value) (u0 : Value), ∃ kk, bindArgs (PySem.W.kdv_fn "<lambda>" q params (.expr body) scope cl (.ref T) doc pm cv ctv) ⟨[], []⟩ = seqItems? (.ref T) >>= kk ∧ kk (some #[u0]) = pure [(xd, u0)])
    (hbody : ∀ (A : Around) (outer : List Env) (s : Shared) (H : Hp) (E : XK) (f c' : Addr), Room k (A.deeper (lamEnv X scope s.heap.objs.size f c')) → PE (lamCx X A outer s H E scope f c') body (t E))
    (hdb : (x == ("__debug__" : Str)) = false := by decide) (hd : (a == ("__debug__" : Str)) = false := by decide) (hcd : (a == ("__classdict__" : Str)) = false := by decide) :
    PE X (.Call (.Name x p) [.Lambda params body scope lpos] [] pos) (tLam T TT t) := by
  refine ⟨fun pins s σ H Q I h => ?_⟩
  obtain ⟨hT, h⟩ := h
  obtain ⟨j, q, rfl⟩ := hde
  refine wpAny_Call_Name_kw (ld_glob I hg hm ?_ hdb)
  refine PySem.W.callWith_K (h₀ := X.base) I.ok.mod.kin hk ?_ (by rfl) (by rfl)
  show wpAny _ _ (spliced ((false, eval (.Lambda params body scope lpos) X.env) :: backTo pos (starEach [] X.env))) _ _ s
  refine Calls.spliced_cons (lam_makeD I TB hcode hmT hu hT hdef hkw (fun s0 Q0 I0 k0 => wpAny_Constant_int (k0 _ _ (I0.tok _))) (L.has I.ok) fun f t0 c' tk0 doc' pm' ctv H1 s' I1 eN T1 hf hfn hfr ht htn htr hco => ?_)
  refine Calls.spliced_nil ⟨I1.kIn, ?_⟩
  have rc : codeAny (model X.prog X.w) X.A (.call (.ref g) ⟨[.ref f], []⟩) (CR C8.CX0 X.stack X.prog X.w H1 s' Q C8.E0) s' := by
    refine run_ofS (N := Ng) (ps := [a]) (us := [.ref f]) (vs := [.ref f]) lk hcg Sg hr I1.env0 (hb s' [.ref f] I1.kIn rfl) (.cons rfl .nil) rfl fun hr' => ?_
    obtain ⟨t', ht', hq'⟩ := hG f c' s' H1 Q (fun E H' Q' => t E σ H' Q') (fun W pn xe E p1 p2 tk hW => pe_actD (i := 0) I1 L hxN hf hfn hfr ht htn htr (fun s hs => by
      obtain ⟨kk, k1, k2⟩ := hbind (X.env.qual ++ "<lambda>") (cloFrom X.env.cells scope.names []) t0 doc' pm' (.ref c') ctv (.int i tk0)
      exact BindsTo.of_defaults rfl hs rfl k1 k2) tk hW hr' (fun A outer s H hr2 => hbody A outer s H E f c' hr2) hNg hva hd hcd) hco (h H1 eN T1)
    exact ⟨t', ht'.nox, hq'⟩
  refine wpAny_call (codeAny_mono rc fun r s2 hq => ?_)
  cases r with
  | error e => exact (show False from hq).elim
  | ok fl =>
    cases fl with
    | ret u => exact I1.after hq
    | next => exact False.elim hq
    | brk => exact False.elim hq
    | cont => exact False.elim hq
end
/-- x(lambda xd=i: body), x a def of the text -/
theorem dl_saidD {C : Ct} {X : Cx} {okF : PyData → R PyData} {exF : Nat → R PyData} {F : Sem' PyData} {x a xd : Str} {g c P : Addr} {k : Nat} {st : Stmt} {fd : FuncData} {Ng : List Str}
    {params : Arguments} {body d : Expr} {i : Int} {scope : Scope} {p lpos pos : Pos} (hg : Gl X x) (hm : X.mg x = some (.ref g)) (Fg : Fun X.K x x st g fd) (hb : L2.Binds X.K fd [a] []) (Sg : FnScope Ng [a] (defScope st)) (hNg : Ng[0]? = some a) (hva : Vis (defScope st) a)
    (hG : ∀ cdv, GivesTo X Ng x (defScope st) g cdv (defBody st) a (X.env.qual ++ "<lambda>") (TSaid C okF exF))
    (TB : TabB X.base X.mg c P) (hcode : X.env.code = .ref c) (hmT : (P, X.env.qual ++ "<lambda>") ∈ C.T) (hnd : (C.T.map (·.1)).Nodup) (hr : Room (k + 2) X.A) (L : LamSD X.env.scope scope xd) (hxN : xd ∉ X.N) (hdef : params.defaults = [d]) (hkw : params.kw_defaults = [])
    (hde : ∃ j q, d = .Constant (.int i) j q)
    (hbind : ∀ (q : Str) (cl : List (Str × Addr)) (T : Addr) (doc pm cv ctv : Value) (u0 : Value), ∃ kk, bindArgs (PySem.W.kdv_fn "<lambda>" q params (.expr body) scope cl (.ref T) doc pm cv ctv) ⟨[], []⟩ = seqItems? (.ref T) >>= kk ∧ kk (some #[u0]) = pure [(xd, u0)])
    (hbody : ∀ (A : Around) (outer : List Env) (s : Shared) (H : Hp) (E : XK) (f c' : Addr), Room k (A.deeper (lamEnv X scope s.heap.objs.size f c')) → PE (lamCx X A outer s H E scope f c') body (tE ⟨C.K, C.T, C.ca, E⟩ F))
    (hdb : (x == ("__debug__" : Str)) = false := by decide) (hd : (a == ("__debug__" : Str)) = false := by decide) (hcd : (a == ("__classdict__" : Str)) = false := by decide) :
    PE X (.Call (.Name x p) [.Lambda params body scope lpos] [] pos) (tE C (dSaid okF exF F)) := by
  obtain ⟨oc, od, kV, doc, pm, an, cdv, ct, osl, rfl, lk, hcg⟩ := Fg.ex
  exact (pe_lamcallD hg hm Fg.kp lk hcg hb Sg hNg hva (hG cdv) TB hcode hmT (nd_hu hnd hmT) hr L hxN hdef hkw hde hbind hbody hdb hd hcd).imp fun σ H Q h => said_imp h
end PD
end
section
/-! PX8: a def that calls itself (by fuel); a loop at a suite's end that may hand back. -/
namespace PD
open PySem PySem.Spec PyProof.Rows L2 Evl
def noFn : Fn := fun _ => .bad
theorem fn_no {K : PySem.W.Frag} {T : List (Addr × Str)} {ca : Nat → Addr} {P : Program} {w : World} {mg : Str → Option Value} {base : Heap} {CX : CXT} {k n : Nat} {f : Addr} {fd : FuncData} {ps : List Str} : FnOk P w K mg base CX k f fd ps (spD K T ca n noFn) where
  len := fun vs H Q E ⟨_, _, _, _, _, h⟩ => h.elim
  run := fun A outer s H args us vs Q E _ _ _ _ ⟨_, _, _, _, _, h⟩ => h.elim
theorem fn_noG {K : PySem.W.Frag} {T : List (Addr × Str)} {ca : Nat → Addr} {P : Program} {w : World} {mg : Str → Option Value} {base : Heap} {CX : CXT} {k n : Nat} {f : Addr} {fd : FuncData} {ps : List Str} : FnG P w K mg base CX k f fd ps (spD K T ca n noFn) where
  len := fun vs H Q E ⟨_, _, _, _, _, h⟩ => h.elim
  run := fun A outer s H args us vs Q E _ _ _ _ _ ⟨_, _, _, _, _, h⟩ => h.elim
variable {γ σ ρ : Type} {e : En}
theorem js_finC {S : SemS} {x : R (Ctl σ ρ)} {E : σ → En} {rr : ρ → RS} {κ : γ → RS} {wn : σ → γ} {wr : ρ → γ} (h : Js S e x (kFin E rr)) (hn : ∀ s, κ (wn s) = .next (E s)) (hr : ∀ r, κ (wr r) = rr r) : Js S e (x >>= fun c => .ok (c.fin wn wr)) κ := by
  unfold Js
  rw [show nrm (S e) = _ from h, ofR_bind]
  refine ofR_congr fun c => ?_
  cases c with
  | nx s => exact (hn s).symm
  | bk s => exact (hn s).symm
  | rt r => exact (hr r).symm
end PD
end
section
/-! PX9: a range as a list, as a tuple. -/
namespace PD
open PySem PySem.Spec PyProof.Rows L2 Evl
def few62 {α : Type} (i j : Int) (x : R α) : R α := if (-(2 ^ 62) ≤ i ∧ i < 2 ^ 62 ∧ -(2 ^ 62) ≤ j ∧ j < 2 ^ 62) ∧ (j - i).toNat ≤ 100000 then x else .bad
def rgL1 (x : PyData) : R (List PyData) := match x with
  | .int j => few62 0 j (.ok (numsFrom 0 (j - 0).toNat))
  | _ => .bad
def rgL2 (x y : PyData) : R (List PyData) := match x, y with
  | .int i, .int j => few62 i j (.ok (numsFrom i (j - i).toNat))
  | _, _ => .bad
def rgT1 (x : PyData) : R PyData := match x with
  | .int j => few62 0 j (.ok (.tuple (numsFrom 0 (j - 0).toNat)))
  | _ => .bad
def rgT2 (x y : PyData) : R PyData := match x, y with
  | .int i, .int j => few62 i j (.ok (.tuple (numsFrom i (j - i).toNat)))
  | _, _ => .bad
theorem few62_ok {α : Type} {i j : Int} {x : R α} {z : α} (h : few62 i j x = .ok z) : RgOk i j ∧ (j - i).toNat ≤ 100000 ∧ x = .ok z := by
  unfold few62 at h
  split at h
  · rename_i g
    obtain ⟨⟨h1, h2, h3, h4⟩, h5⟩ := g
    exact ⟨⟨h1, h2, h3, h4, by omega⟩, h5, h⟩
  · cases h
theorem rp_rg {K : PySem.W.Frag} {H : Hp} (i j : Int) : RpAll K H (rgV i j) (numsFrom i (j - i).toNat) := by
  unfold rgV numsFrom
  generalize List.range (j - i).toNat = l
  induction l with
  | nil => exact .nil
  | cons k l ih => exact .cons (.int _) ih
theorem nx_few62 {α : Type} (i j : Int) (x : α) : lift (few62 i j (R.ok x)) = few62 i j (R.ok x) := by unfold few62; split <;> rfl
theorem nx_rgL1 : NX1 rgL1 := fun a => by unfold rgL1; split <;> first | rfl | exact nx_few62 _ _ _
theorem nx_rgL2 : NX2 rgL2 := fun a b => by unfold rgL2; split <;> first | rfl | exact nx_few62 _ _ _
theorem nx_rgT1 : NX1 rgT1 := fun a => by unfold rgT1; split <;> first | rfl | exact nx_few62 _ _ _
theorem nx_rgT2 : NX2 rgT2 := fun a b => by unfold rgT2; split <;> first | rfl | exact nx_few62 _ _ _
section
variable {C : Ct} {X : Cx} {a b : Expr} {p p2 pos pos2 : Pos} {F G : Sem' Op}
theorem dn_lstRg1 (hc : X.calm = true) (hg : Gl X "list") (hm : X.mg "list" = none) (hg2 : Gl X "range") (hm2 : X.mg "range" = none) (ha : PE X a (tO C F)) (na : starEach [a] X.env = (false, eval a X.env) :: starEach [] X.env := by rfl) (nb : starEach [.Call (.Name "range" p2) [a] [] pos2] X.env = (false, eval (.Call (.Name "range" p2) [a] [] pos2) X.env) :: starEach [] X.env := by rfl) :
    PE X (.Call (.Name "list" p) [.Call (.Name "range" p2) [a] [] pos2] [] pos) (tN C (d1 rgL1 F)) :=
  (pe_listRg hc hg hm (prg_1 hg2 hm2 ha na) nb).imp fun σ H Q ⟨H0, en, s, p⟩ => by
    refine d1_go (K' := fun x H1 => ∃ n, x = .int n ∧ RgOk 0 n ∧ ∀ q, H1 q = none → Q (.ref q) (upd H1 q (.lst (rgV 0 n)))) idO s p fun H01 H1 en1 x dx z s1 hn rx e p1 => ?_
    unfold rgL1 at e
    split at e
    · obtain ⟨ok, hl, e⟩ := few62_ok e
      cases e
      exact ⟨_, rx.int, ok, fun q hq => outN_post s1 hn p1 q _ _ (Fm.newO hq) (s1.good.newO hq) hq upd_same (rp_rg _ _)⟩
    · cases e
theorem dn_lstRg2 (hc : X.calm = true) (hg : Gl X "list") (hm : X.mg "list" = none) (hg2 : Gl X "range") (hm2 : X.mg "range" = none) (ha : PE X a (tO C F)) (hb : PE X b (tO C G)) (na : starEach [a, b] X.env = (false, eval a X.env) :: starEach [b] X.env := by rfl) (nb : starEach [b] X.env = (false, eval b X.env) :: starEach [] X.env := by rfl) (nd : (backTo pos2 (starEach [b] X.env)).any (fun x => x.1) = false := by rfl) (nc : starEach [.Call (.Name "range" p2) [a, b] [] pos2] X.env = (false, eval (.Call (.Name "range" p2) [a, b] [] pos2) X.env) :: starEach [] X.env := by rfl) :
    PE X (.Call (.Name "list" p) [.Call (.Name "range" p2) [a, b] [] pos2] [] pos) (tN C (d2 rgL2 F G)) :=
  (pe_listRg hc hg hm (prg_2 hg2 hm2 ha hb na nb nd) nc).imp fun σ H Q ⟨H0, en, s, p⟩ => by
    refine d2_go (K' := fun x y H1 => ∃ i j, x = .int i ∧ y = .int j ∧ RgOk i j ∧ ∀ q, H1 q = none → Q (.ref q) (upd H1 q (.lst (rgV i j)))) idO idO s p fun H01 H1 en1 x y dx dy z s1 hn rx ry e p1 => ?_
    unfold rgL2 at e
    split at e
    · obtain ⟨ok, hl, e⟩ := few62_ok e
      cases e
      exact ⟨_, _, rx.int, ry.int, ok, fun q hq => outN_post s1 hn p1 q _ _ (Fm.newO hq) (s1.good.newO hq) hq upd_same (rp_rg _ _)⟩
    · cases e
theorem de_tupRg1 (hc : X.calm = true) (hg : Gl X "tuple") (hm : X.mg "tuple" = none) (hg2 : Gl X "range") (hm2 : X.mg "range" = none) (ha : PE X a (tO C F)) (na : starEach [a] X.env = (false, eval a X.env) :: starEach [] X.env := by rfl) (nb : starEach [.Call (.Name "range" p2) [a] [] pos2] X.env = (false, eval (.Call (.Name "range" p2) [a] [] pos2) X.env) :: starEach [] X.env := by rfl) (hK : C.K = X.K := by rfl) :
    PE X (.Call (.Name "tuple" p) [.Call (.Name "range" p2) [a] [] pos2] [] pos) (tE C (d1 rgT1 F)) :=
  (pe_tupRg hc hg hm (prg_1 hg2 hm2 ha na) nb).imp fun σ H Q ⟨H0, en, s, p⟩ => by
    refine d1_go (K' := fun x H1 => ∃ n, x = .int n ∧ RgOk 0 n ∧ ∀ q, H1 q = none → Q (.ref q) (upd H1 q (.tup (rgV 0 n)))) idO s p fun H01 H1 en1 x dx z s1 hn rx e p1 => ?_
    unfold rgT1 at e
    split at e
    · obtain ⟨ok, hl, e⟩ := few62_ok e
      cases e
      exact ⟨_, rx.int, ok, fun q hq => out_post s1 p1 _ _ _ (Fm.new s1.ex hq) (s1.good.new hq fun _ z => by cases z) (.tup (SqT.of upd_same) (rp_rg _ _))⟩
    · cases e
theorem de_tupRg2 (hc : X.calm = true) (hg : Gl X "tuple") (hm : X.mg "tuple" = none) (hg2 : Gl X "range") (hm2 : X.mg "range" = none) (ha : PE X a (tO C F)) (hb : PE X b (tO C G)) (na : starEach [a, b] X.env = (false, eval a X.env) :: starEach [b] X.env := by rfl) (nb : starEach [b] X.env = (false, eval b X.env) :: starEach [] X.env := by rfl) (nd : (backTo pos2 (starEach [b] X.env)).any (fun x => x.1) = false := by rfl) (nc : starEach [.Call (.Name "range" p2) [a, b] [] pos2] X.env = (false, eval (.Call (.Name "range" p2) [a, b] [] pos2) X.env) :: starEach [] X.env := by rfl) (hK : C.K = X.K := by rfl) :
    PE X (.Call (.Name "tuple" p) [.Call (.Name "range" p2) [a, b] [] pos2] [] pos) (tE C (d2 rgT2 F G)) :=
  (pe_tupRg hc hg hm (prg_2 hg2 hm2 ha hb na nb nd) nc).imp fun σ H Q ⟨H0, en, s, p⟩ => by
    refine d2_go (K' := fun x y H1 => ∃ i j, x = .int i ∧ y = .int j ∧ RgOk i j ∧ ∀ q, H1 q = none → Q (.ref q) (upd H1 q (.tup (rgV i j)))) idO idO s p fun H01 H1 en1 x y dx dy z s1 hn rx ry e p1 => ?_
    unfold rgT2 at e
    split at e
    · obtain ⟨ok, hl, e⟩ := few62_ok e
      cases e
      exact ⟨_, _, rx.int, ry.int, ok, fun q hq => out_post s1 p1 _ _ _ (Fm.new s1.ex hq) (s1.good.new hq fun _ z => by cases z) (.tup (SqT.of upd_same) (rp_rg _ _))⟩
    · cases e
/-- x.extend(a new list) -/
def sExt (s : Nat) (N : Sem' (List PyData)) : SemS := fun en => ofR (ownAt en s) fun _ => ofR (N en) fun p => ofR (ownAt p.2 s) fun o => if o.2.length + p.1.length ≤ 100000 then .next (p.2.set s (.own o.1 (o.2 ++ p.1))) else .bad
theorem ds_ext {N : Sem' (List PyData)} {s : Nat} {apos cpos : Pos} (ho : PE X a (tVar s)) (he : PE X b (tN C N))
    (hbase : attributeBase a "extend" X.env (eval a X.env) = eval a X.env := by rfl)
    (hfew : ((backTo cpos (starEach (b :: []) X.env)).all (fun x => !x.1) && (backToKw cpos (keywordEach [] X.env)).all (fun x => x.1.isSome)
      && decide ((b :: ([] : List Expr)).length + ([] : List Keyword).length + (if ([] : List Keyword).isEmpty then 0 else 1) < 30)) = true := by rfl)
    (hline : (apos.endLine == cpos.line) = true := by rfl) (hs : starEach (b :: []) X.env = (false, eval b X.env) :: starEach [] X.env := by rfl) (hplain : (backTo cpos (starEach [] X.env)).any (·.1) = false := by rfl)
    (hsw : swapsWith (.Call (.Attribute a "extend" apos) [b] [] cpos) none pos.line X.env = pure false := by rfl) : PS X (.Expr (.Call (.Attribute a "extend" apos) [b] [] cpos) pos) (tS C (sExt s N)) :=
  (ps_expr (pe_bm PySem.F.plainAttrs_list PySem.F.slot_list_extend PySem.F.type_list_extend mt_extend ho (pa_cons he pa_nil hs) hbase hfew hline hs hplain) hsw).imp fun D σ H ⟨H0, en, sr, p⟩ => by
    obtain ⟨o0, e0, p⟩ := postS_ofR p ownAt_nx
    obtain ⟨q, ws, f1, f2, f3, f4⟩ := sr.own s _ _ (ownAt_ok e0)
    refine ⟨_, f1, .inl ⟨rfl, _, SqL.of f2⟩, H0, en, sr, postS_bind (rel := NewL C.K σ H) (f := fun d e => ofR (ownAt e s) fun o => if o.2.length + d.length ≤ 100000 then .next (e.set s (.own o.1 (o.2 ++ d))) else .bad) (D := D) p fun d en1 H01 H1 w _ st s1 r1 p1 => ?_⟩
    obtain ⟨o, e1, p1⟩ := postS_ofR p1 ownAt_nx
    split at p1
    case isFalse => exact p1.elim
    rename_i hl
    obtain ⟨q1, ws1, g1, g2, g3, g4⟩ := s1.own s _ _ (ownAt_ok e1)
    rw [f1] at g1
    cases g1
    obtain ⟨b1, vs1, ev, n1, n2, n3, n4, n5⟩ := r1
    subst ev
    obtain ⟨m1, m2⟩ := mut_sr s1 (ownAt_ok e1) f1 g2 (g4.append n4)
    exact ⟨q, b1, ws1, vs1, rfl, rfl, g2, n2, sz_of (by rw [g4.length, n4.length]; exact hl), p1 _ _ σ m2 m1⟩
end
/-- what an extended list is -/
def extP (ds es : List PyData) : R (List PyData) := if ds.length + es.length ≤ 100000 then .ok (ds ++ es) else .bad
theorem jl_ext {N : Sem' (List PyData)} {e e1 : En} {x : R (List PyData)} {ds : List PyData} {io : Bool} {s : Nat} (h : Xv N e x e1) (h0 : e[s]? = some (.own io ds)) (hs : e1[s]? = some (.own io ds)) : Js (sExt s N) e (x >>= fun v => extP ds v) fun ds' => .next (e1.set s (.own io ds')) := by
  unfold Js sExt
  rw [ownAt_is h0]
  simp only [ofR_ok]
  rw [show N e = _ from h, ofR_bind, nrm_ofR, ofR_bind]
  refine ofR_congr fun v => ?_
  simp only [ofR_ok]
  rw [ownAt_is hs]
  simp only [ofR_ok]
  unfold extP
  split <;> rfl
end PD
end
section
/-! PX10: comprehensions of two sources. -/
namespace PD
open PySem PySem.Spec PyProof.Rows L2 Evl
noncomputable def lcLoop2 (vs : List Nat) (g : PyData → En → R En) (tst : Sem' Bool) (it1 : Sem' Its') (vs1 : List Nat) (g1 : PyData → En → R En) (tst1 : Sem' Bool) (el : Sem' PyData) : List PyData → En → R (List PyData × En)
  | [], e => .ok ([], e)
  | x :: xs, e => lift (g x e) >>= fun e1 => lift (tst e1) >>= fun p => if p.1 then lift (it1 p.2) >>= fun q => if q.1.2.isEmpty = true ∧ q.1.1.length ≤ 20 then lcLoop [] (wipeE q.2 vs1) vs1 g1 tst1 el q.1.1 (wipeE q.2 vs1) >>= fun r => lcLoop2 vs g tst it1 vs1 g1 tst1 el xs (wipeE r.2 vs) >>= fun t => .ok (r.1 ++ t.1, t.2) else .bad else lcLoop2 vs g tst it1 vs1 g1 tst1 el xs (wipeE p.2 vs)
noncomputable def dLc2 (it : Sem' Its') (vs : List Nat) (g : PyData → En → R En) (tst : Sem' Bool) (it1 : Sem' Its') (vs1 : List Nat) (g1 : PyData → En → R En) (tst1 : Sem' Bool) (el : Sem' PyData) : Sem' (List PyData) := fun en => it en >>= fun p =>
  if freeOf p.2 vs = true ∧ p.1.1.length ≤ 5000 ∧ p.1.2.isEmpty = true then lcLoop2 vs g tst it1 vs1 g1 tst1 el p.1.1 (wipeE p.2 vs) >>= fun q => .ok (q.1, restE p.2 q.2 vs) else .bad
section
variable {C : Ct} {X : Cx} {H0 H H0' H' H01 H1 : Hp} {σ σ' : L2.St} {en en' en1 e : En} {vs vs1 : List Nat}
theorem wipe_sub (hv : ∀ i ∈ vs1, i ∈ vs) (σ : L2.St) : wipe (wipe σ vs1) vs = wipe σ vs := by
  refine List.ext_getElem? fun j => ?_
  rw [wipe_get, wipe_get, wipe_get, wipe_length]
  by_cases z : j ∈ vs
  · rw [if_pos z, if_pos z]
  · rw [if_neg z, if_neg z, if_neg fun q => z (hv j q)]
theorem lc2_tn {it it1 : Sem' Its'} {js js1 : List Nat} {g g1 : PyData → En → R En} {tst tst1 : Sem' Bool} {el : Sem' PyData} (hj : ∀ j ∈ js, j ∈ vs) (hj1 : ∀ j ∈ js1, j ∈ vs1) (hv : ∀ i ∈ vs1, i ∈ vs) (σ : L2.St) (H : Hp) (Q : VK) (h : tN C (dLc2 it vs g tst it1 vs1 g1 tst1 el) σ H Q) :
    tLc2 (tI C it) (gD C.non js g) (tT C.non tst) (tI C.non it1) (gD C.non js1 g1) (tT C.non tst1) (tE C.non el) vs vs1 σ H Q := by
  obtain ⟨H0, en, s, p⟩ := h
  unfold dLc2 at p
  refine ⟨H0, en, s, ?_⟩
  cases e0 : it en with
  | exc n => rw [e0] at p; exact p
  | bad => rw [e0] at p; exact p.elim
  | ok q =>
    obtain ⟨⟨xs, ws⟩, en1⟩ := q
    rw [e0] at p
    intro H01 H1 J P st0 s1 hJ hP D hD
    have hJ : ItD C J xs P := hJ
    have p2 : Post C (NewL C.K σ H) H0 H σ en Q (if freeOf en1 vs = true ∧ xs.length ≤ 5000 ∧ ws.isEmpty = true then lcLoop2 vs g tst it1 vs1 g1 tst1 el xs (wipeE en1 vs) >>= fun q => .ok (q.1, restE en1 q.2 vs) else .bad) := p
    split at p2
    case isFalse => exact p2.elim
    rename_i hf
    obtain ⟨hf, hlen, hws⟩ := hf
    have hws : ws = [] := by simpa using hws
    subst hws
    have toP : ∀ (H0' H' : Hp) (e : En), Ex H01 H0' → SR C.K C.T H0' H' (wipe σ vs) e → P H0' H' := fun H0' H' e x s' => hP H0' H' (wipe σ vs) e x s' fun i hi => by cases hi
    have iov : ∀ (i : Nat) (ds : List PyData), (wipeE en1 vs)[i]? = some (.own true ds) → i ∉ vs := fun i ds h z => by
      rw [wipeE_get, if_pos z] at h
      split at h <;> cases h
    have hD0 : H01 D = none := fresh_back s1.ex hD
    have hDH : Nw H D := st0.fm.kp D (nw_of hD)
    let Wn : Nat → Hp → Prop := fun i H' => i ≤ xs.length ∧ ∃ H0' e acc ys, H' D = some (.lst acc) ∧ H0' D = none ∧ RpAll C.K H0' acc ys ∧ ys.length ≤ i * 20 ∧ SR C.K C.T H0' H' (wipe σ vs) e ∧ ¬ OwnA (wipe σ vs) e D ∧
      Stp (wipe σ vs) (wipeE en1 vs) H01 H1 (wipe σ vs) e H0' H' ∧ Post C (NewL C.K σ H) H0 H σ en Q (lcLoop2 vs g tst it1 vs1 g1 tst1 el (xs.drop i) e >>= fun q => .ok (ys ++ q.1, restE en1 q.2 vs))
    refine ⟨fun i m H' => m = xs.length - i ∧ Wn i H', ⟨xs.length, rfl, Nat.zero_le _, H01, wipeE en1 vs, [], [], upd_same, hD0, .nil, Nat.zero_le _, ?_, ?_, ?_, ?_⟩, ?_⟩
    · exact (sr_wipe s1).newO hD
    · rintro ⟨j, io, ds, h1, h2⟩
      obtain ⟨q, ws, e1, e2, _⟩ := (sr_wipe (vs := vs) s1).own j io ds h1
      rw [h2] at e1
      cases e1
      rw [hD] at e2
      cases e2
    · exact Stp.refl.side hD
    · simpa using p2
    · rintro i m H' ⟨rfl, hi, H0', e, acc, ys, d1, d2, ra, hy, sr, no, st, pp⟩
      by_cases hlt : i < xs.length
      case neg =>
        have ei : i = xs.length := by omega
        subst ei
        rw [List.drop_length] at pp
        refine .inl ⟨hJ.stop H0' H' (toP H0' H' e st.fm.ex sr) sr.good, ?_⟩
        have pp : Post C (NewL C.K σ H) H0 H σ en Q (.ok (ys ++ [], restE en1 e vs)) := pp
        rw [List.append_nil] at pp
        exact pp H0' H' (.ref D) (st0.trans (stp_unwipe hf st)) (sr_unwipe s1 hf st.fm.ex sr) ⟨D, acc, rfl, hDH, d1, d2, ra, fun h => no (own_unwipe hf h)⟩
      case pos =>
        have hx : xs[i]? = some xs[i] := List.getElem?_eq_getElem hlt
        rw [List.drop_eq_getElem_cons hlt] at pp
        obtain ⟨go, yld⟩ := hJ.go H0' H' i xs[i] (toP H0' H' e st.fm.ex sr) sr.good hx
        refine .inr ⟨go, fun H' => Wn (i + 1) H', fun H' w => ⟨xs.length - (i + 1), by omega, rfl, w⟩, fun v H3 hy3 => ?_⟩
        obtain ⟨H03, f3, g3, rx⟩ := yld v H3 hy3
        have s3 : SR C.K C.T H03 H3 (wipe σ vs) e := sr.grown f3 g3
        have d31 : H3 D = some (.lst acc) := f3.fr D _ d1 (fun z => z) fun _ z => by cases z
        have d32 : H03 D = none := f3.nw D (nw_lst d1) (fun z => z) d2
        have st3 : Stp (wipe σ vs) (wipeE en1 vs) H01 H1 (wipe σ vs) e H03 H3 := st.trans f3.stp
        unfold lcLoop2 at pp
        refine ⟨H03, e, xs[i], s3, rx, ?_⟩
        cases eg : g xs[i] e with
        | exc n => rw [eg] at pp; exact pp.elim
        | bad => rw [eg] at pp; exact pp.elim
        | ok e1 =>
          rw [eg] at pp
          intro σ2 hl2 hk2 st2 sr2
          have hw : wipe σ2 vs = wipe σ vs := by
            rw [wipe_eq (vs := vs) (wipe σ vs) σ2 hl2 fun j hjv => hk2 j fun z => hjv (hj j z)]
            exact wipe_wipe σ
          refine ⟨hw, ?_⟩
          have stA := st3.trans st2
          have noA : ¬ OwnA σ2 e1 D := fun z => (st2.ow D z).elim no fun z => nw_lst d31 z
          refine ⟨H03, e1, sr2, ?_⟩
          simp only [lift_ok, R.bind_ok] at pp
          cases et : tst e1 with
          | exc n => rw [et] at pp; exact pp.elim
          | bad => rw [et] at pp; exact pp.elim
          | ok q =>
            obtain ⟨b, e2⟩ := q
            rw [et] at pp
            intro H0b Hb stb srb
            have stB := stA.trans stb
            have db1 : Hb D = some (.lst acc) := stb.fm.fr D _ d31 noA fun _ z => by cases z
            have db2 : H0b D = none := stb.fm.nw D (nw_lst d31) noA d32
            have noB : ¬ OwnA σ2 e2 D := fun z => (stb.ow D z).elim noA fun z => nw_lst d31 z
            have raB : RpAll C.K H0b acc ys := ra.mono (f3.ex.trans stb.fm.ex)
            simp only [lift_ok, R.bind_ok] at pp
            cases b with
            | false =>
              rw [if_neg Bool.false_ne_true]
              rw [if_neg Bool.false_ne_true] at pp
              have sw := sr_wipe (vs := vs) srb
              have stw := stp_wipe2 (vs := vs) stB iov
              rw [hw] at sw stw
              exact ⟨hlt, H0b, wipeE e2 vs, acc, ys, db1, db2, raB, by omega, sw, fun z => noB (own_wipe (vs := vs) (by rw [hw]; exact z)), stw, pp⟩
            | true =>
              rw [if_pos rfl]
              rw [if_pos rfl] at pp
              refine ⟨H0b, e2, srb, ?_⟩
              cases ei : it1 e2 with
              | exc n => rw [ei] at pp; exact pp.elim
              | bad => rw [ei] at pp; exact pp.elim
              | ok q =>
                obtain ⟨⟨xs1, ws1⟩, e3⟩ := q
                rw [ei] at pp
                intro H0c Hc J1 P1 stc src hJ1 hP1
                have hJ1 : ItD C.non J1 xs1 P1 := hJ1
                simp only [lift_ok, R.bind_ok] at pp
                split at pp
                case isFalse => exact pp.elim
                rename_i hw1
                obtain ⟨hw1, hl1⟩ := hw1
                have hw1 : ws1 = [] := by simpa using hw1
                subst hw1
                have stC := stB.trans stc
                have dc1 : Hc D = some (.lst acc) := stc.fm.fr D _ db1 noB fun _ z => by cases z
                have dc2 : H0c D = none := stc.fm.nw D (nw_lst db1) noB db2
                have noC : ¬ OwnA σ2 e3 D := fun z => (stc.ow D z).elim noB fun z => nw_lst db1 z
                have iov1 : ∀ (i : Nat) (ds : List PyData), (wipeE en1 vs)[i]? = some (.own true ds) → i ∉ vs1 := fun i ds h z => iov i ds h (hv i z)
                have hww : wipe (wipe σ2 vs1) vs = wipe σ vs := by rw [wipe_sub hv, hw]
                let Wi : Nat → Hp → Prop := fun j H' => j ≤ xs1.length ∧ ∃ H0' e acc' ys', H' D = some (.lst acc') ∧ H0' D = none ∧ RpAll C.K H0' acc' ys' ∧ ys'.length ≤ ys.length + j ∧ SR C.K C.T H0' H' (wipe σ2 vs1) e ∧ ¬ OwnA (wipe σ2 vs1) e D ∧ Ex H0c H0' ∧
                  Stp (wipe σ vs) (wipeE en1 vs) H01 H1 (wipe σ2 vs1) e H0' H' ∧ Post C (NewL C.K σ H) H0 H σ en Q ((lcLoop [] (wipeE e3 vs1) vs1 g1 tst1 el (xs1.drop j) e >>= fun r => lcLoop2 vs g tst it1 vs1 g1 tst1 el (xs.drop (i + 1)) (wipeE r.2 vs) >>= fun t => .ok (r.1 ++ t.1, t.2)) >>= fun q => .ok (ys' ++ q.1, restE en1 q.2 vs))
                refine ⟨fun j m H' => m = xs1.length - j ∧ Wi j H', ⟨xs1.length, rfl, Nat.zero_le _, H0c, wipeE e3 vs1, acc, ys, dc1, dc2, raB.mono stc.fm.ex, Nat.le_refl _, sr_wipe src, fun z => noC (own_wipe z), Ex.refl _, stp_wipe2 stC iov1, pp⟩, ?_⟩
                rintro j m H' ⟨rfl, hj', H0', e, acc', ys', k1, k2, ka, hyl, ks, kno, kex, kst, pp⟩
                by_cases hlt1 : j < xs1.length
                case neg =>
                  have ej : j = xs1.length := by omega
                  subst ej
                  rw [List.drop_length] at pp
                  unfold lcLoop at pp
                  rw [keepW_nil] at pp
                  refine .inl ⟨hJ1.stop H0' H' (hP1 H0' H' (wipe σ2 vs1) e kex ks fun i hi => by cases hi) ⟨ks.good.1, ks.good.2, ks.good.3⟩, ?_⟩
                  simp only [R.bind_ok, List.nil_append] at pp
                  have sw := sr_wipe (vs := vs) ks
                  have stw := stp_wipe2 (vs := vs) kst iov
                  rw [hww] at sw stw
                  refine ⟨hlt, H0', wipeE e vs, acc', ys', k1, k2, ka, by omega, sw, fun z => kno (own_wipe (vs := vs) (by rw [hww]; exact z)), stw, ?_⟩
                  revert pp
                  cases lcLoop2 vs g tst it1 vs1 g1 tst1 el (xs.drop (i + 1)) (wipeE e vs) with
                  | ok r => exact fun pp => pp
                  | exc n => exact fun pp => pp
                  | bad => exact fun pp => pp
                case pos =>
                  have hx1 : xs1[j]? = some xs1[j] := List.getElem?_eq_getElem hlt1
                  rw [List.drop_eq_getElem_cons hlt1] at pp
                  unfold lcLoop at pp
                  rw [keepW_nil] at pp
                  obtain ⟨go1, yld1⟩ := hJ1.go H0' H' j xs1[j] (hP1 H0' H' (wipe σ2 vs1) e kex ks fun i hi => by cases hi) ⟨ks.good.1, ks.good.2, ks.good.3⟩ hx1
                  refine .inr ⟨go1, fun H' => Wi (j + 1) H', fun H' w => ⟨xs1.length - (j + 1), by omega, rfl, w⟩, fun v1 H5 hy5 => ?_⟩
                  obtain ⟨H05, f5, g5, rx5⟩ := yld1 v1 H5 hy5
                  have s5 : SR C.K C.T H05 H5 (wipe σ2 vs1) e := ks.grown f5 ⟨g5.1, g5.2, g5.3⟩
                  have d51 : H5 D = some (.lst acc') := f5.fr D _ k1 (fun z => z) fun _ z => by cases z
                  have d52 : H05 D = none := f5.nw D (nw_lst k1) (fun z => z) k2
                  have st5 := kst.trans f5.stp
                  refine ⟨H05, e, xs1[j], s5, rx5, ?_⟩
                  cases eg1 : g1 xs1[j] e with
                  | exc n => rw [eg1] at pp; exact pp.elim
                  | bad => rw [eg1] at pp; exact pp.elim
                  | ok e4 =>
                    rw [eg1] at pp
                    intro σ3 hl3 hk3 st6 sr6
                    have hw3 : wipe σ3 vs1 = wipe σ2 vs1 := by
                      rw [wipe_eq (vs := vs1) (wipe σ2 vs1) σ3 hl3 fun j hjv => hk3 j fun z => hjv (hj1 j z)]
                      exact wipe_wipe σ2
                    refine ⟨hw3, ?_⟩
                    have stD := st5.trans st6
                    have noD : ¬ OwnA σ3 e4 D := fun z => (st6.ow D z).elim kno fun z => nw_lst d51 z
                    simp only [lift_ok, R.bind_ok] at pp
                    refine ⟨H05, e4, sr6, ?_⟩
                    cases et1 : tst1 e4 with
                    | exc n => rw [et1] at pp; exact pp.elim
                    | bad => rw [et1] at pp; exact pp.elim
                    | ok q =>
                      obtain ⟨b1, e5⟩ := q
                      rw [et1] at pp
                      intro H0d Hd std srd
                      have stE := stD.trans std
                      have dd1 : Hd D = some (.lst acc') := std.fm.fr D _ d51 noD fun _ z => by cases z
                      have dd2 : H0d D = none := std.fm.nw D (nw_lst d51) noD d52
                      have noE : ¬ OwnA σ3 e5 D := fun z => (std.ow D z).elim noD fun z => nw_lst d51 z
                      simp only [lift_ok, R.bind_ok] at pp
                      cases b1 with
                      | false =>
                        rw [if_neg Bool.false_ne_true]
                        rw [if_neg Bool.false_ne_true] at pp
                        have sw := sr_wipe (vs := vs1) srd
                        have stw := stp_wipe2 (vs := vs1) stE iov1
                        rw [hw3] at sw stw
                        exact ⟨hlt1, H0d, wipeE e5 vs1, acc', ys', dd1, dd2, ka.mono (f5.ex.trans std.fm.ex), by omega, sw, fun z => noE (own_wipe (vs := vs1) (by rw [hw3]; exact z)), kex.trans (f5.ex.trans std.fm.ex), stw, pp⟩
                      | true =>
                        rw [if_pos rfl]
                        rw [if_pos rfl] at pp
                        refine ⟨H0d, e5, srd, ?_⟩
                        cases ee : el e5 with
                        | exc n => rw [ee] at pp; exact pp.elim
                        | bad => rw [ee] at pp; exact pp.elim
                        | ok q =>
                          obtain ⟨y, e6⟩ := q
                          rw [ee] at pp
                          intro H0f Hf yv stf srf ry
                          have stF := stE.trans stf
                          have df1 : Hf D = some (.lst acc') := stf.fm.fr D _ dd1 noE fun _ z => by cases z
                          have df2 : H0f D = none := stf.fm.nw D (nw_lst dd1) noE dd2
                          have noF : ¬ OwnA σ3 e6 D := fun z => (stf.ow D z).elim noE fun z => nw_lst dd1 z
                          refine ⟨acc', df1, Nat.lt_of_le_of_lt (Nat.le_of_eq ka.length) (sz_lt (by omega)), hlt1, H0f, wipeE e6 vs1, acc' ++ [yv], ys' ++ [y], upd_same, df2, (ka.mono ((f5.ex.trans std.fm.ex).trans stf.fm.ex)).append (.cons ry .nil), by rw [List.length_append]; exact Nat.succ_le_succ hyl, ?_, ?_, ?_, ?_, ?_⟩
                          · have sw := sr_wipe (vs := vs1) (srf.side (o := .lst (acc' ++ [yv])) df2 (.inr ⟨_, df1⟩) noF)
                            rw [hw3] at sw
                            exact sw
                          · exact fun z => noF (own_wipe (vs := vs1) (by rw [hw3]; exact z))
                          · exact kex.trans ((f5.ex.trans std.fm.ex).trans stf.fm.ex)
                          · have stw := (stp_wipe2 (vs := vs1) stF iov1).side (p := D) (o := .lst (acc' ++ [yv])) hD
                            rw [hw3] at stw
                            exact stw
                          · revert pp
                            simp only [lift_ok, R.bind_ok]
                            cases lcLoop [] (wipeE e3 vs1) vs1 g1 tst1 el (xs1.drop (j + 1)) (wipeE e6 vs1) with
                            | ok r =>
                              simp only [R.bind_ok]
                              cases lcLoop2 vs g tst it1 vs1 g1 tst1 el (xs.drop (i + 1)) (wipeE r.2 vs) with
                              | ok t =>
                                intro pp
                                have pp : Post C (NewL C.K σ H) H0 H σ en Q (.ok (ys' ++ ((y :: r.1) ++ t.1), restE en1 t.2 vs)) := pp
                                rw [List.cons_append, List.append_cons] at pp
                                exact pp
                              | exc n => exact fun pp => pp
                              | bad => exact fun pp => pp
                            | exc n => exact fun pp => pp
                            | bad => exact fun pp => pp
theorem dn_lc2 {elt tg iter tg1 iter1 : Expr} {ifs ifs1 : List Expr} {scope : Scope} {own : List (Str × Nat)} {pos : Pos} {it it1 : Sem' Its'} {js js1 : List Nat} {g g1 : PyData → En → R En} {tst tst1 : Sem' Bool} {el : Sem' PyData} (hc : X.calm = true) (hN : X.N.Nodup) (hi : PI X tg iter (tI C it)) (ok : BlkOk X.N X.env.scope scope own) (hv : ∀ i ∈ vs1, i ∈ own.map (·.2))
    (hg : ∀ (s : Shared) (H : Hp) (a : Addr) (cl : List (Str × Addr)) (fp : List Addr), PG (X.blk s H scope (compEnvC scope cl a X.env) fp) tg (gD C.non js g)) (ht : ∀ (s : Shared) (H : Hp) (a : Addr) (cl : List (Str × Addr)) (fp : List Addr), PTs (X.blk s H scope (compEnvC scope cl a X.env) fp) ifs (tT C.non tst))
    (hi1 : ∀ (s : Shared) (H : Hp) (a : Addr) (cl : List (Str × Addr)) (fp : List Addr), PI (X.blk s H scope (compEnvC scope cl a X.env) fp) tg1 iter1 (tI C.non it1))
    (hg1 : ∀ (s : Shared) (H : Hp) (a : Addr) (cl : List (Str × Addr)) (fp : List Addr), PG (X.blk s H scope (compEnvC scope cl a X.env) fp) tg1 (gD C.non js1 g1)) (ht1 : ∀ (s : Shared) (H : Hp) (a : Addr) (cl : List (Str × Addr)) (fp : List Addr), PTs (X.blk s H scope (compEnvC scope cl a X.env) fp) ifs1 (tT C.non tst1))
    (he : ∀ (s : Shared) (H : Hp) (a : Addr) (cl : List (Str × Addr)) (fp : List Addr), PE (X.blk s H scope (compEnvC scope cl a X.env) fp) elt (tE C.non el)) (hj : ∀ j ∈ js, j ∈ own.map (·.2)) (hj1 : ∀ j ∈ js1, j ∈ vs1) (hs : ∀ x, foldedSetIterable iter X.env x = pure x := by intro _; rfl) (hs1 : ∀ env x, foldedSetIterable iter1 env x = pure x := by intro _ _; rfl) :
    PE X (.ListComp elt [⟨tg, iter, ifs, 0⟩, ⟨tg1, iter1, ifs1, 0⟩] scope pos) (tN C (dLc2 it (own.map (·.2)) g tst it1 vs1 g1 tst1 el)) := (pe_lc2 hc hN hi ok hv hg ht hi1 hg1 ht1 he hs hs1).imp (lc2_tn hj hj1 hv)
end

/-! ### told without slots -/
def lcP2 (f : PyData → R (List PyData)) : List PyData → R (List PyData)
  | [] => .ok []
  | x :: xs => lift (f x) >>= fun ys => lcP2 f xs >>= fun r => .ok (ys ++ r)
/-- a comprehension of two sources: f what an item of the first gives -/
def lcR2 (f : PyData → R (List PyData)) (xs : List PyData) : R (List PyData) := if xs.length ≤ 5000 then lcP2 f xs else .bad
/-- the inner one -/
def lc20 (f : PyData → R (Option PyData)) (xs : List PyData) : R (List PyData) := if xs.length ≤ 20 then lcP f xs else .bad
def LcS2 (g : PyData → En → R En) (tst : Sem' Bool) (it1 : Sem' Its') (vs1 : List Nat) (g1 : PyData → En → R En) (tst1 : Sem' Bool) (el : Sem' PyData) (vs : List Nat) (w : En) (x : PyData) (f : R (List PyData)) : Prop :=
  (lift (g x w) >>= fun e1 => lift (tst e1) >>= fun p => if p.1 = true then lift (it1 p.2) >>= fun q => if q.1.2.isEmpty = true ∧ q.1.1.length ≤ 20 then lcLoop [] (wipeE q.2 vs1) vs1 g1 tst1 el q.1.1 (wipeE q.2 vs1) >>= fun r => R.ok (r.1, wipeE r.2 vs) else .bad else R.ok ([], wipeE p.2 vs)) = lift f >>= fun ys => R.ok (ys, w)
section
variable {it it1 : Sem' Its'} {vs ws vs1 : List Nat} {g g1 : PyData → En → R En} {tst tst1 : Sem' Bool} {el : Sem' PyData} {w e e1 e2 : En}
theorem lcLoop2_eq (f : PyData → R (List PyData)) (h : ∀ x, LcS2 g tst it1 vs1 g1 tst1 el vs w x (f x)) : ∀ xs : List PyData, lcLoop2 vs g tst it1 vs1 g1 tst1 el xs w = lcP2 f xs >>= fun ys => R.ok (ys, w)
  | [] => rfl
  | x :: xs => by
    unfold lcLoop2 lcP2
    have e : (lift (g x w) >>= fun e1 => lift (tst e1) >>= fun p => if p.1 = true then lift (it1 p.2) >>= fun q => if q.1.2.isEmpty = true ∧ q.1.1.length ≤ 20 then lcLoop [] (wipeE q.2 vs1) vs1 g1 tst1 el q.1.1 (wipeE q.2 vs1) >>= fun r => lcLoop2 vs g tst it1 vs1 g1 tst1 el xs (wipeE r.2 vs) >>= fun t => R.ok (r.1 ++ t.1, t.2) else .bad else lcLoop2 vs g tst it1 vs1 g1 tst1 el xs (wipeE p.2 vs)) =
        (lift (g x w) >>= fun e1 => lift (tst e1) >>= fun p => if p.1 = true then lift (it1 p.2) >>= fun q => if q.1.2.isEmpty = true ∧ q.1.1.length ≤ 20 then lcLoop [] (wipeE q.2 vs1) vs1 g1 tst1 el q.1.1 (wipeE q.2 vs1) >>= fun r => R.ok (r.1, wipeE r.2 vs) else .bad else R.ok ([], wipeE p.2 vs)) >>= fun (o : List PyData × En) => lcLoop2 vs g tst it1 vs1 g1 tst1 el xs o.2 >>= fun t => R.ok (o.1 ++ t.1, t.2) := by
      rw [R.assoc]
      refine R.congr fun e1 => ?_
      rw [R.assoc]
      refine R.congr fun p => ?_
      cases p.1 with
      | true =>
        simp only [if_true]
        rw [R.assoc]
        refine R.congr fun q => ?_
        split
        · rw [R.assoc]
          rfl
        · rfl
      | false =>
        simp only [Bool.false_eq_true, if_false]
        exact (R.right _).symm
    have hx : _ = lift (f x) >>= fun ys => R.ok (ys, w) := h x
    rw [e, hx, R.assoc, R.assoc]
    refine R.congr fun o => ?_
    show (lcLoop2 vs g tst it1 vs1 g1 tst1 el xs w >>= _) = _
    rw [lcLoop2_eq f h xs, R.assoc, R.assoc]
    rfl
theorem xv_dLc2 {X : R (List PyData)} (f : PyData → R (List PyData)) (hi : Ei it e X e1 []) (hfr : freeOf e1 vs = true) (hw : wipeE e1 vs = w) (hr : restE e1 w vs = e2) (h : ∀ x, LcS2 g tst it1 vs1 g1 tst1 el vs w x (f x)) :
    Xv (dLc2 it vs g tst it1 vs1 g1 tst1 el) e (X >>= fun xs => lcR2 f xs) e2 := by
  unfold Xv dLc2
  rw [show it e = _ from hi, R.assoc, R.assoc]
  refine R.congr fun xs => ?_
  simp only [R.bind_ok, hfr, List.isEmpty_nil, and_true, true_and, hw]
  unfold lcR2
  by_cases hl : xs.length ≤ 5000
  · simp only [hl, if_true]
    rw [lcLoop2_eq f h, R.assoc, R.congr fun ys => ?_]
    simp only [R.bind_ok, hr]
  · simp only [hl, if_false]
    rfl
theorem lift_lcP (f : PyData → R (Option PyData)) : ∀ xs, lift (lcP f xs) = lcP f xs
  | [] => rfl
  | x :: xs => by
    unfold lcP
    rw [lift_bind, lift_lift]
    refine R.congr fun o => ?_
    rw [lift_bind, lift_lcP f xs]
    rfl
theorem lift_lc20 (f : PyData → R (Option PyData)) (xs : List PyData) : lift (lc20 f xs) = lc20 f xs := by
  unfold lc20
  split
  · exact lift_lcP f xs
  · rfl
theorem xlc2_step {x : PyData} {τ : Type} {m : (β : Type) → (τ → R β) → R β} {e' w1 : τ → En} {t : τ → R Bool} {X1 : τ → R (List PyData)} {f1 : τ → PyData → R (Option PyData)} (hg : Eg g x w τ m e') (ht : ∀ v, Xv tst (e' v) (t v) (e' v)) (hi1 : ∀ v, Ei it1 (e' v) (X1 v) (e' v) []) (hw1 : ∀ v, wipeE (e' v) vs1 = w1 v)
    (hin : ∀ v x1, LcS g1 tst1 el vs1 (w1 v) x1 (f1 v x1)) (hw : ∀ v, wipeE (w1 v) vs = w) (hwn : ∀ v, wipeE (e' v) vs = w) :
    LcS2 g tst it1 vs1 g1 tst1 el vs w x (m (List PyData) fun v => t v >>= fun b => if b = true then X1 v >>= fun xs1 => lc20 (f1 v) xs1 else .ok []) := by
  unfold LcS2
  obtain ⟨z, h1, h2⟩ := hg.obs fun _ => .bad
  have h1 : lift (g x w) = lift z >>= fun v => R.ok (e' v) := by
    have : lift (g x w) = lift (lift (g x w)) := (lift_lift _).symm
    rw [this, h1, lift_bind]
    rfl
  rw [h1, h2, lift_bind, R.assoc, R.assoc]
  refine R.congr fun v => ?_
  show (lift (tst (e' v)) >>= _) = _
  rw [show tst (e' v) = _ from ht v, lift_bind, lift_bind, R.assoc, R.assoc]
  refine R.congr fun b => ?_
  cases b with
  | false =>
    show R.ok ([], wipeE (e' v) vs) = _
    rw [hwn]
    rfl
  | true =>
    show (lift (it1 (e' v)) >>= _) = (lift (X1 v >>= fun xs1 => lc20 (f1 v) xs1) >>= _)
    rw [show it1 (e' v) = _ from hi1 v, lift_bind, lift_bind, R.assoc, R.assoc]
    refine R.congr fun xs1 => ?_
    rw [lift_lc20]
    simp only [R.bind_ok, lift_ok, List.isEmpty_nil, true_and, hw1]
    unfold lc20
    by_cases hl : xs1.length ≤ 20
    · simp only [hl, if_true]
      rw [lcLoop_eq (f1 v) (hin v), R.assoc]
      refine R.congr fun ys => ?_
      simp only [R.bind_ok, hw]
    · simp only [hl, if_false]
      rfl
theorem xlc2_step1 {x : PyData} {τ : Type} {m : (β : Type) → (τ → R β) → R β} {e' w1 : τ → En} {X1 : τ → R (List PyData)} {f1 : τ → PyData → R (Option PyData)} (hg : Eg g x w τ m e') (hi1 : ∀ v, Ei it1 (e' v) (X1 v) (e' v) []) (hw1 : ∀ v, wipeE (e' v) vs1 = w1 v)
    (hin : ∀ v x1, LcS g1 tst1 el vs1 (w1 v) x1 (f1 v x1)) (hw : ∀ v, wipeE (w1 v) vs = w) (hwn : ∀ v, wipeE (e' v) vs = w) :
    LcS2 g dYes it1 vs1 g1 tst1 el vs w x (m (List PyData) fun v => X1 v >>= fun xs1 => lc20 (f1 v) xs1) :=
  xlc2_step (t := fun _ => .ok true) hg (fun v => xv_dYes) hi1 hw1 hin hw hwn
end
end PD
end
section
/-! PX11: sorted of data that are alike. -/
namespace PD
open PySem PySem.Spec PyProof.Rows L2 Evl
/-- these can be sorted -/
def sortsD (ds : List PyData) : Bool := (nd.ndAll ds && ds.all fun d => match d with
  | .tuple (_ :: _) => true
  | _ => false) && (ds.all fun x => ds.all fun y => PySem.W.alike x y && decide (x.depth ≤ 40))
/-- sorted -/
def srtD (ds : List PyData) : List PyData := ds.mergeSort (PySem.W.dataLe false id)
def pSrt (ds : List PyData) : R (List PyData) := match ds with
  | [.list xs] => match intsD xs with
    | some ns => .ok ((srtI ns).map PyData.int)
    | none => if sortsD xs = true then .ok (srtD xs) else .bad
  | _ => .bad
theorem nx_pSrt : NXA pSrt := fun a => by
  unfold pSrt
  split
  · split
    · rfl
    · split <;> rfl
  · rfl
/-- sorted(xs), xs a list that reads as ds -/
def rSortD (K : PySem.W.Frag) : List V → Hp → VK → Prop := fun vs H Q => ∃ (a : Addr) (xs : List V) (ds : List PyData) (H0 : Hp), vs = [V.ref a] ∧ SqL K H a xs ∧ Ex H0 H ∧ RpAll K H0 xs ds ∧ sortsD ds = true ∧ ∀ ys p, RpAll K H0 ys (srtD ds) → H p = none → Q (.ref p) (upd H p (.lst ys))
theorem sortsD_nd {ds : List PyData} (h : sortsD ds = true) : nd.ndAll ds = true := by
  unfold sortsD at h
  simp only [Bool.and_eq_true] at h
  exact h.1.1
theorem sortsD_tup {ds : List PyData} (h : sortsD ds = true) : ∀ d, d ∈ ds → ∃ x r, d = PyData.tuple (x :: r) := by
  unfold sortsD at h
  simp only [Bool.and_eq_true, List.all_eq_true] at h
  intro d hd
  have := h.1.2 d hd
  split at this
  · exact ⟨_, _, rfl⟩
  · cases this
theorem sortsD_alike {ds : List PyData} (h : sortsD ds = true) : ∀ d, d ∈ ds → (∀ d', d' ∈ ds → PySem.W.alike d d' = true) ∧ d.depth ≤ 40 := by
  unfold sortsD at h
  simp only [Bool.and_eq_true, List.all_eq_true, decide_eq_true_eq] at h
  exact fun d hd => ⟨fun d' hd' => (h.2 d hd d' hd').1, (h.2 d hd d hd).2⟩
section
variable {X : Cx} {K : PySem.W.Frag} {H : Hp}
theorem each_rp : ∀ {xs : List V} {ds : List PyData} {us : List Value}, RpAll K H xs ds → Vals xs us → PySem.W.EachIs (fun v d => ∃ x, RelV x v ∧ Rp K H x d) us ds
  | _, _, _, .nil, .nil => .nil
  | _, _, _, .cons h t, .cons r q => .cons ⟨_, r, h⟩ (each_rp t q)
theorem rp_each : ∀ {ds : List PyData} {us : List Value}, PySem.W.EachIs (fun v d => ∃ x, RelV x v ∧ Rp K H x d) us ds → ∃ xs : List V, Vals xs us ∧ RpAll K H xs ds
  | _, _, .nil => ⟨[], .nil, .nil⟩
  | _, _, .cons ⟨x, r, h⟩ t => by
    obtain ⟨xs, h1, h2⟩ := rp_each t
    exact ⟨x :: xs, .cons r h1, .cons h h2⟩
theorem each_dp {s : Shared} {pins : List (Addr × Obj)} {σ : L2.St} (I : Inv X pins σ H s) : ∀ {xs : List V} {ds : List PyData} {us : List Value}, RpAll X.K H xs ds → nd.ndAll ds = true → Vals xs us → PySem.W.EachIs (fun v d => ∃ as, Reads s.heap v d as) us ds
  | _, _, _, .nil, _, .nil => .nil
  | _, _, _, .cons h t, e, .cons r q => by
    have e : _ := (Bool.and_eq_true _ _).mp (by simpa [nd.ndAll] using e)
    exact .cons (Dp.reads I _ _ _ (h.dp e.1) r) (each_dp I t e.2 q)
theorem cr_sortedD (hu : X.A.units + 65 < cLine) : CallR X (.builtin "sorted") (rSortD X.K) := by
  intro pins s σ H vs us Q I r h
  obtain ⟨a, xs, ds, H0, rfl, hs, ex, rp, hd, q⟩ := h
  obtain ⟨its, rv, hl, hz⟩ := I.list hs
  rw [Vals.ref1 r]
  have hlen : its.length = ds.length := rv.length.symm.trans rp.length
  refine PySem.W.sorted_data (enc := id) (R := fun v d => ∃ x, RelV x v ∧ Rp X.K H0 x d) hl.isList (each_rp rp rv) (each_dp I (rp.mono ex) (sortsD_nd hd) rv) ?_ ?_ ?_ (fun b hb => ?_) fun out h1 h2 => ?_
  · rw [List.map_id]
    exact fun d hd1 d' hd' => (sortsD_alike hd d hd1).1 d' hd'
  · rw [List.map_id]
    exact .inl (sortsD_tup hd)
  · rw [← rp.length]
    exact hz
  · have := (sortsD_alike hd b hb).2
    show X.A.units + 2 + b.depth < cLine
    omega
  · obtain ⟨ys, h3, h4⟩ := rp_each h2
    obtain ⟨ep, he'⟩ := PyProof.Rows.sortedAll_at s.heap its out.toArray
    have hl2 : ys.length ≤ sizeLine := by
      rw [h3.length, h1, ← rp.length]
      exact hz
    exact ⟨.ref _, upd H (s.heap.objs.size + 1) (.lst ys), I.laid (t' := s.toks) (fun _ _ => PyProof.Rows.sortedAll_old) (Nat.le_succ _) ⟨hl2, out, ep, h3, he'⟩, rfl, q _ _ h4 (I.hok.fresh (Nat.le_succ _))⟩
def rSortA (K : PySem.W.Frag) : List V → Hp → VK → Prop := fun vs H Q => rSortedI K vs H Q ∨ rSortD K vs H Q
theorem cr_sortedA (hu : X.A.units + 65 < cLine) : CallR X (.builtin "sorted") (rSortA X.K) := cr_sortedI.or (cr_sortedD hu)
variable {C : Ct}
theorem r_sortedA : RuleCN C (rSortA C.K) pSrt := fun H0 H vs ds es Q g r e o => by
  unfold pSrt at e
  split at e
  · split at e
    · rename_i ns h1
      cases e
      exact .inl (r_sorted H0 H vs _ _ Q g r (by unfold pSorted; simp only; rw [h1]; rfl) o)
    · split at e
      · rename_i hd
        cases e
        obtain ⟨v, rfl, rr⟩ := rpxs1 r
        obtain ⟨a, ws, rfl, h3, h4⟩ := rr.list g.ex
        exact .inr ⟨a, ws, _, H0, rfl, .inl h3, g.ex, h4, hd, fun ys p h5 hp => o p _ _ (Fm.newO hp) (g.newO hp) hp upd_same h5⟩
      · cases e
  · cases e
end
end PD
end
section
/-! PX12: name = [.. for .. for ..]. -/
namespace PD
open PySem PySem.Spec PyProof.Rows L2 Evl
section
variable {C : Ct} {X : Cx} {elt tg iter tg1 iter1 : Expr} {ifs ifs1 : List Expr} {scope : Scope} {own : List (Str × Nat)} {vs1 : List Nat} {i : Nat} {y : Str} {pos py spos : Pos} {it it1 : Sem' Its'} {js js1 : List Nat} {g g1 : PyData → En → R En} {tst tst1 : Sem' Bool} {el : Sem' PyData}
theorem ps_lcD2 (hc : X.calm = true) (hN : X.N.Nodup) (hy : X.N[i]? = some y) (hyl : X.env.scope.names.lookup y = some .local)
    (hsw : swapsWith (.ListComp elt [⟨tg, iter, ifs, 0⟩, ⟨tg1, iter1, ifs1, 0⟩] scope pos) (some (.Name y py)) spos.line X.env = pure true) (hi : PI X tg iter (tI C it)) (ok : BlkOk X.N X.env.scope scope own) (hv : ∀ i ∈ vs1, i ∈ own.map (·.2))
    (hg : ∀ (s : Shared) (H : Hp) (a : Addr) (cl : List (Str × Addr)) (fp : List Addr), PG (X.blk s H scope (compEnvC scope cl a X.env) fp) tg (gD C.non js g)) (ht : ∀ (s : Shared) (H : Hp) (a : Addr) (cl : List (Str × Addr)) (fp : List Addr), PTs (X.blk s H scope (compEnvC scope cl a X.env) fp) ifs (tT C.non tst))
    (hi1 : ∀ (s : Shared) (H : Hp) (a : Addr) (cl : List (Str × Addr)) (fp : List Addr), PI (X.blk s H scope (compEnvC scope cl a X.env) fp) tg1 iter1 (tI C.non it1))
    (hg1 : ∀ (s : Shared) (H : Hp) (a : Addr) (cl : List (Str × Addr)) (fp : List Addr), PG (X.blk s H scope (compEnvC scope cl a X.env) fp) tg1 (gD C.non js1 g1)) (ht1 : ∀ (s : Shared) (H : Hp) (a : Addr) (cl : List (Str × Addr)) (fp : List Addr), PTs (X.blk s H scope (compEnvC scope cl a X.env) fp) ifs1 (tT C.non tst1))
    (he : ∀ (s : Shared) (H : Hp) (a : Addr) (cl : List (Str × Addr)) (fp : List Addr), PE (X.blk s H scope (compEnvC scope cl a X.env) fp) elt (tE C.non el)) (hj : ∀ j ∈ js, j ∈ own.map (·.2)) (hj1 : ∀ j ∈ js1, j ∈ vs1) (hs : ∀ x, foldedSetIterable iter X.env x = pure x := by intro _; rfl) (hs1 : ∀ env x, foldedSetIterable iter1 env x = pure x := by intro _ _; rfl) :
    PS X (.Assign [.Name y py] (.ListComp elt [⟨tg, iter, ifs, 0⟩, ⟨tg1, iter1, ifs1, 0⟩] scope pos) spos) (tAsg (tN C (dLc2 it (own.map (·.2)) g tst it1 vs1 g1 tst1 el)) (gName i)) :=
  (ps_setLc2 hc hN hy hyl hsw hi ok hv hg ht hi1 hg1 ht1 he hs hs1).imp fun D σ H h => tN_mono (lc2_tn hj hj1 hv) σ H h
theorem ds_setLc2 (hc : X.calm = true) (hN : X.N.Nodup) (hy : X.N[i]? = some y) (hyl : X.env.scope.names.lookup y = some .local)
    (hsw : swapsWith (.ListComp elt [⟨tg, iter, ifs, 0⟩, ⟨tg1, iter1, ifs1, 0⟩] scope pos) (some (.Name y py)) spos.line X.env = pure true) (hi : PI X tg iter (tI C it)) (ok : BlkOk X.N X.env.scope scope own) (hv : ∀ i ∈ vs1, i ∈ own.map (·.2))
    (hg : ∀ (s : Shared) (H : Hp) (a : Addr) (cl : List (Str × Addr)) (fp : List Addr), PG (X.blk s H scope (compEnvC scope cl a X.env) fp) tg (gD C.non js g)) (ht : ∀ (s : Shared) (H : Hp) (a : Addr) (cl : List (Str × Addr)) (fp : List Addr), PTs (X.blk s H scope (compEnvC scope cl a X.env) fp) ifs (tT C.non tst))
    (hi1 : ∀ (s : Shared) (H : Hp) (a : Addr) (cl : List (Str × Addr)) (fp : List Addr), PI (X.blk s H scope (compEnvC scope cl a X.env) fp) tg1 iter1 (tI C.non it1))
    (hg1 : ∀ (s : Shared) (H : Hp) (a : Addr) (cl : List (Str × Addr)) (fp : List Addr), PG (X.blk s H scope (compEnvC scope cl a X.env) fp) tg1 (gD C.non js1 g1)) (ht1 : ∀ (s : Shared) (H : Hp) (a : Addr) (cl : List (Str × Addr)) (fp : List Addr), PTs (X.blk s H scope (compEnvC scope cl a X.env) fp) ifs1 (tT C.non tst1))
    (he : ∀ (s : Shared) (H : Hp) (a : Addr) (cl : List (Str × Addr)) (fp : List Addr), PE (X.blk s H scope (compEnvC scope cl a X.env) fp) elt (tE C.non el)) (hj : ∀ j ∈ js, j ∈ own.map (·.2)) (hj1 : ∀ j ∈ js1, j ∈ vs1) (hs : ∀ x, foldedSetIterable iter X.env x = pure x := by intro _; rfl) (hs1 : ∀ env x, foldedSetIterable iter1 env x = pure x := by intro _ _; rfl) :
    PS X (.Assign [.Name y py] (.ListComp elt [⟨tg, iter, ifs, 0⟩, ⟨tg1, iter1, ifs1, 0⟩] scope pos) spos) (tS C (sAsg (dFrz (dLc2 it (own.map (·.2)) g tst it1 vs1 g1 tst1 el)) (tgN i))) :=
  (ps_lcD2 hc hN hy hyl hsw hi ok hv hg ht hi1 hg1 ht1 he hj hj1 hs hs1).imp fun D σ H ⟨H0, en, s, p⟩ => frz_tn σ H _ (setN_go s p)
theorem ds_ownLc2 (hc : X.calm = true) (hN : X.N.Nodup) (hy : X.N[i]? = some y) (hyl : X.env.scope.names.lookup y = some .local)
    (hsw : swapsWith (.ListComp elt [⟨tg, iter, ifs, 0⟩, ⟨tg1, iter1, ifs1, 0⟩] scope pos) (some (.Name y py)) spos.line X.env = pure true) (hi : PI X tg iter (tI C it)) (ok : BlkOk X.N X.env.scope scope own) (hv : ∀ i ∈ vs1, i ∈ own.map (·.2))
    (hg : ∀ (s : Shared) (H : Hp) (a : Addr) (cl : List (Str × Addr)) (fp : List Addr), PG (X.blk s H scope (compEnvC scope cl a X.env) fp) tg (gD C.non js g)) (ht : ∀ (s : Shared) (H : Hp) (a : Addr) (cl : List (Str × Addr)) (fp : List Addr), PTs (X.blk s H scope (compEnvC scope cl a X.env) fp) ifs (tT C.non tst))
    (hi1 : ∀ (s : Shared) (H : Hp) (a : Addr) (cl : List (Str × Addr)) (fp : List Addr), PI (X.blk s H scope (compEnvC scope cl a X.env) fp) tg1 iter1 (tI C.non it1))
    (hg1 : ∀ (s : Shared) (H : Hp) (a : Addr) (cl : List (Str × Addr)) (fp : List Addr), PG (X.blk s H scope (compEnvC scope cl a X.env) fp) tg1 (gD C.non js1 g1)) (ht1 : ∀ (s : Shared) (H : Hp) (a : Addr) (cl : List (Str × Addr)) (fp : List Addr), PTs (X.blk s H scope (compEnvC scope cl a X.env) fp) ifs1 (tT C.non tst1))
    (he : ∀ (s : Shared) (H : Hp) (a : Addr) (cl : List (Str × Addr)) (fp : List Addr), PE (X.blk s H scope (compEnvC scope cl a X.env) fp) elt (tE C.non el)) (hj : ∀ j ∈ js, j ∈ own.map (·.2)) (hj1 : ∀ j ∈ js1, j ∈ vs1) (hs : ∀ x, foldedSetIterable iter X.env x = pure x := by intro _; rfl) (hs1 : ∀ env x, foldedSetIterable iter1 env x = pure x := by intro _ _; rfl) :
    PS X (.Assign [.Name y py] (.ListComp elt [⟨tg, iter, ifs, 0⟩, ⟨tg1, iter1, ifs1, 0⟩] scope pos) spos) (tS C (sOwn (dLc2 it (own.map (·.2)) g tst it1 vs1 g1 tst1 el) i)) :=
  (ps_lcD2 hc hN hy hyl hsw hi ok hv hg ht hi1 hg1 ht1 he hj hj1 hs hs1).imp fun D σ H ⟨H0, en, s, p⟩ => own_go s p
end
/-! ### dead slots forgotten behind an if that leaves -/
section
variable {σ' γ : Type} {S T A : SemS} {e e1 e2 : En} {κ : γ → RS} {mA mT : R γ}
theorem js_ifxk {t : Sem' Bool} {x : R Bool} (is : List Nat) (nA : Nn A) (ht : Xv t e x e1) (h1 : Js A e1 mA κ) (hc : clrRS is (.next e1) = .next e2) (h2 : Js T e2 mT κ) : Js (sSeq (sIf t A (sClr is sNext)) T) e (x >>= fun b => if b = true then mA else mT) κ := by
  refine js_ifxe nA ht h1 ?_
  unfold Js at h2 ⊢
  show nrm (sThen (clrRS is (.next e1)) T) = _
  rw [hc]
  exact h2
theorem js_ifxkS {E : σ' → En} {E2 : σ' → En} {s : σ'} {T' : Sem' Bool} {t : σ' → R (Bool × σ')} {mA mT : σ' → R γ} (is : List Nat) (nA : Nn A) (ht : Es T' E t) (h1 : ∀ s, Js A (E s) (mA s) κ) (hc : ∀ s, clrRS is (.next (E s)) = .next (E2 s)) (h2 : ∀ s, Js S (E2 s) (mT s) κ) : Js (sSeq (sIf T' A (sClr is sNext)) S) (E s) (t s >>= fun p => if p.1 = true then mA p.2 else mT p.2) κ := by
  unfold Js sSeq sIf
  rw [ht s]
  cases t s <;> first | rfl | skip
  rename_i p
  obtain ⟨b, s'⟩ := p
  cases b
  · show nrm (sThen (clrRS is (.next (E s'))) S) = _
    rw [hc]
    exact h2 s'
  · show nrm (sThen (A (E s')) S) = _
    rw [then_nn nA]
    exact h1 s'
end
end PD
end
section
/-! PM: P texts told as plain lists. -/
namespace PD
open PySem PySem.Spec Evl L2
/-- not by rfl: else the kernel unfolds what stands behind -/
theorem bok {α β : Type} (a : α) (f : α → R β) : (R.ok a >>= f) = f a := by
  have h : ∀ x : R α, x = .ok a → (x >>= f) = f a := fun x e => by
    rw [e]
    exact R.bind_ok a f
  exact h _ rfl
section
variable {α β σ ρ τ : Type}
theorem lcR_map {f : PyData → R (Option PyData)} (q : α → PyData) (g : α → PyData) {xs : List α} (hl : xs.length ≤ 100000) (h : ∀ x ∈ xs, f (q x) = .ok (some (g x))) : lcR f (xs.map q) = .ok (xs.map g) := by
  unfold lcR
  rw [List.length_map, if_pos hl]
  clear hl
  induction xs with
  | nil => rfl
  | cons x xs ih =>
    rw [List.map_cons]
    unfold lcP
    rw [h x List.mem_cons_self, lift_ok, R.bind_ok, ih fun y hy => h y (List.mem_cons_of_mem _ hy)]
    rfl
theorem lcR_filter {f : PyData → R (Option PyData)} (q : α → PyData) (p : α → Bool) (g : α → PyData) {xs : List α} (hl : xs.length ≤ 100000) (h : ∀ x ∈ xs, f (q x) = .ok (if p x = true then some (g x) else none)) : lcR f (xs.map q) = .ok ((xs.filter p).map g) := by
  unfold lcR
  rw [List.length_map, if_pos hl]
  clear hl
  induction xs with
  | nil => rfl
  | cons x xs ih =>
    rw [List.map_cons]
    unfold lcP
    rw [h x List.mem_cons_self, lift_ok, R.bind_ok, ih fun y hy => h y (List.mem_cons_of_mem _ hy), List.filter_cons]
    cases p x <;> rfl
theorem lc20_map {f : PyData → R (Option PyData)} (q : α → PyData) (g : α → PyData) {xs : List α} (hl : xs.length ≤ 20) (h : ∀ x ∈ xs, f (q x) = .ok (some (g x))) : lc20 f (xs.map q) = .ok (xs.map g) := by
  have e := lcR_map (f := f) q g (xs := xs) (by omega) h
  unfold lcR at e
  unfold lc20
  rw [List.length_map] at e ⊢
  rw [if_pos (by omega)] at e
  rw [if_pos hl]
  exact e
theorem lcR2_flat {f : PyData → R (List PyData)} (q : α → PyData) (r : β → PyData) (g : α → List β) {xs : List α} (hl : xs.length ≤ 5000) (h : ∀ x ∈ xs, f (q x) = .ok ((g x).map r)) : lcR2 f (xs.map q) = .ok ((xs.flatMap g).map r) := by
  unfold lcR2
  rw [List.length_map, if_pos hl]
  clear hl
  induction xs with
  | nil => rfl
  | cons x xs ih =>
    rw [List.map_cons]
    unfold lcP2
    rw [h x List.mem_cons_self, lift_ok, R.bind_ok, ih fun y hy => h y (List.mem_cons_of_mem _ hy), List.flatMap_cons, List.map_append]
    rfl
theorem forP_fold {step : PyData → σ → R σ} (q : α → PyData) (E : τ → σ) (F : τ → α → τ) : ∀ {xs : List α} (t : τ), (∀ x ∈ xs, ∀ t, step (q x) (E t) = .ok (E (F t x))) → forP step (xs.map q) (E t) = .ok (E (xs.foldl F t))
  | [], t, _ => rfl
  | x :: xs, t, h => by
    rw [List.map_cons]
    unfold forP
    rw [h x List.mem_cons_self, R.bind_ok, forP_fold q E F (F t x) fun y hy => h y (List.mem_cons_of_mem _ hy)]
    rfl
theorem forP_inv {step : PyData → σ → R σ} (P : Nat → σ → Prop) {xs : List PyData} (h : ∀ (i : Nat) (x : PyData), xs[i]? = some x → ∀ s, P i s → ∃ s', step x s = .ok s' ∧ P (i + 1) s') (s : σ) (hs : P 0 s) : ∃ s', forP step xs s = .ok s' ∧ P xs.length s' := by
  induction xs generalizing s P with
  | nil => exact ⟨s, rfl, hs⟩
  | cons x xs ih =>
    obtain ⟨s', h1, h2⟩ := h 0 x rfl s hs
    obtain ⟨s2, h3, h4⟩ := ih (fun i => P (i + 1)) (fun i y hy => h (i + 1) y (by simpa using hy)) s' h2
    refine ⟨s2, ?_, h4⟩
    unfold forP
    rw [h1, R.bind_ok, h3]
/-- the law's turns: every one goes on -/
theorem forC_inv {step : PyData → σ → R (Ctl σ ρ)} (P : σ → Prop) {xs : List PyData} (h : ∀ x ∈ xs, ∀ s, P s → ∃ s', step x s = .ok (.nx s') ∧ P s') (s : σ) (hs : P s) : ∃ s', forC step xs s = .ok (.nx s') ∧ P s' := by
  induction xs generalizing s with
  | nil => exact ⟨s, rfl, hs⟩
  | cons x xs ih =>
    obtain ⟨s', h1, h2⟩ := h x List.mem_cons_self s hs
    obtain ⟨s2, h3, h4⟩ := ih (fun y hy => h y (List.mem_cons_of_mem _ hy)) s' h2
    refine ⟨s2, ?_, h4⟩
    unfold forC
    rw [h1, R.bind_ok]
    exact h3
/-- a while that counts up -/
theorem whP_up {t : σ → R Bool} {b : σ → R σ} (E : Nat → σ) {m : Nat} : ∀ (k n : Nat), (∀ i, k ≤ i → i < k + n → t (E i) = .ok true ∧ b (E i) = .ok (E (i + 1))) → t (E (k + n)) = .ok false → n < m → whP t b m (E k) = .ok (E (k + n)) := by
  induction m with
  | zero => intro k n _ _ hm; omega
  | succ m ih =>
    intro k n h1 h2 hm
    unfold whP
    cases n with
    | zero =>
      rw [Nat.add_zero] at h2
      rw [h2, R.bind_ok, if_neg Bool.false_ne_true]
      rfl
    | succ n =>
      obtain ⟨h3, h4⟩ := h1 k (Nat.le_refl _) (by omega)
      rw [h3, R.bind_ok, if_pos rfl, h4, R.bind_ok, ih (k + 1) n (fun i h5 h6 => h1 i (by omega) (by omega)) (by rw [← h2]; congr 2; omega) (by omega)]
      congr 2
      omega
theorem lcS_inv {f : PyData → σ → R (Option PyData × σ)} (P : σ → Prop) (q : α → PyData) (g : α → PyData) {xs : List α} (hl : xs.length ≤ 100000) (h : ∀ x ∈ xs, ∀ s, P s → ∃ b s', f (q x) s = .ok (if b = true then some (g x) else none, s') ∧ P s') (s : σ) (hs : P s) :
    ∃ (ys : List α) (s' : σ), lcS f (xs.map q) s = .ok (ys.map g, s') ∧ P s' ∧ ys.Sublist xs := by
  unfold lcS
  rw [List.length_map, if_pos hl]
  clear hl
  induction xs generalizing s with
  | nil => exact ⟨[], s, rfl, hs, .slnil⟩
  | cons x xs ih =>
    obtain ⟨b, s1, h1, h2⟩ := h x List.mem_cons_self s hs
    obtain ⟨ys, s2, h3, h4, h5⟩ := ih (fun y hy => h y (List.mem_cons_of_mem _ hy)) s1 h2
    cases b with
    | true =>
      refine ⟨x :: ys, s2, ?_, h4, h5.cons_cons x⟩
      rw [List.map_cons]
      unfold lcSP
      rw [h1, if_pos rfl, lift_ok, R.bind_ok, h3]
      rfl
    | false =>
      refine ⟨ys, s2, ?_, h4, h5.cons x⟩
      rw [List.map_cons]
      unfold lcSP
      rw [h1, if_neg Bool.false_ne_true, lift_ok, R.bind_ok, h3]
      rfl
end
/-! ### single steps -/
abbrev pI (n : Int) : PyData := .int n
abbrev tI' (ns : List Int) : PyData := .tuple (ns.map PyData.int)
abbrev lI' (ns : List Int) : PyData := .list (ns.map PyData.int)
@[simp] theorem seqOf_list (ds : List PyData) : seqOf (.list ds) = .ok ds := rfl
@[simp] theorem seqOf_tuple (ds : List PyData) : seqOf (.tuple ds) = .ok ds := rfl
@[simp] theorem un2_pair (a b : PyData) : un2 (.tuple [a, b]) = .ok (a, b) := rfl
@[simp] theorem pLen_list (ds : List PyData) : pLen [.list ds] = .ok (.int ds.length) := rfl
@[simp] theorem pLen_tuple (ds : List PyData) : pLen [.tuple ds] = .ok (.int ds.length) := rfl
@[simp] theorem pGt_int (a b : Int) : pGt (.int a) (.int b) = .ok (.bool (decide (b < a))) := rfl
@[simp] theorem pLt_int (a b : Int) : pLt (.int a) (.int b) = .ok (.bool (decide (a < b))) := rfl
@[simp] theorem pLe_int (a b : Int) : pLe (.int a) (.int b) = .ok (.bool (decide (a ≤ b))) := rfl
@[simp] theorem pGe_int (a b : Int) : pGe (.int a) (.int b) = .ok (.bool (decide (b ≤ a))) := rfl
@[simp] theorem pAddA_int (a b : Int) : pAddA (.int a) (.int b) = .ok (.int (a + b)) := rfl
@[simp] theorem pAdd_int (a b : Int) : pAdd (.int a) (.int b) = .ok (.int (a + b)) := rfl
@[simp] theorem pSub_int (a b : Int) : pSub (.int a) (.int b) = .ok (.int (a - b)) := rfl
@[simp] theorem pNeg_int (a : Int) : pNeg (.int a) = .ok (.int (-a)) := rfl
theorem pAddA_list {a b : List PyData} (h : a.length + b.length ≤ 100000) : pAddA (.list a) (.list b) = .ok (.list (a ++ b)) := if_pos h
theorem pAddA_tuple {a b : List PyData} (h : a.length + b.length ≤ 100000) : pAddA (.tuple a) (.tuple b) = .ok (.tuple (a ++ b)) := if_pos h
theorem pCat_list {a b : List PyData} (h : a.length + b.length ≤ 100000) : pCat (.list a) (.list b) = .ok (a ++ b) := if_pos h
theorem appP_ok {ds : List PyData} (v : PyData) (h : ds.length < 100000) : appP ds v = .ok (ds ++ [v]) := if_pos h
theorem pSum_ints (ns : List Int) : pSum [lI' ns] = .ok (.int ns.sum) := by
  show (R.get (intsD (ns.map PyData.int)) >>= fun ns => R.ok (PyData.int ns.sum)) = _
  rw [intsD_map]
  rfl
theorem pAll_bools (bs : List Bool) : pAll [.list (bs.map PyData.bool)] = .ok (.bool (bs.all id)) := by
  show (R.get (boolsD (bs.map PyData.bool)) >>= fun bs => R.ok (PyData.bool (bs.all id))) = _
  rw [boolsD_map]
  rfl
theorem pAny_bools (bs : List Bool) : pAny [.list (bs.map PyData.bool)] = .ok (.bool (bs.any id)) := by
  show (R.get (boolsD (bs.map PyData.bool)) >>= fun bs => R.ok (PyData.bool (bs.any id))) = _
  rw [boolsD_map]
  rfl
/-- 0 .. n - 1 -/
def rgI (n : Nat) : List Int := (List.range n).map fun (k : Nat) => (k : Int)
theorem rng1_ok {n : Nat} (h : n < 4611686018427387904) : rng1 [.int (n : Int)] = .ok ((rgI n).map PyData.int) := by
  show in62 (n : Int) (R.ok (numsFrom 0 (n : Int).toNat)) = _
  unfold in62
  rw [if_pos (by omega)]
  unfold numsFrom rgI
  rw [Int.toNat_natCast, List.map_map]
  refine congrArg R.ok (List.map_congr_left fun k _ => ?_)
  show PyData.int (0 + (k : Int)) = .int (k : Int)
  rw [Int.zero_add]
theorem mem_rgI {n : Nat} {x : Int} : x ∈ rgI n ↔ 0 ≤ x ∧ x < n := by
  unfold rgI
  rw [List.mem_map]
  constructor
  · rintro ⟨k, hk, rfl⟩
    have := List.mem_range.mp hk
    omega
  · rintro ⟨h1, h2⟩
    exact ⟨x.toNat, List.mem_range.mpr (by omega), by omega⟩
theorem length_rgI (n : Nat) : (rgI n).length = n := by unfold rgI; rw [List.length_map, List.length_range]
/-! ### the best of some, the first of several -/
def stepB {α : Type} (f : α → Int) (o : Option (Int × α)) (x : α) : Option (Int × α) := match o with
  | none => some (f x, x)
  | some b => if b.1 < f x then some (f x, x) else some b
theorem best_go {α : Type} (f : α → Int) : ∀ (xs : List α) (l0 : α), ∃ m l, xs.foldl (stepB f) (some (f l0, l0)) = some (m, l) ∧ f l = m ∧ l ∈ l0 :: xs ∧ (∀ x ∈ l0 :: xs, f x ≤ m) ∧ ((l0 :: xs).filter fun x => decide (f x = m)).head? = some l
  | [], l0 => ⟨f l0, l0, rfl, rfl, List.mem_cons_self, by simp, by simp⟩
  | x :: xs, l0 => by
    rw [List.foldl_cons]
    show ∃ m l, xs.foldl (stepB f) (if f l0 < f x then some (f x, x) else some (f l0, l0)) = _ ∧ _
    by_cases c : f l0 < f x
    · rw [if_pos c]
      obtain ⟨m, l, h1, h2, h3, h4, h5⟩ := best_go f xs x
      have hx := h4 x List.mem_cons_self
      refine ⟨m, l, h1, h2, List.mem_cons_of_mem _ h3, fun y hy => ?_, ?_⟩
      · rcases List.mem_cons.mp hy with rfl | hy
        · omega
        · exact h4 y hy
      · rw [List.filter_cons, if_neg (by simp; omega)]
        exact h5
    · rw [if_neg c]
      obtain ⟨m, l, h1, h2, h3, h4, h5⟩ := best_go f xs l0
      have hl := h4 l0 List.mem_cons_self
      refine ⟨m, l, h1, h2, ?_, fun y hy => ?_, ?_⟩
      · rcases List.mem_cons.mp h3 with rfl | h3
        · exact List.mem_cons_self
        · exact List.mem_cons_of_mem _ (List.mem_cons_of_mem _ h3)
      · rcases List.mem_cons.mp hy with rfl | hy
        · exact hl
        · rcases List.mem_cons.mp hy with rfl | hy
          · omega
          · exact h4 y (List.mem_cons_of_mem _ hy)
      · by_cases z : f l0 = m
        · rw [List.filter_cons, if_pos (by simpa using z)] at h5 ⊢
          exact h5
        · rw [List.filter_cons, if_neg (by simpa using z)] at h5
          rw [List.filter_cons, if_neg (by simpa using z), List.filter_cons, if_neg (by simp; omega)]
          exact h5
theorem best_of {α : Type} (f : α → Int) {xs : List α} (h : xs ≠ []) : ∃ m l, xs.foldl (stepB f) none = some (m, l) ∧ f l = m ∧ l ∈ xs ∧ (∀ x ∈ xs, f x ≤ m) ∧ (xs.filter fun x => decide (f x = m)).head? = some l := by
  cases xs with
  | nil => exact absurd rfl h
  | cons x xs => exact best_go f xs x
theorem maxL_some {ns : List Int} (h : ns ≠ []) : ∃ n, maxL ns = some n := by
  cases ns with
  | nil => exact absurd rfl h
  | cons x l => exact ⟨_, rfl⟩
theorem pMax_ints {ns : List Int} {m : Int} (h1 : m ∈ ns) (h2 : ∀ y ∈ ns, y ≤ m) : pMax [lI' ns] = .ok (.int m) := by
  obtain ⟨n, hn⟩ := maxL_some (ns := ns) (fun z => by rw [z] at h1; cases h1)
  obtain rfl := maxL_is hn h1 h2
  show (R.get (intsD (ns.map PyData.int)) >>= fun ns => R.get (maxL ns) >>= fun m => R.ok (PyData.int m)) = _
  rw [intsD_map, R.get_some, R.bind_ok, hn]
  rfl
/-- [x for x in xs if f(x) == m][0] -/
theorem head_at {α : Type} {q : α → PyData} {ys : List α} {l : α} (h : ys.head? = some l) : atI (ys.map q) 0 = some (q l) := by
  cases ys with
  | nil => cases h
  | cons y ys => cases h; exact atI_nat' (j := 0) rfl
/-- where the first greatest stands -/
theorem index_first {α : Type} (f : α → Int) (m : Int) {l : α} : ∀ {xs : List α}, (xs.filter fun x => decide (f x = m)).head? = some l → ∃ j : Nat, findD (.int m) ((xs.map f).map PyData.int) = some j ∧ xs[j]? = some l
  | [], h => by cases h
  | x :: xs, h => by
    rw [List.map_cons, List.map_cons]
    unfold findD
    have e : PyData.eqv (.int (f x)) (.int m) = decide (f x = m) := by simp [PyData.eqv, beq_int]
    rw [e]
    by_cases z : f x = m
    · rw [List.filter_cons, if_pos (by simpa using z)] at h
      cases h
      rw [if_pos (by simpa using z)]
      exact ⟨0, rfl, rfl⟩
    · rw [List.filter_cons, if_neg (by simpa using z)] at h
      rw [if_neg (by simpa using z)]
      obtain ⟨j, h1, h2⟩ := index_first f m h
      rw [h1]
      exact ⟨j + 1, rfl, by simpa using h2⟩
theorem pIndex_ints {ns : List Int} {m : Int} {j : Nat} (h : findD (.int m) (ns.map PyData.int) = some j) : pIndex (lI' ns) (.int m) = .ok (.int (j : Nat)) := by
  show (if plainD (lI' ns) = true ∧ plainD (.int m) = true then R.get (findD (.int m) (ns.map PyData.int)) >>= fun j => R.ok (PyData.int (j : Nat)) else .bad) = _
  rw [if_pos ⟨plain_ints ns, plain_int m⟩, h]
  rfl
theorem pNotIn_list (ns : List Int) (i : Int) : pNotIn (.int i) (lI' ns) = .ok (.bool (!decide (i ∈ ns))) := by
  show (if plainD (.int i) = true ∧ plainD (lI' ns) = true then R.ok (PyData.bool (!(ns.map PyData.int).any fun z => PyData.eqv z (.int i))) else .bad) = _
  rw [if_pos ⟨plain_int i, plain_ints ns⟩, any_int]
end PD
end
section
/-! PX13: x is True, x is not True, of truth values. -/
namespace PD
open PySem PySem.Spec PyProof.Rows L2 Evl
def pIsB (x y : PyData) : R PyData := match x, y with
  | .bool a, .bool b => .ok (.bool (decide (a = b)))
  | _, _ => .bad
def pIsnB (x y : PyData) : R PyData := match x, y with
  | .bool a, .bool b => .ok (.bool (!decide (a = b)))
  | _, _ => .bad
theorem nx_pIsB : NX2 pIsB := fun a b => by unfold pIsB; split <;> rfl
theorem nx_pIsnB : NX2 pIsnB := fun a b => by unfold pIsnB; split <;> rfl
section
variable {C : Ct}
theorem r_isB : Rule2 C (fun x y H Q => ∃ a b, x = .bl a ∧ y = .bl b ∧ Q (.bl (decide (a = b))) H) pIsB := fun H0 H x y dx dy d Q g rx ry e o => by
  unfold pIsB at e
  split at e
  · cases e
    exact ⟨_, _, RpX.bl rx, RpX.bl ry, o.now g (.bl _)⟩
  · cases e
theorem r_isnB : Rule2 C (fun x y H Q => ∃ a b, x = .bl a ∧ y = .bl b ∧ Q (.bl (!decide (a = b))) H) pIsnB := fun H0 H x y dx dy d Q g rx ry e o => by
  unfold pIsnB at e
  split at e
  · cases e
    exact ⟨_, _, RpX.bl rx, RpX.bl ry, o.now g (.bl _)⟩
  · cases e
end
end PD
end
section
/-! PX14: an expression that only looks at the lists of a def: they are data while it is told, and the slots' own again behind it. -/
namespace PD
open PySem PySem.Spec PyProof.Rows L2 Evl
def frzSl : Sl → Sl
  | .own _ ds => .dat (.list ds)
  | s => s
def frzA (en : En) : En := en.map frzSl
/-- F told of lent lists; what it gives holds none of them -/
def dBor (F : Sem' PyData) : Sem' PyData := fun en => lift (F (frzA en)) >>= fun p => if flatD p.1 = true then .ok (p.1, en) else .bad
section
variable {C : Ct} {X : Cx} {H0 H H' : Hp} {σ : L2.St} {en : En} {a : Expr}
theorem frzA_get (en : En) (i : Nat) : (frzA en)[i]? = en[i]?.map frzSl := by unfold frzA; rw [List.getElem?_map]
theorem frzA_own {i : Nat} {io : Bool} {ds : List PyData} (h : (frzA en)[i]? = some (.own io ds)) : False := by
  rw [frzA_get] at h
  cases e : en[i]? with
  | none => rw [e] at h; cases h
  | some s => rw [e] at h; cases s <;> cases h
theorem frzA_no (σ : L2.St) (p : Addr) : ¬ OwnA σ (frzA en) p := fun ⟨_, _, _, h, _⟩ => frzA_own h
open Classical in
/-- the heap of data, with the lent lists -/
noncomputable def lent (σ : L2.St) (en : En) (H0 H : Hp) : Hp := fun p => if OwnA σ en p then H p else H0 p
theorem ex_lent (s : SR C.K C.T H0 H σ en) : Ex H0 (lent σ en H0 H) := by
  intro p o h
  unfold lent
  rw [if_neg]
  · exact h
  · rintro ⟨i, io, ds, h1, h2⟩
    obtain ⟨q, vs, e1, e2, e3, _⟩ := s.own i io ds h1
    rw [h2] at e1
    cases e1
    rw [e3] at h
    cases h
theorem lent_ex (s : SR C.K C.T H0 H σ en) : Ex (lent σ en H0 H) H := by
  intro p o h
  unfold lent at h
  split at h
  · exact h
  · exact s.ex p o h
theorem sr_lent (s : SR C.K C.T H0 H σ en) : SR C.K C.T (lent σ en H0 H) H σ (frzA en) where
  len := by rw [s.len]; unfold frzA; rw [List.length_map]
  ex := lent_ex s
  tb := s.tb
  nt := fun p ps h => by
    unfold lent at h
    split at h
    · rename_i ho
      obtain ⟨i, io, ds, h1, h2⟩ := ho
      obtain ⟨q, vs, e1, e2, _⟩ := s.own i io ds h1
      rw [h2] at e1
      cases e1
      rw [e2] at h
      cases h
    · exact s.nt p ps h
  dat := fun i d h => by
    rw [frzA_get] at h
    cases e : en[i]? with
    | none => rw [e] at h; cases h
    | some sl =>
      rw [e] at h
      cases sl with
      | no => cases h
      | dat d' =>
        cases h
        obtain ⟨v, e1, r⟩ := s.dat i _ e
        exact ⟨v, e1, r.mono (ex_lent s)⟩
      | own io ds =>
        cases h
        obtain ⟨q, vs, e1, e2, e3, r⟩ := s.own i io ds e
        refine ⟨_, e1, .lst (Rd.of ?_) (r.mono (ex_lent s))⟩
        unfold lent
        rw [if_pos ⟨i, io, ds, e, e1⟩]
        exact e2
  own := fun i io ds h => (frzA_own h).elim
  sep := fun i j io ds jo es p _ h => (frzA_own h).elim
theorem rp_flat {K : PySem.W.Frag} {v : V} {d : PyData} (r : Rp K H v d) (h : flatD d = true) : Rp K H' v d := by
  cases r with
  | non => exact .non
  | bl b => exact .bl b
  | int i => exact .int i
  | str x => exact .str x
  | lst _ _ => cases h
  | tup _ _ => cases h
  | dct _ _ => cases h
  | obj _ => cases h
  | fn _ => cases h
theorem de_bor {F : Sem' PyData} (he : PE X a (tE C F)) : PE X a (tE C (dBor F)) := he.imp fun σ H Q ⟨H0, en, s, p⟩ => by
  refine ⟨lent σ en H0 H, frzA en, sr_lent s, ?_⟩
  unfold dBor at p
  cases e : F (frzA en) with
  | exc n => rw [e] at p; exact p.elim
  | bad => rw [e] at p; exact p.elim
  | ok q =>
    obtain ⟨d, en1⟩ := q
    rw [e] at p
    simp only [lift_ok, R.bind_ok] at p
    split at p
    · rename_i hf
      intro H0' H' v st sr r
      have fr : ∀ p o, H p = some o → (∀ ps, o ≠ .tbl ps) → H' p = some o := fun p o h t => st.fm.fr p o h (frzA_no σ p) t
      refine p H0 H' v ⟨⟨Ex.refl _, fun p o h _ t => fr p o h t, st.fm.kp, fun _ _ _ h => h⟩, fun _ h => .inl h, fun i ds h => ⟨rfl, ds, h⟩⟩ ⟨s.len, ((ex_lent s).trans st.fm.ex).trans sr.ex, sr.tb, s.nt, s.dat, fun i io ds h => ?_, s.sep⟩ (rp_flat r hf)
      obtain ⟨q, vs, e1, e2, e3, r⟩ := s.own i io ds h
      exact ⟨q, vs, e1, fr q _ e2 (fun _ z => by cases z), e3, r⟩
    · exact p.elim
end
/-- told without slots -/
def flatP (d : PyData) : R PyData := if flatD d = true then .ok d else .bad
theorem xv_bor {F : Sem' PyData} {e e' : En} {x : R PyData} (h : Xv F (frzA e) x e') : Xv (dBor F) e (lift x >>= fun d => flatP d) e := by
  unfold Xv dBor
  rw [show F (frzA e) = _ from h]
  cases x with
  | ok d =>
    simp only [lift_ok, R.bind_ok]
    unfold flatP
    split <;> rfl
  | exc n => rfl
  | bad => rfl
theorem xv_borz {F : Sem' PyData} {e ef e' : En} {x : R PyData} (hz : frzA e = ef) (h : Xv F ef x e') : Xv (dBor F) e (lift x >>= fun d => flatP d) e := xv_bor (by rw [hz]; exact h)
end PD
end
section
/-! PX15: defs as values: a name of the top read as a datum, a call of a slot that holds one. -/
namespace PD
open PySem PySem.Spec PyProof.Rows L2 Evl
/-- the datum of the def x -/
abbrev fnD (x : Str) : PyData := .dict [(.none, .str x)]
/-- a call of slot i, which holds one of these defs -/
def dCallV (i n : Nat) (fs : List (Str × Fn)) (F : Sem' (List Op)) : Sem' Rv := fun en => match en[i]? with
  | some (.dat (.dict [(.none, .str x)])) => match fs.lookup x with
    | some g => dCall n g F en
    | none => .bad
  | _ => .bad
section
variable {C : Ct} {X : Cx} {a : Expr} {es : List Expr} {p pos : Pos} {n i k : Nat} {G : Sem' (List Op)} {x : Str}
theorem rp_fn {K : PySem.W.Frag} {H : Hp} {v : V} {x : Str} (r : Rp K H v (fnD x)) : ∃ a, v = .ref a ∧ PySem.W.nsIn K mainGlobals x = some (some (.ref a)) := by
  cases r with
  | dct _ h => cases h
  | fn h => exact ⟨_, rfl, h⟩
/-- a def's name as a value -/
theorem de_fnv {fa : Addr} (hg : Gl X x) (hm : X.mg x = some (.ref fa)) (hn : PySem.W.nsIn C.K mainGlobals x = some (some (.ref fa))) (hdb : (x == ("__debug__" : Str)) = false := by decide) : PE X (.Name x p) (tE C (dC (fnD x))) :=
  (pe_glob (v := .ref fa) hg hm rfl (hd := hdb)).imp fun σ H Q ⟨H0, en, s, q⟩ => q H0 H (.ref fa) Stp.refl s (.fn hn)
/-- what is asked of a def that a slot may hold -/
structure Cand (X : Cx) (C : Ct) (n : Nat) (x : Str) (g : Fn) : Prop where
  ex : ∃ (fa : Addr) (fd : FuncData) (ps : List Str) (k : Nat), PySem.W.nsIn C.K mainGlobals x = some (some (.ref fa)) ∧ FnOk X.prog X.w X.K X.mg X.base (L2.CX X.prog X.w) k fa fd ps (spD C.K C.T C.ca n g) ∧ Room k X.A ∧ PySem.W.keepIn X.K (.ref fa) = true ∧ Binds X.K fd ps []
theorem cand {fa : Addr} {fd : FuncData} {ps : List Str} {g : Fn} (F : FnOk X.prog X.w X.K X.mg X.base (L2.CX X.prog X.w) k fa fd ps (spD C.K C.T C.ca n g)) (hr : Room k X.A) (hn : PySem.W.nsIn C.K mainGlobals x = some (some (.ref fa))) (hk : PySem.W.keepIn X.K (.ref fa) = true) (hb : Binds X.K fd ps []) : Cand X C n x g := ⟨fa, fd, ps, k, hn, F, hr, hk, hb⟩
inductive CandL (X : Cx) (C : Ct) (n : Nat) : List (Str × Fn) → Prop
  | nil : CandL X C n []
  | cons {x : Str} {g : Fn} {fs : List (Str × Fn)} : Cand X C n x g → CandL X C n fs → CandL X C n ((x, g) :: fs)
theorem CandL.at {z : Str} {g : Fn} : ∀ {fs : List (Str × Fn)}, CandL X C n fs → fs.lookup z = some g → Cand X C n z g
  | _, .nil, h => by cases h
  | _, .cons (x := y) hc t, h => by
    rw [List.lookup_cons] at h
    cases e : z == y with
    | true =>
      rw [e] at h
      cases h
      rw [eq_of_beq e]
      exact hc
    | false =>
      rw [e] at h
      exact t.at h
theorem dv_callV {fs : List (Str × Fn)} (hc : CandL X C n fs) (hN : X.N[i]? = some x) (hv : Vis X.env.scope x) (hx : Passes (L2.CX X.prog X.w) X C.E)
    (ha : PA X (a :: es) (tA C G)) (hdb : (x == ("__debug__" : Str)) = false := by decide) (hcd : (x == ("__classdict__" : Str)) = false := by decide) (he : starEach (a :: es) X.env = (false, eval a X.env) :: starEach es X.env := by rfl) (hpl : (backTo pos (starEach es X.env)).any (·.1) = false := by rfl) :
    PE X (.Call (.Name x p) (a :: es) [] pos) (tV C (dCallV i n fs G)) := by
  refine ⟨fun pins s σ H Q I h => ?_⟩
  obtain ⟨H0, en, sr, q⟩ := h
  unfold dCallV at q
  split at q
  · rename_i z hz
    split at q
    · rename_i g hg
      obtain ⟨fa, fd, ps, k, e1, F, hr, hk, hb⟩ := (hc.at hg).ex
      obtain ⟨v, e2, r⟩ := sr.dat i _ hz
      obtain ⟨b, rfl, e3⟩ := rp_fn r
      rw [e1] at e3
      cases e3
      exact (pe_callL F hr hN hv hk hb .nil hx ha hdb hcd he hpl).run pins s σ H Q I ⟨e2, call_imp ⟨H0, en, sr, q⟩⟩
    · exact q.elim
  · exact q.elim
end
/-! ### told without slots -/
def fnP {α : Type} (d : PyData) (gs : List (Str × (List PyData → R α))) : R (List PyData → R α) := match d with
  | .dict [(.none, .str x)] => R.get (gs.lookup x)
  | _ => .bad
theorem fnP_is {α : Type} {x : Str} {gs : List (Str × (List PyData → R α))} {g : List PyData → R α} (h : gs.lookup x = some g) : fnP (fnD x) gs = .ok g := by
  show R.get (gs.lookup x) = _
  rw [h]
  rfl
/-- these defs come to these texts -/
inductive ClL {α : Type} (n : Nat) (rv : α → Rv) : List (Str × Fn) → List (Str × (List PyData → R α)) → Prop
  | nil : ClL n rv [] []
  | cons {x : Str} {f : Fn} {g : List PyData → R α} {fs : List (Str × Fn)} {gs : List (Str × (List PyData → R α))} : Cl n f g rv → ClL n rv fs gs → ClL n rv ((x, f) :: fs) ((x, g) :: gs)
theorem ClL.at {α : Type} {n : Nat} {rv : α → Rv} {z : Str} : ∀ {fs : List (Str × Fn)} {gs : List (Str × (List PyData → R α))}, ClL n rv fs gs → (∃ f g, fs.lookup z = some f ∧ gs.lookup z = some g ∧ Cl n f g rv) ∨ (fs.lookup z = none ∧ gs.lookup z = none)
  | _, _, .nil => .inr ⟨rfl, rfl⟩
  | _, _, .cons (x := x) h t => by
    rw [List.lookup_cons, List.lookup_cons]
    cases z == x with
    | true => exact .inl ⟨_, _, rfl, rfl, h⟩
    | false => exact t.at
theorem er_callV {α : Type} {n i : Nat} {rv : α → Rv} {fs : List (Str × Fn)} {gs : List (Str × (List PyData → R α))} {AA : Sem' (List Op)} {e e' : En} {d : PyData} {m : (β : Type) → (List PyData → R β) → R β} {os : List PyData → List Op} {fx : List PyData → List PyData}
    (hd : e[i]? = some (.dat d)) (all : ClL n rv fs gs) (h : Ew AA e e' m os fx n) : Er (dCallV i n fs AA) e (fnP d gs >>= fun g => m α fun vs => g (fx vs)) e' rv := by
  unfold Er dCallV
  rw [hd]
  split
  · rename_i x hx
    cases hx
    rcases all.at (z := x) with ⟨f, g, h1, h2, h3⟩ | ⟨h1, h2⟩
    · rw [h1, show fnP (.dict [(.none, .str x)]) gs = .ok g from fnP_is h2]
      exact er_call h3 h
    · have e0 : fnP (.dict [(.none, .str x)]) gs = .bad := by
        show R.get (gs.lookup x) = _
        rw [h2]
        rfl
      rw [h1, e0]
      rfl
  · rename_i hx
    have e0 : fnP d gs = .bad := by
      unfold fnP
      split
      · rename_i x
        exact absurd rfl (hx x)
      · rfl
    rw [e0]
    rfl
end PD
end
section
/-! PY: more of plain lists, equal data, refusals. -/
namespace PD
open PySem PySem.Spec Evl L2
/-- a step that comes to a value, and what goes on from there -/
theorem bindL {α β : Type} {x : R α} {a : α} {f : α → R β} {r : R β} (h : x = .ok a) (k : f a = r) : (x >>= f) = r := by rw [h, bok]; exact k
theorem bexc {α β : Type} (n : Nat) (f : α → R β) : ((R.exc n : R α) >>= f) = R.exc n := by
  have h : ∀ x : R α, x = .exc n → (x >>= f) = R.exc n := fun x e => by
    rw [e]
    exact R.bind_exc n f
  exact h _ rfl
theorem bindX {α β : Type} {x : R α} {n : Nat} {f : α → R β} (h : x = .exc n) : (x >>= f) = .exc n := by rw [h, bexc]
section
variable {α β σ : Type}
theorem forP_pre_go {step : PyData → σ → R σ} (q : α → PyData) (E : List α → σ) : ∀ (ys pre : List α), (∀ a x post, ys = a ++ x :: post → step (q x) (E (pre ++ a)) = .ok (E (pre ++ a ++ [x]))) → forP step (ys.map q) (E pre) = .ok (E (pre ++ ys))
  | [], pre, _ => by rw [List.append_nil]; rfl
  | y :: ys, pre, h => by
    rw [List.map_cons]
    unfold forP
    have h0 := h [] y ys rfl
    rw [List.append_nil] at h0
    rw [h0, R.bind_ok, forP_pre_go q E ys (pre ++ [y]) fun a x post e => by
      have := h (y :: a) x post (by rw [e]; rfl)
      rw [show pre ++ y :: a = pre ++ [y] ++ a by simp] at this
      exact this]
    simp
/-- a loop whose state is told by what has been gone through -/
theorem forP_pre {step : PyData → σ → R σ} (q : α → PyData) (E : List α → σ) {xs : List α} {s0 s1 : σ} (h0 : s0 = E []) (h1 : E xs = s1) (h : ∀ pre x post, xs = pre ++ x :: post → step (q x) (E pre) = .ok (E (pre ++ [x]))) : forP step (xs.map q) s0 = .ok s1 := by
  rw [h0, ← h1]
  have := forP_pre_go q E xs [] fun a x post e => by simpa using h a x post e
  simpa using this
/-- a loop that does one thing with each, without bounds on the state -/
theorem forP_fold' {step : PyData → σ → R σ} (q : α → PyData) (E : β → σ) (F : β → α → β) {xs : List α} (t : β) {s0 s1 : σ} (h0 : s0 = E t) (h1 : E (xs.foldl F t) = s1) (h : ∀ x ∈ xs, ∀ t, step (q x) (E t) = .ok (E (F t x))) : forP step (xs.map q) s0 = .ok s1 := by
  rw [h0, ← h1]
  exact forP_fold q E F t h
end
section
variable {α β σ : Type}
/-- a comprehension whose items draw -/
theorem lcS_each {f : PyData → σ → R (Option PyData × σ)} (P : σ → Prop) (Q : β → Prop) (q : β → PyData) {xs : List PyData} (hl : xs.length ≤ 100000) (h : ∀ x ∈ xs, ∀ s, P s → ∃ a s', f x s = .ok (some (q a), s') ∧ P s' ∧ Q a) (s : σ) (hs : P s) :
    ∃ (as : List β) (s' : σ), lcS f xs s = .ok (as.map q, s') ∧ P s' ∧ (∀ a ∈ as, Q a) ∧ as.length = xs.length := by
  unfold lcS
  rw [if_pos hl]
  clear hl
  induction xs generalizing s with
  | nil => exact ⟨[], s, rfl, hs, fun _ h => (by cases h), rfl⟩
  | cons x xs ih =>
    obtain ⟨a, s1, h1, h2, h3⟩ := h x List.mem_cons_self s hs
    obtain ⟨as, s2, h4, h5, h6, h7⟩ := ih (fun y hy => h y (List.mem_cons_of_mem _ hy)) s1 h2
    refine ⟨a :: as, s2, ?_, h5, fun b hb => ?_, by rw [List.length_cons, List.length_cons, h7]⟩
    · unfold lcSP
      rw [h1, lift_ok, R.bind_ok, h4]
      rfl
    · rcases List.mem_cons.mp hb with rfl | hb
      · exact h3
      · exact h6 b hb
/-- a loop that leaves the state as it is and never leaves -/
theorem forC_stay {σ ρ : Type} {step : PyData → σ → R (Ctl σ ρ)} {xs : List PyData} {s : σ} (h : ∀ x ∈ xs, step x s = .ok (.nx s)) : forC step xs s = .ok (.nx s) := by
  obtain ⟨s', e, rfl⟩ := forC_inv (step := step) (fun s' => s' = s) (xs := xs) (fun x hx t ht => ⟨s, by rw [ht]; exact h x hx, rfl⟩) s rfl
  exact e
end
theorem set_range {α : Type} (n k : Nat) (f : Nat → α) (v : α) : ((List.range n).map f).set k v = (List.range n).map fun i => if i = k then v else f i := by
  apply List.ext_getElem
  · simp
  · intro i h1 h2
    simp only [List.getElem_set, List.getElem_map, List.getElem_range]
    by_cases z : k = i
    · simp [z]
    · have z' : ¬ i = k := fun h => z h.symm
      simp [z, z']
theorem mapB {α : Type} (f : α → Bool) (xs : List α) : (xs.map fun x => PyData.bool (f x)) = (xs.map f).map PyData.bool := by rw [List.map_map]; rfl
theorem mapI {α : Type} (f : α → Int) (xs : List α) : (xs.map fun x => PyData.int (f x)) = (xs.map f).map PyData.int := by rw [List.map_map]; rfl
theorem all_id {α : Type} (xs : List α) (p : α → Bool) : (xs.map p).all id = xs.all p := by rw [List.all_map]; rfl
theorem any_id {α : Type} (xs : List α) (p : α → Bool) : (xs.map p).any id = xs.any p := by rw [List.any_map]; rfl
/-- all([..]), any([..]) of a comprehension -/
theorem pAll_map {α : Type} (f : α → Bool) (xs : List α) : pAll [.list (xs.map fun x => .bool (f x))] = .ok (.bool (xs.all f)) := by rw [mapB, pAll_bools, all_id]
theorem pAny_map {α : Type} (f : α → Bool) (xs : List α) : pAny [.list (xs.map fun x => .bool (f x))] = .ok (.bool (xs.any f)) := by rw [mapB, pAny_bools, any_id]
theorem pSum_map {α : Type} (f : α → Int) (xs : List α) : pSum [.list (xs.map fun x => .int (f x))] = .ok (.int (xs.map f).sum) := by rw [mapI, pSum_ints]
@[simp] theorem pTuple_list (ds : List PyData) : pTuple [.list ds] = .ok (.tuple ds) := rfl
theorem pMulA_list {a : List PyData} {n : Int} (h : 0 ≤ n ∧ n ≤ 1000 ∧ a.length ≤ 100) : pMulA (.list a) (.int n) = .ok (.list (List.replicate n.toNat a).flatten) := if_pos h
theorem pMulA_tuple {a : List PyData} {n : Int} (h : a ≠ [] ∧ 2 ≤ n ∧ n ≤ 1000 ∧ a.length ≤ 100) : pMulA (.tuple a) (.int n) = .ok (.tuple (List.replicate n.toNat a).flatten) := if_pos h
theorem pRep_list {a : List PyData} {n : Int} (h : 0 ≤ n ∧ n ≤ 1000 ∧ a.length ≤ 100) : pRep (.list a) (.int n) = .ok (List.replicate n.toNat a).flatten := if_pos h
/-! ### plain data: no dict in it, not deep -/
def okD (k : Nat) (d : PyData) : Bool := nd d && d.canLay0 && decide (d.depth ≤ k)
theorem okD_plain {k : Nat} {d : PyData} (h : okD k d = true) (hk : k ≤ 40) : plainD d = true := by
  unfold okD at h
  rw [Bool.and_eq_true, Bool.and_eq_true, decide_eq_true_eq] at h
  obtain ⟨⟨h1, h2⟩, h3⟩ := h
  unfold plainD SeqAt.shaped
  rw [h1, h2]
  simp
  omega
theorem okD_int (k : Nat) (i : Int) : okD k (.int i) = true := by simp [okD, nd, PyData.canLay0, PyData.depth]
theorem okD_bool (k : Nat) (b : Bool) : okD k (.bool b) = true := by simp [okD, nd, PyData.canLay0, PyData.depth]
theorem okD_non (k : Nat) : okD k .none = true := by simp [okD, nd, PyData.canLay0, PyData.depth]
theorem okD_all {k : Nat} : ∀ {ds : List PyData}, (∀ d ∈ ds, okD k d = true) → nd.ndAll ds = true ∧ PyData.canLayAll0 ds = true ∧ PyData.depthAll ds ≤ k
  | [], _ => by simp [nd.ndAll, PyData.canLayAll0, PyData.depthAll]
  | d :: ds, h => by
    obtain ⟨a, b, c⟩ := okD_all fun x hx => h x (List.mem_cons_of_mem _ hx)
    have := h d List.mem_cons_self
    unfold okD at this
    rw [Bool.and_eq_true, Bool.and_eq_true, decide_eq_true_eq] at this
    obtain ⟨⟨h1, h2⟩, h3⟩ := this
    simp [nd.ndAll, PyData.canLayAll0, PyData.depthAll, a, b, h1, h2]
    omega
theorem okD_list {k : Nat} {ds : List PyData} (h : ∀ d ∈ ds, okD k d = true) : okD (k + 1) (.list ds) = true := by
  obtain ⟨a, b, c⟩ := okD_all h
  simp [okD, nd, PyData.canLay0, PyData.depth, a, b]
  omega
theorem okD_tuple {k : Nat} {ds : List PyData} (h : ∀ d ∈ ds, okD k d = true) : okD (k + 1) (.tuple ds) = true := by
  obtain ⟨a, b, c⟩ := okD_all h
  simp [okD, nd, PyData.canLay0, PyData.depth, a, b]
  omega
theorem okD_tL (k : Nat) (l : List Int) : okD (k + 1) (.tuple (l.map PyData.int)) = true := okD_tuple fun d hd => by
  obtain ⟨i, _, rfl⟩ := List.mem_map.mp hd
  exact okD_int k i
theorem okD_lL (k : Nat) (l : List Int) : okD (k + 1) (.list (l.map PyData.int)) = true := okD_list fun d hd => by
  obtain ⟨i, _, rfl⟩ := List.mem_map.mp hd
  exact okD_int k i
theorem eqv_same {k : Nat} {d : PyData} (h : okD k d = true) : PyData.eqv d d = true := by
  unfold okD at h
  rw [Bool.and_eq_true, Bool.and_eq_true] at h
  exact PySem.SeqAt.eqv_refl d h.1.2
theorem pEq_same {k : Nat} {d : PyData} (h : okD k d = true) (hk : k ≤ 40) : pEq d d = .ok (.bool true) := by
  show (if plainD d = true ∧ plainD d = true then R.ok (PyData.bool (PyData.eqv d d)) else .bad) = _
  rw [if_pos ⟨okD_plain h hk, okD_plain h hk⟩, eqv_same h]
theorem pNe_same {k : Nat} {d : PyData} (h : okD k d = true) (hk : k ≤ 40) : pNe d d = .ok (.bool false) := by
  show (if plainD d = true ∧ plainD d = true then R.ok (PyData.bool (!PyData.eqv d d)) else .bad) = _
  rw [if_pos ⟨okD_plain h hk, okD_plain h hk⟩, eqv_same h]
  rfl
theorem pNe_bool (a b : Bool) : pNe (.bool a) (.bool b) = .ok (.bool (a != b)) := by
  cases a <;> cases b <;> simp [pNe, plainD, nd, SeqAt.shaped, PyData.canLay0, PyData.depth, PyData.eqv]
theorem pEq_bool (a b : Bool) : pEq (.bool a) (.bool b) = .ok (.bool (a == b)) := by
  cases a <;> cases b <;> simp [pEq, plainD, nd, SeqAt.shaped, PyData.canLay0, PyData.depth, PyData.eqv]
theorem eqv_ints : ∀ (a b : List Int), PyData.eqvAll (a.map PyData.int) (b.map PyData.int) = decide (a = b)
  | [], [] => by simp [PyData.eqvAll]
  | [], b :: bs => by simp [PyData.eqvAll]
  | a :: as, [] => by simp [PyData.eqvAll]
  | a :: as, b :: bs => by
    rw [List.map_cons, List.map_cons]
    simp only [PyData.eqvAll]
    rw [eqv_ints as bs]
    have e : PyData.eqv (.int a) (.int b) = decide (a = b) := by simp [PyData.eqv, beq_int]
    rw [e]
    by_cases h1 : a = b <;> by_cases h2 : as = bs <;> simp [h1, h2]
theorem eqv_tL (a b : List Int) : PyData.eqv (.tuple (a.map PyData.int)) (.tuple (b.map PyData.int)) = decide (a = b) := by
  simp only [PyData.eqv]
  exact eqv_ints a b
theorem eqv_lL (a b : List Int) : PyData.eqv (.list (a.map PyData.int)) (.list (b.map PyData.int)) = decide (a = b) := by
  simp only [PyData.eqv]
  exact eqv_ints a b
/-- a tuple of ints among tuples of ints -/
theorem pIn_tLs (ls : List (List Int)) (l : List Int) : pIn (.tuple (l.map PyData.int)) (.list (ls.map fun l => .tuple (l.map PyData.int))) = .ok (.bool (decide (l ∈ ls))) := by
  show (if plainD _ = true ∧ plainD _ = true then R.ok (PyData.bool ((ls.map fun l => PyData.tuple (l.map PyData.int)).any fun z => PyData.eqv z (.tuple (l.map PyData.int)))) else .bad) = _
  rw [if_pos ⟨okD_plain (okD_tL 0 l) (by decide), okD_plain (k := 2) (okD_list fun d hd => by
    obtain ⟨x, _, rfl⟩ := List.mem_map.mp hd
    exact okD_tL 0 x) (by decide)⟩]
  congr 2
  induction ls with
  | nil => simp
  | cons m ls ih =>
    rw [List.map_cons, List.any_cons, ih, eqv_tL]
    by_cases z : m = l
    · simp [z]
    · have z' : ¬ l = m := fun h => z h.symm
      simp [z, z']
/-- x[i] += 1 -/
theorem ixR_nat {n k : Nat} (h : k < n) : ixR n (.int (k : Nat)) = .ok k := by
  show R.get (ixN n (k : Nat)) = _
  have : ixN n ((k : Nat) : Int) = some k := by
    unfold ixN
    rw [if_pos (by omega), if_pos (by omega)]
    simp
  rw [this]
  rfl
theorem augIx_ok {ds : List PyData} {k : Nat} {a b : Int} (h : ds[k]? = some (.int a)) : augIxP pAdd ds (.int (k : Nat)) (.ok (.int b)) = .ok (ds.set k (.int (a + b))) := by
  unfold augIxP
  have hk : k < ds.length := (List.getElem?_eq_some_iff.mp h).1
  rw [ixR_nat hk, bok, h, R.get_some, bok, bok, pAdd_int, bok]
theorem setIx_ok {ds : List PyData} {k : Nat} (v : PyData) (h : k < ds.length) : setIxP ds (.int (k : Nat)) v = .ok (ds.set k v) := by
  unfold setIxP
  rw [ixR_nat h, bok]
end PD
end
section
namespace G
open PySem PySem.Spec PD
/-! is_int -/
def P_is_int (a_thing : PyData) : R (PyData) :=
    (isD "int" a_thing >>= fun v3 => (asB v3 >>= fun b4 => if b4 = true then (isD "bool" a_thing >>= fun v1 => (asB v1 >>= fun b2 => .ok (PyData.bool (!b2)))) else .ok (PyData.bool false)))
/-! is_rising -/
def P_is_rising (a_thing : PyData) : R (PyData) :=
    ((((isD "tuple" a_thing >>= fun v1 => asB v1) >>= fun b2 => .ok (!b2)) >>= fun b12 => if b12 = true then .ok true else (((((seqOf a_thing >>= fun v7 => lcR (fun x3 => (P_is_int x3 >>= fun v5 => .ok (some v5))) v7) >>= fun v8 => .ok (PyData.list v8)) >>= fun v9 => pAll [v9]) >>= fun v10 => asB v10) >>= fun b11 => .ok (!b11))) >>= fun b13 => if b13 = true then .ok (PyData.bool false) else
    (((((asPart (PyData.int 1) >>= fun v14 => cutP a_thing v14 none) >>= fun v15 => zip2 [a_thing, v15]) >>= fun v20 => lcR (fun x16 => (un2 x16 >>= fun p17 => (pLt p17.1 p17.2 >>= fun v18 => .ok (some v18)))) v20) >>= fun v21 => .ok (PyData.list v21)) >>= fun v22 => pAll [v22]))
/-! is_lot -/
def P_is_lot (a_many : PyData) (a_thing : PyData) : R (PyData) :=
    (P_is_rising a_thing >>= fun v8 => (asB v8 >>= fun b9 => if b9 = true then (((seqOf a_thing >>= fun v5 => lcR (fun x1 => ((pLe (PyData.int 0) x1 >>= fun z => asB z >>= fun w => if w = true then pLt x1 a_many else .ok (PyData.bool false)) >>= fun v3 => .ok (some v3))) v5) >>= fun v6 => .ok (PyData.list v6)) >>= fun v7 => pAll [v7]) else .ok (PyData.bool false)))
/-! is_within -/
def P_is_within (a_thing : PyData) (a_least : PyData) (a_greatest : PyData) : R (PyData) :=
    (P_is_int a_thing >>= fun v1 => (asB v1 >>= fun b2 => if b2 = true then (pLe a_least a_thing >>= fun z => asB z >>= fun w => if w = true then pLe a_thing a_greatest else .ok (PyData.bool false)) else .ok (PyData.bool false)))
/-! check_seats -/
def P_check_seats (a_seats : PyData) : R (Unit) :=
    ((((isD "tuple" a_seats >>= fun v1 => asB v1) >>= fun b2 => .ok (!b2)) >>= fun b6 => if b6 = true then .ok true else (((pLen [a_seats] >>= fun v3 => (pLe (PyData.int 1) v3 >>= fun z => asB z >>= fun w => if w = true then pLe v3 (PyData.int 12) else .ok (PyData.bool false))) >>= fun v4 => asB v4) >>= fun b5 => .ok (!b5))) >>= fun b7 => if b7 = true then .exc 0 else
    (((((((seqOf a_seats >>= fun v12 => lcR (fun x8 => (P_is_within x8 (PyData.int 0) (PyData.int 1000000) >>= fun v10 => .ok (some v10))) v12) >>= fun v13 => .ok (PyData.list v13)) >>= fun v14 => pAll [v14]) >>= fun v15 => asB v15) >>= fun b16 => .ok (!b16)) >>= fun b19 => if b19 = true then .ok true else ((pSum [a_seats] >>= fun v17 => pEq v17 (PyData.int 0)) >>= fun v18 => asB v18)) >>= fun b20 => if b20 = true then .exc 0 else .ok ()))
/-! check_two -/
def P_check_two (a_one : PyData) (a_other : PyData) : R (Unit) :=
    ((P_check_seats a_one >>= fun _ => .ok PyData.none) >>= fun u1 =>
    ((P_check_seats a_other >>= fun _ => .ok PyData.none) >>= fun u2 =>
    (((pLen [a_one] >>= fun v3 => (pLen [a_other] >>= fun v4 => pNe v3 v4)) >>= fun v5 => asB v5) >>= fun b6 => if b6 = true then .exc 0 else .ok ())))
/-! has_more -/
def P_has_more (a_seats : PyData) (a_lot : PyData) : R (PyData) :=
    (((((seqOf a_lot >>= fun v5 => lcR (fun x1 => (pIx a_seats x1 >>= fun v3 => .ok (some v3))) v5) >>= fun v6 => .ok (PyData.list v6)) >>= fun v7 => pSum [v7]) >>= fun v8 => pMulA (PyData.int 2) v8) >>= fun v9 => (pSum [a_seats] >>= fun v10 => pGt v9 v10))
/-! has_both -/
def P_has_both (a_one : PyData) (a_other : PyData) (a_lot : PyData) : R (PyData) :=
    (P_has_more a_one a_lot >>= fun v1 => (asB v1 >>= fun b2 => if b2 = true then P_has_more a_other a_lot else .ok (PyData.bool false)))
/-! both_win -/
def P_both_win (a_one : PyData) (a_other : PyData) (a_lot : PyData) : R (PyData) :=
    ((P_check_two a_one a_other >>= fun _ => .ok PyData.none) >>= fun u1 =>
    ((((pLen [a_one] >>= fun v2 => P_is_lot v2 a_lot) >>= fun v3 => asB v3) >>= fun b4 => .ok (!b4)) >>= fun b5 => if b5 = true then .exc 1 else
    P_has_both a_one a_other a_lot))
/-! all_lots -/
def P_all_lots (a_many : PyData) : R (PyData) :=
    ((rng1 [a_many] >>= fun v46 => forP (fun x2 s3 => (((seqOf s3.2 >>= fun v17 => lcR2 (fun x5 => (((((pLen [x5] >>= fun v9 => pGt v9 (PyData.int 0)) >>= fun v10 => asB v10) >>= fun b13 => if b13 = true then ((pNeg (PyData.int 1) >>= fun v11 => pIx x5 v11) >>= fun v12 => pAddA v12 (PyData.int 1)) else .ok (PyData.int 0)) >>= fun v14 => rng2 [v14, a_many]) >>= fun v16 => lc20 (fun x7 => (pAddA x5 (PyData.tuple [x7]) >>= fun v15 => .ok (some v15))) v16)) v17) >>= fun v18 => .ok (PyData.list v18)) >>= fun u19 =>
    (pAddA s3.1 u19 >>= fun u20 => .ok (u20, u19)))) v46 ((PyData.list [(PyData.tuple [])]), (PyData.list [(PyData.tuple [])]))) >>= fun u47 =>
    .ok u47.1)
/-! without -/
def P_without (a_lot : PyData) (a_party : PyData) : R (PyData) :=
    (((seqOf a_lot >>= fun v7 => lcR (fun x1 => ((pNe x1 a_party >>= fun v3 => asB v3) >>= fun b4 => if b4 = true then .ok (some x1) else .ok none)) v7) >>= fun v8 => .ok (PyData.list v8)) >>= fun v9 => pTuple [v9])
/-! least_both -/
def P_least_both (a_one : PyData) (a_other : PyData) : R (PyData) :=
    ((P_check_two a_one a_other >>= fun _ => .ok PyData.none) >>= fun u1 =>
    ((((pLen [a_one] >>= fun v3 => P_all_lots v3) >>= fun v4 => seqOf v4) >>= fun v36 => forP (fun x5 s6 => (((P_has_both a_one a_other x5 >>= fun v8 => asB v8) >>= fun b18 => if b18 = true then (((((seqOf x5 >>= fun v13 => lcR (fun x9 => ((P_without x5 x9 >>= fun v11 => P_has_both a_one a_other v11) >>= fun v12 => .ok (some v12))) v13) >>= fun v14 => .ok (PyData.list v14)) >>= fun v15 => pAny [v15]) >>= fun v16 => asB v16) >>= fun b17 => .ok (!b17)) else .ok false) >>= fun b19 => if b19 = true then appP s6 x5 else .ok s6)) v36 []) >>= fun u37 =>
    .ok (PyData.list u37)))
/-! both_swings -/
def P_both_swings (a_one : PyData) (a_other : PyData) : R (PyData) :=
    ((P_check_two a_one a_other >>= fun _ => .ok PyData.none) >>= fun u1 =>
    ((pLen [a_one] >>= fun v2 => pRep (PyData.list [(PyData.int 0)]) v2) >>= fun u3 =>
    ((((pLen [a_one] >>= fun v4 => P_all_lots v4) >>= fun v5 => seqOf v5) >>= fun v38 => forP (fun x6 s7 => ((P_has_both a_one a_other x6 >>= fun v9 => asB v9) >>= fun b10 => if b10 = true then (seqOf x6 >>= fun v19 => forP (fun x11 s12 => ((((P_without x6 x11 >>= fun v14 => P_has_both a_one a_other v14) >>= fun v15 => asB v15) >>= fun b16 => .ok (!b16)) >>= fun b17 => if b17 = true then augIxP pAdd s12 x11 (.ok (PyData.int 1)) else .ok s12)) v19 s7) else .ok s7)) v38 u3) >>= fun u39 =>
    pTuple [(PyData.list u39)])))
/-! deadlocks -/
def P_deadlocks (a_one : PyData) (a_other : PyData) : R (PyData) :=
    ((P_check_two a_one a_other >>= fun _ => .ok PyData.none) >>= fun u1 =>
    (((((pLen [a_one] >>= fun v2 => P_all_lots v2) >>= fun v3 => seqOf v3) >>= fun v14 => lcR (fun x4 => (((P_has_more a_one x4 >>= fun v6 => (P_has_more a_other x4 >>= fun v7 => pNe v6 v7)) >>= fun v8 => asB v8) >>= fun b9 => if b9 = true then .ok (some x4) else .ok none)) v14) >>= fun v15 => .ok (PyData.list v15)) >>= fun v16 => pLen [v16]))
/-! _law_hand -/
def P__law_hand (a_script : PyData) : R (List PyData) :=
    (((((asPart (PyData.int 63) >>= fun v1 => cutP a_script none v1) >>= fun v2 => seqOf v2) >>= fun v9 => lcR (fun x3 => ((pInt [x3] >>= fun v5 => pAbs [v5]) >>= fun v6 => .ok (some v6))) v9) >>= fun v10 => .ok (PyData.list v10)) >>= fun u11 =>
    (((pLen [u11] >>= fun v12 => pMulA (PyData.int 61) v12) >>= fun v13 => pAddA (PyData.int 1823) v13) >>= fun v14 => .ok [u11, (PyData.int 0), (PyData.int 0), v14, (PyData.int 0)]))
/-! _law_draw -/
def P__law_draw (h_hand : List PyData) (a_many : PyData) : R (PyData × List PyData) :=
    (((((pIx (PyData.list h_hand) (PyData.int 2) >>= fun v1 => pEq v1 (PyData.int 0)) >>= fun v2 => asB v2) >>= fun b7 => if b7 = true then ((pIx (PyData.list h_hand) (PyData.int 1) >>= fun v4 => ((pIx (PyData.list h_hand) (PyData.int 0) >>= fun v3 => pLen [v3]) >>= fun v5 => pLt v4 v5)) >>= fun v6 => asB v6) else .ok false) >>= fun b8 => if b8 = true then ((pIx (PyData.list h_hand) (PyData.int 0) >>= fun v9 => (pIx (PyData.list h_hand) (PyData.int 1) >>= fun v10 => pIx v9 v10)) >>= fun u11 =>
    (((pIx (PyData.list h_hand) (PyData.int 1) >>= fun v12 => pAddA v12 (PyData.int 1)) >>= fun v13 => setIxP h_hand (PyData.int 1) v13) >>= fun u14 =>
    (((((((pIx (PyData.list u14) (PyData.int 3) >>= fun v15 => pMulA v15 (PyData.int 69621)) >>= fun v16 => (pMulA u11 (PyData.int 48271) >>= fun v17 => pAddA v16 v17)) >>= fun v18 => pAddA v18 (PyData.int 17)) >>= fun v19 => pInt [v19]) >>= fun v20 => pMod v20 (PyData.int 2147483629)) >>= fun v21 => setIxP u14 (PyData.int 3) v21) >>= fun u22 =>
    (((pPow (PyData.int 10) (PyData.int 18) >>= fun v23 => pGe u11 v23) >>= fun v24 => asB v24) >>= fun b25 => if b25 = true then setIxP u22 (PyData.int 2) u11 else .ok u22)))) else .ok h_hand) >>= fun j27 =>
    (((pIx (PyData.list j27) (PyData.int 2) >>= fun v28 => pGt v28 (PyData.int 0)) >>= fun v29 => asB v29) >>= fun b30 => if b30 = true then (((pIx (PyData.list j27) (PyData.int 2) >>= fun v31 => pInt [v31]) >>= fun v32 => pMod v32 a_many) >>= fun u33 =>
    (((pIx (PyData.list j27) (PyData.int 2) >>= fun v34 => pFdiv v34 a_many) >>= fun v35 => setIxP j27 (PyData.int 2) v35) >>= fun u36 =>
    .ok (u33, u36))) else
    (((pIx (PyData.list j27) (PyData.int 4) >>= fun v38 => pAddA v38 (PyData.int 1)) >>= fun v39 => setIxP j27 (PyData.int 4) v39) >>= fun u40 =>
    ((((((pIx (PyData.list u40) (PyData.int 3) >>= fun v42 => ((pIx (PyData.list u40) (PyData.int 4) >>= fun v41 => pMulA (PyData.int 7919) v41) >>= fun v43 => pAddA v42 v43)) >>= fun v44 => pInt [v44]) >>= fun v45 => pMulA v45 (PyData.int 40692)) >>= fun v46 => pInt [v46]) >>= fun v47 => pMod v47 (PyData.int 2147483647)) >>= fun u48 =>
    (((((pFdiv u48 (PyData.int 1009) >>= fun v49 => pAddA v49 (PyData.int 69621)) >>= fun v50 => pMulA u48 v50) >>= fun v51 => pInt [v51]) >>= fun v52 => pMod v52 (PyData.int 2147483647)) >>= fun u53 =>
    (((((pFdiv u53 (PyData.int 2003) >>= fun v54 => pAddA v54 (PyData.int 40014)) >>= fun v55 => pMulA u53 v55) >>= fun v56 => pInt [v56]) >>= fun v57 => pMod v57 (PyData.int 2147483563)) >>= fun u58 =>
    (((pFdiv u58 (PyData.int 16) >>= fun v59 => pInt [v59]) >>= fun v60 => pMod v60 a_many) >>= fun v62 => .ok (v62, u40))))))))
/-! _law_same -/
def P__law_same : Nat → PyData → PyData → R (PyData)
  | 0, _, _ => .bad
  | k_ + 1, a_one, a_due => (((isD "tuple" a_due >>= fun v1 => asB v1) >>= fun b3 => if b3 = true then .ok true else (isD "list" a_due >>= fun v2 => asB v2)) >>= fun b4 => if b4 = true then ((((isD "tuple" a_one >>= fun v5 => (isD "tuple" a_due >>= fun v6 => pNe v5 v6)) >>= fun v7 => asB v7) >>= fun b11 => if b11 = true then .ok true else ((isD "list" a_one >>= fun v8 => (isD "list" a_due >>= fun v9 => pNe v8 v9)) >>= fun v10 => asB v10)) >>= fun b12 => if b12 = true then .ok (PyData.bool false) else
    ((pLen [a_one] >>= fun v15 => (pLen [a_due] >>= fun v16 => pEq v15 v16)) >>= fun v24 => (asB v24 >>= fun b25 => if b25 = true then (((zip2 [a_one, a_due] >>= fun v21 => lcR (fun x17 => (un2 x17 >>= fun p18 => ((P__law_same k_) p18.1 p18.2 >>= fun v19 => .ok (some v19)))) v21) >>= fun v22 => .ok (PyData.list v22)) >>= fun v23 => pAll [v23]) else .ok (PyData.bool false)))) else
    ((((isD "bool" a_one >>= fun v26 => (isD "bool" a_due >>= fun v27 => pNe v26 v27)) >>= fun v28 => asB v28) >>= fun b32 => if b32 = true then .ok true else ((pIsN a_one PyData.none >>= fun v29 => (pIsN a_due PyData.none >>= fun v30 => pNe v29 v30)) >>= fun v31 => asB v31)) >>= fun b33 => if b33 = true then .ok (PyData.bool false) else
    ((isD "int" a_one >>= fun v36 => (isD "int" a_due >>= fun v37 => pEq v36 v37)) >>= fun v38 => (asB v38 >>= fun b39 => if b39 = true then pEq a_one a_due else .ok (PyData.bool false)))))
/-! _law_any -/
def P__law_any (h_hand : List PyData) (a_some : PyData) : R (PyData × List PyData) :=
    (((pLen [a_some] >>= fun v1 => .ok (v1, h_hand)) >>= fun p2 => P__law_draw p2.2 p2.1) >>= fun p3 => (pIx a_some p3.1 >>= fun z4 => .ok (z4, p3.2)))
/-! _law_deep -/
def P__law_deep (h_hand : List PyData) (a_thing : PyData) : R (PyData × List PyData) :=
    ((((P__law_draw h_hand (PyData.int 45) >>= fun p1 => (pAddA (PyData.int 5) p1.1 >>= fun z2 => .ok (z2, p1.2))) >>= fun p3 => (rng1 [p3.1] >>= fun z4 => .ok (z4, p3.2))) >>= fun p10 => forP (fun x5 s6 => (P__law_any s6.1 (PyData.list [(PyData.tuple [s6.2]), (PyData.list [s6.2])]) >>= fun u8 => .ok (u8.2, u8.1))) p10.1 (p10.2, a_thing)) >>= fun u11 =>
    .ok (u11.2, u11.1))
/-! _law_lots -/
def P__law_lots (a_things : PyData) : R (List PyData) :=
    ((seqOf a_things >>= fun v20 => forP (fun x2 s3 => (((seqOf s3 >>= fun v8 => lcR (fun x5 => (pAddA x5 (PyData.tuple [x2]) >>= fun v7 => .ok (some v7))) v8) >>= fun v9 => .ok (PyData.list v9)) >>= fun v10 => pAddA s3 v10)) v20 (PyData.list [(PyData.tuple [])])) >>= fun u21 =>
    ((((((seqOf u21 >>= fun v28 => lcR (fun x22 => ((pLen [x22] >>= fun v24 => .ok (PyData.tuple [v24, x22])) >>= fun v25 => .ok (some v25))) v28) >>= fun v29 => .ok (PyData.list v29)) >>= fun v30 => pSrt [v30]) >>= fun v31 => .ok (PyData.list v31)) >>= fun v32 => seqOf v32) >>= fun v35 => lcR (fun x33 => (un2 x33 >>= fun p34 => .ok (some p34.2))) v35))
/-! _law_wins -/
def P__law_wins (a_chairs : PyData) (a_lot : PyData) : R (PyData) :=
    (((((seqOf a_lot >>= fun v5 => lcR (fun x1 => (pIx a_chairs x1 >>= fun v3 => .ok (some v3))) v5) >>= fun v6 => .ok (PyData.list v6)) >>= fun v7 => pSum [v7]) >>= fun v8 => pMulA (PyData.int 2) v8) >>= fun v9 => (pSum [a_chairs] >>= fun v10 => pGt v9 v10))
/-! _law_seats -/
def P__law_seats (h_hand : List PyData) (a_many : PyData) : R (PyData × List PyData) :=
    (((rng1 [a_many] >>= fun v1 => .ok (v1, h_hand)) >>= fun p9 => lcS (fun x2 s4 => ((P__law_any s4 (PyData.list [(PyData.int 3), (PyData.int 8), (PyData.int 30)]) >>= fun p5 => P__law_draw p5.2 p5.1) >>= fun p6 => .ok ((some p6.1), p6.2))) p9.1 p9.2) >>= fun u10 =>
    ((((pSum [(PyData.list u10.1)] >>= fun v11 => pEq v11 (PyData.int 0)) >>= fun v12 => asB v12) >>= fun b13 => if b13 = true then (((P__law_draw u10.2 (PyData.int 5) >>= fun p14 => (pAddA (PyData.int 1) p14.1 >>= fun z15 => .ok (z15, p14.2))) >>= fun p16 => (P__law_draw p16.2 a_many >>= fun p17 => (setIxP u10.1 p17.1 p16.1 >>= fun l18 => .ok (l18, p17.2)))) >>= fun u19 => .ok (u19.2, u19.1)) else .ok (u10.2, u10.1)) >>= fun j20 =>
    (pTuple [(PyData.list j20.2)] >>= fun v22 => .ok (v22, j20.1))))
/-! _law_no_seats -/
def P__law_no_seats (h_hand : List PyData) : R (PyData × List PyData) :=
    (((((pNeg (PyData.int 1) >>= fun v1 => .ok (PyData.tuple [v1, (PyData.int 2)])) >>= fun v2 => .ok (v2, h_hand)) >>= fun p3 => ((((pPow (PyData.int 10) (PyData.int 6) >>= fun v4 => pAddA v4 (PyData.int 1)) >>= fun v5 => .ok (PyData.tuple [v5, (PyData.int 1)])) >>= fun v6 => .ok (v6, p3.2)) >>= fun p7 => ((pMulA (PyData.tuple [(PyData.int 1)]) (PyData.int 13) >>= fun v8 => .ok (v8, p7.2)) >>= fun p9 => (P__law_deep p9.2 (PyData.int 1) >>= fun p10 => .ok ([PyData.none, (PyData.int 0), (PyData.tuple []), (PyData.tuple [(PyData.int 0), (PyData.int 0)]), (PyData.list [(PyData.int 1), (PyData.int 2)]), p3.1, (PyData.tuple [(PyData.bool true), (PyData.int 2)]), (PyData.tuple [(PyData.str "1"), (PyData.int 2)]), p7.1, (PyData.dict []), (PyData.tuple [(PyData.int 1), PyData.none]), p9.1, p10.1], p10.2))))) >>= fun p11 => .ok ((PyData.list p11.1), p11.2)) >>= fun p12 => P__law_any p12.2 p12.1)
/-! _law_word -/
def okF__law_word : PyData → R PyData := fun _ => .ok (.str "let")
def exF__law_word (m : Nat) : R PyData := match m with
  | 0 => .ok (.str "seats")
  | 1 => .ok (.str "lot")
  | _ => .bad
/-! _law_do_win -/
def P__law_do_win (a_one : PyData) (a_other : PyData) (a_lot : PyData) : R (PyData) :=
    (P__law_wins a_one a_lot >>= fun v1 => (asB v1 >>= fun b2 => if b2 = true then P__law_wins a_other a_lot else .ok (PyData.bool false)))
/-! _law_is_right -/
def P__law_is_right (h_hand : List PyData) (a_many : PyData) : R (PyData × List PyData) :=
    (((P__law_seats h_hand a_many >>= fun p1 => (P__law_seats p1.2 a_many >>= fun p2 => .ok ((PyData.tuple [p1.1, p2.1]), p2.2))) >>= fun p5 => (un2 p5.1 >>= fun q4 => .ok (q4, p5.2))) >>= fun u6 =>
    ((((rgL1 a_many >>= fun v7 => .ok (PyData.list v7)) >>= fun v8 => P__law_lots v8) >>= fun v9 => .ok (PyData.list v9)) >>= fun u10 =>
    (((seqOf u10 >>= fun v17 => lcR (fun x11 => ((P__law_do_win u6.1.1 u6.1.2 x11 >>= fun v13 => asB v13) >>= fun b14 => if b14 = true then .ok (some x11) else .ok none)) v17) >>= fun v18 => .ok (PyData.list v18)) >>= fun u19 =>
    (((seqOf u19 >>= fun v64 => lcR (fun x20 => ((((((seqOf x20 >>= fun v32 => lcR (fun x22 => ((((seqOf x20 >>= fun v28 => lcR (fun x24 => ((pNe x24 x22 >>= fun v26 => asB v26) >>= fun b27 => if b27 = true then .ok (some x24) else .ok none)) v28) >>= fun v29 => .ok (PyData.list v29)) >>= fun v30 => P__law_do_win u6.1.1 u6.1.2 v30) >>= fun v31 => .ok (some v31))) v32) >>= fun v33 => .ok (PyData.list v33)) >>= fun v34 => pAny [v34]) >>= fun v35 => asB v35) >>= fun b36 => .ok (!b36)) >>= fun b37 => if b37 = true then .ok (some x20) else .ok none)) v64) >>= fun v65 => .ok (PyData.list v65)) >>= fun u66 =>
    ((rng1 [a_many] >>= fun v123 => forP (fun x68 s69 => (((seqOf u19 >>= fun v85 => lcR (fun x71 => (((pIn x68 x71 >>= fun v73 => asB v73) >>= fun b83 => if b83 = true then (((((seqOf x71 >>= fun v78 => lcR (fun x74 => ((pNe x74 x68 >>= fun v76 => asB v76) >>= fun b77 => if b77 = true then .ok (some x74) else .ok none)) v78) >>= fun v79 => .ok (PyData.list v79)) >>= fun v80 => P__law_do_win u6.1.1 u6.1.2 v80) >>= fun v81 => asB v81) >>= fun b82 => .ok (!b82)) else .ok false) >>= fun b84 => if b84 = true then .ok (some x71) else .ok none)) v85) >>= fun v86 => .ok (PyData.list v86)) >>= fun u87 =>
    (pLen [u87] >>= fun v88 => appP s69 v88))) v123 []) >>= fun u124 =>
    ((((seqOf u10 >>= fun v135 => lcR (fun x125 => (((P__law_wins u6.1.1 x125 >>= fun v127 => (P__law_wins u6.1.2 x125 >>= fun v128 => pNe v127 v128)) >>= fun v129 => asB v129) >>= fun b130 => if b130 = true then .ok (some x125) else .ok none)) v135) >>= fun v136 => .ok (PyData.list v136)) >>= fun v137 => pLen [v137]) >>= fun u138 =>
    (((P_least_both u6.1.1 u6.1.2 >>= fun v139 => (P_both_swings u6.1.1 u6.1.2 >>= fun v140 => (P_deadlocks u6.1.1 u6.1.2 >>= fun v141 => .ok [v139, v140, v141]))) >>= fun v142 => .ok (PyData.list v142)) >>= fun u143 =>
    (((((((pTuple [(PyData.list u124)] >>= fun v144 => .ok [u66, v144, u138]) >>= fun v145 => .ok (PyData.list v145)) >>= fun v146 => (P__law_same 8) u143 v146) >>= fun v147 => asB v147) >>= fun b148 => .ok (!b148)) >>= fun b155 => if b155 = true then .ok true else ((((P_least_both u6.1.2 u6.1.1 >>= fun v149 => (P_both_swings u6.1.2 u6.1.1 >>= fun v150 => (P_deadlocks u6.1.2 u6.1.1 >>= fun v151 => .ok [v149, v150, v151]))) >>= fun v152 => .ok (PyData.list v152)) >>= fun v153 => pNe v153 u143) >>= fun v154 => asB v154)) >>= fun b156 => if b156 = true then .ok ((PyData.bool false), u6.2) else
    ((((((rng1 [(PyData.int 6)] >>= fun v158 => .ok (v158, u6.2)) >>= fun p164 => lcS (fun x159 s161 => (P__law_any s161 u10 >>= fun p162 => .ok ((some p162.1), p162.2))) p164.1 p164.2) >>= fun p165 => .ok ((PyData.list p165.1), p165.2)) >>= fun p166 => (seqOf p166.1 >>= fun z167 => .ok (z167, p166.2))) >>= fun p209 => forC (fun x168 s169 => ((((rng1 [a_many] >>= fun v175 => lcR (fun x171 => ((pNotIn x171 x168 >>= fun v173 => asB v173) >>= fun b174 => if b174 = true then .ok (some x171) else .ok none)) v175) >>= fun v176 => .ok (PyData.list v176)) >>= fun v177 => pTuple [v177]) >>= fun u178 =>
    (((((P_both_win u6.1.1 u6.1.2 x168 >>= fun v179 => (pIn x168 u19 >>= fun v180 => (P__law_same 8) v179 v180)) >>= fun v181 => asB v181) >>= fun b182 => .ok (!b182)) >>= fun b186 => if b186 = true then .ok true else ((P_both_win u6.1.1 u6.1.2 x168 >>= fun v183 => asB v183) >>= fun b185 => if b185 = true then (P_both_win u6.1.1 u6.1.2 u178 >>= fun v184 => asB v184) else .ok false)) >>= fun b187 => if b187 = true then .ok (.rt ((PyData.bool false), s169)) else .ok (.nx s169)))) p209.1 p209.2) >>= fun c => c.fin (fun u210 => (((P__law_no_seats u210 >>= fun p211 => ((((P__law_no_seats p211.2 >>= fun p212 => ((pAddA u6.1.1 (PyData.tuple [(PyData.int 1)]) >>= fun v213 => .ok (v213, p212.2)) >>= fun p214 => .ok ([p212.1, p214.1], p214.2))) >>= fun p215 => .ok ((PyData.list p215.1), p215.2)) >>= fun p216 => P__law_any p216.2 p216.1) >>= fun p217 => .ok ((PyData.tuple [p211.1, p217.1]), p217.2))) >>= fun p220 => (un2 p220.1 >>= fun q219 => .ok (q219, p220.2))) >>= fun u221 =>
    ((((((pNeg (PyData.int 1) >>= fun v222 => .ok (PyData.tuple [v222])) >>= fun v223 => .ok (v223, u221.2)) >>= fun p224 => (P__law_deep p224.2 (PyData.int 0) >>= fun p225 => .ok ([PyData.none, (PyData.list [(PyData.int 0)]), (PyData.tuple [a_many]), (PyData.tuple [(PyData.int 0), (PyData.int 0)]), (PyData.dict []), (PyData.tuple [(PyData.bool true)]), (PyData.tuple [(PyData.str "0")]), p224.1, (PyData.int 0), p225.1], p225.2))) >>= fun p226 => .ok ((PyData.list p226.1), p226.2)) >>= fun p227 => P__law_any p227.2 p227.1) >>= fun u228 =>
    (((saidP okF__law_word exF__law_word (P_both_win u221.1.1 u221.1.2 u228.1) >>= fun v229 => (saidP okF__law_word exF__law_word (P_both_win u6.1.1 u221.1.2 u228.1) >>= fun v230 => (saidP okF__law_word exF__law_word (P_both_win u6.1.1 u6.1.2 u228.1) >>= fun v231 => .ok [v229, v230, v231]))) >>= fun v232 => .ok (PyData.list v232)) >>= fun u233 =>
    ((seqOf (PyData.tuple [(fnD "least_both"), (fnD "both_swings"), (fnD "deadlocks")]) >>= fun v251 => forP (fun x234 s235 => (((saidP okF__law_word exF__law_word ((fnP x234 [("least_both", fun l => P_least_both (gd l 0) (gd l 1)), ("both_swings", fun l => P_both_swings (gd l 0) (gd l 1)), ("deadlocks", fun l => P_deadlocks (gd l 0) (gd l 1))] >>= fun f237 => f237 [u221.1.1, u221.1.2])) >>= fun v239 => (saidP okF__law_word exF__law_word ((fnP x234 [("least_both", fun l => P_least_both (gd l 0) (gd l 1)), ("both_swings", fun l => P_both_swings (gd l 0) (gd l 1)), ("deadlocks", fun l => P_deadlocks (gd l 0) (gd l 1))] >>= fun f238 => f238 [u6.1.1, u221.1.2])) >>= fun v240 => .ok [v239, v240])) >>= fun v241 => .ok (PyData.list v241)) >>= fun v242 => pAddA s235 v242)) v251 u233) >>= fun u252 =>
    ((((pMulA (PyData.list [(PyData.str "seats")]) (PyData.int 6) >>= fun v255 => pAddA (PyData.list [(PyData.str "seats"), (PyData.str "seats"), (PyData.str "lot")]) v255) >>= fun v256 => pEq u252 v256) >>= fun v258 => (asB v258 >>= fun b259 => if b259 = true then (P_deadlocks u6.1.1 u6.1.1 >>= fun v257 => pEq v257 (PyData.int 0)) else .ok (PyData.bool false))) >>= fun v261 => .ok (v261, u228.2))))))) (fun r262 => .ok r262))))))))))
/-! law -/
def P_law (a_script : PyData) : R (PyData) :=
    (P__law_hand a_script >>= fun u1 =>
    ((un2 (PyData.tuple [(PyData.tuple [(PyData.int 3), (PyData.int 2), (PyData.int 2)]), (PyData.tuple [(PyData.int 1), (PyData.int 4), (PyData.int 1)])]) >>= fun q3 => .ok q3) >>= fun u4 =>
    (((P_both_win u4.1 u4.2 (PyData.tuple [(PyData.int 1)]) >>= fun v5 => (P_both_win u4.1 u4.2 (PyData.tuple [(PyData.int 0), (PyData.int 1)]) >>= fun v6 => (P_least_both u4.1 u4.2 >>= fun v7 => (P_both_swings u4.1 u4.2 >>= fun v8 => (P_deadlocks u4.1 u4.2 >>= fun v9 => (P_both_win u4.1 u4.2 (PyData.tuple []) >>= fun v10 => .ok [v5, v6, v7, v8, v9, v10])))))) >>= fun v11 => .ok (PyData.list v11)) >>= fun u12 =>
    ((((P__law_same 8) u12 (PyData.list [(PyData.bool false), (PyData.bool true), (PyData.list [(PyData.tuple [(PyData.int 0), (PyData.int 1)]), (PyData.tuple [(PyData.int 1), (PyData.int 2)])]), (PyData.tuple [(PyData.int 1), (PyData.int 3), (PyData.int 1)]), (PyData.int 2), (PyData.bool false)]) >>= fun v13 => asB v13) >>= fun b14 => .ok (!b14)) >>= fun b15 => if b15 = true then .ok (PyData.bool false) else
    (((((rng1 [(PyData.int 6)] >>= fun v16 => .ok (v16, u1)) >>= fun p28 => lcS (fun x17 s19 => (((P__law_draw s19 (PyData.int 7) >>= fun p20 => (pAddA (PyData.int 1) p20.1 >>= fun z21 => .ok (z21, p20.2))) >>= fun p22 => P__law_is_right p22.2 p22.1) >>= fun p23 => .ok ((some p23.1), p23.2))) p28.1 p28.2) >>= fun p29 => .ok ((PyData.list p29.1), p29.2)) >>= fun p30 => (pAll [p30.1] >>= fun z31 => .ok (z31, p30.2))) >>= fun p33 => .ok p33.1)))))
end G
end
section
namespace G
open LamX PySem PySem.Spec PyProof.Rows L2 Evl PD
def top (i : Nat) : Stmt := PySem.Challenge.pw_chairmarks_k83_whole_two_chambers.main.body.getD i (.Pass ⟨0, 0, 0, 0⟩)
/-- what the top has written -/
structure Tx (K : PySem.W.Frag) (mg : Str → Option Value) where
  a_is_int : Addr
  d_is_int : FuncData
  F_is_int : Fun K "is_int" "is_int" (top 5) a_is_int d_is_int
  g_is_int : mg "is_int" = some (.ref a_is_int)
  a_is_rising : Addr
  d_is_rising : FuncData
  F_is_rising : Fun K "is_rising" "is_rising" (top 7) a_is_rising d_is_rising
  g_is_rising : mg "is_rising" = some (.ref a_is_rising)
  a_is_lot : Addr
  d_is_lot : FuncData
  F_is_lot : Fun K "is_lot" "is_lot" (top 13) a_is_lot d_is_lot
  g_is_lot : mg "is_lot" = some (.ref a_is_lot)
  a_is_within : Addr
  d_is_within : FuncData
  F_is_within : Fun K "is_within" "is_within" (top 6) a_is_within d_is_within
  g_is_within : mg "is_within" = some (.ref a_is_within)
  a_check_seats : Addr
  d_check_seats : FuncData
  F_check_seats : Fun K "check_seats" "check_seats" (top 11) a_check_seats d_check_seats
  g_check_seats : mg "check_seats" = some (.ref a_check_seats)
  a_check_two : Addr
  d_check_two : FuncData
  F_check_two : Fun K "check_two" "check_two" (top 17) a_check_two d_check_two
  g_check_two : mg "check_two" = some (.ref a_check_two)
  a_has_more : Addr
  d_has_more : FuncData
  F_has_more : Fun K "has_more" "has_more" (top 12) a_has_more d_has_more
  g_has_more : mg "has_more" = some (.ref a_has_more)
  a_has_both : Addr
  d_has_both : FuncData
  F_has_both : Fun K "has_both" "has_both" (top 18) a_has_both d_has_both
  g_has_both : mg "has_both" = some (.ref a_has_both)
  a_both_win : Addr
  d_both_win : FuncData
  F_both_win : Fun K "both_win" "both_win" (top 19) a_both_win d_both_win
  g_both_win : mg "both_win" = some (.ref a_both_win)
  a_all_lots : Addr
  d_all_lots : FuncData
  F_all_lots : Fun K "all_lots" "all_lots" (top 14) a_all_lots d_all_lots
  g_all_lots : mg "all_lots" = some (.ref a_all_lots)
  a_without : Addr
  d_without : FuncData
  F_without : Fun K "without" "without" (top 15) a_without d_without
  g_without : mg "without" = some (.ref a_without)
  a_least_both : Addr
  d_least_both : FuncData
  F_least_both : Fun K "least_both" "least_both" (top 20) a_least_both d_least_both
  g_least_both : mg "least_both" = some (.ref a_least_both)
  a_both_swings : Addr
  d_both_swings : FuncData
  F_both_swings : Fun K "both_swings" "both_swings" (top 21) a_both_swings d_both_swings
  g_both_swings : mg "both_swings" = some (.ref a_both_swings)
  a_deadlocks : Addr
  d_deadlocks : FuncData
  F_deadlocks : Fun K "deadlocks" "deadlocks" (top 22) a_deadlocks d_deadlocks
  g_deadlocks : mg "deadlocks" = some (.ref a_deadlocks)
  a__law_hand : Addr
  d__law_hand : FuncData
  F__law_hand : Fun K "_law_hand" "_law_hand" (top 24) a__law_hand d__law_hand
  g__law_hand : mg "_law_hand" = some (.ref a__law_hand)
  a__law_draw : Addr
  d__law_draw : FuncData
  F__law_draw : Fun K "_law_draw" "_law_draw" (top 25) a__law_draw d__law_draw
  g__law_draw : mg "_law_draw" = some (.ref a__law_draw)
  a__law_same : Addr
  d__law_same : FuncData
  F__law_same : Fun K "_law_same" "_law_same" (top 27) a__law_same d__law_same
  g__law_same : mg "_law_same" = some (.ref a__law_same)
  a__law_any : Addr
  d__law_any : FuncData
  F__law_any : Fun K "_law_any" "_law_any" (top 26) a__law_any d__law_any
  g__law_any : mg "_law_any" = some (.ref a__law_any)
  a__law_deep : Addr
  d__law_deep : FuncData
  F__law_deep : Fun K "_law_deep" "_law_deep" (top 28) a__law_deep d__law_deep
  g__law_deep : mg "_law_deep" = some (.ref a__law_deep)
  a__law_lots : Addr
  d__law_lots : FuncData
  F__law_lots : Fun K "_law_lots" "_law_lots" (top 29) a__law_lots d__law_lots
  g__law_lots : mg "_law_lots" = some (.ref a__law_lots)
  a__law_wins : Addr
  d__law_wins : FuncData
  F__law_wins : Fun K "_law_wins" "_law_wins" (top 30) a__law_wins d__law_wins
  g__law_wins : mg "_law_wins" = some (.ref a__law_wins)
  a__law_seats : Addr
  d__law_seats : FuncData
  F__law_seats : Fun K "_law_seats" "_law_seats" (top 31) a__law_seats d__law_seats
  g__law_seats : mg "_law_seats" = some (.ref a__law_seats)
  a__law_no_seats : Addr
  d__law_no_seats : FuncData
  F__law_no_seats : Fun K "_law_no_seats" "_law_no_seats" (top 32) a__law_no_seats d__law_no_seats
  g__law_no_seats : mg "_law_no_seats" = some (.ref a__law_no_seats)
  a__law_word : Addr
  d__law_word : FuncData
  F__law_word : Fun K "_law_word" "_law_word" (top 33) a__law_word d__law_word
  g__law_word : mg "_law_word" = some (.ref a__law_word)
  a__law_do_win : Addr
  d__law_do_win : FuncData
  F__law_do_win : Fun K "_law_do_win" "_law_do_win" (top 34) a__law_do_win d__law_do_win
  g__law_do_win : mg "_law_do_win" = some (.ref a__law_do_win)
  a__law_is_right : Addr
  d__law_is_right : FuncData
  F__law_is_right : Fun K "_law_is_right" "_law_is_right" (top 35) a__law_is_right d__law_is_right
  g__law_is_right : mg "_law_is_right" = some (.ref a__law_is_right)
  a_law : Addr
  d_law : FuncData
  F_law : Fun K "law" "law" (top 36) a_law d_law
  g_law : mg "law" = some (.ref a_law)
  w_least_both : PySem.W.nsIn K mainGlobals "least_both" = some (some (.ref a_least_both))
  w_both_swings : PySem.W.nsIn K mainGlobals "both_swings" = some (some (.ref a_both_swings))
  w_deadlocks : PySem.W.nsIn K mainGlobals "deadlocks" = some (some (.ref a_deadlocks))
  k_MOST_PARTIES : Tok
  c_MOST_PARTIES : mg "MOST_PARTIES" = some (.int 12 k_MOST_PARTIES)
  k_MOST_SEATS : Tok
  c_MOST_SEATS : mg "MOST_SEATS" = some (.int 1000000 k_MOST_SEATS)
  n_abs : mg "abs" = none
  n_all : mg "all" = none
  n_any : mg "any" = none
  n_bool : mg "bool" = none
  n_int : mg "int" = none
  n_isinstance : mg "isinstance" = none
  n_len : mg "len" = none
  n_list : mg "list" = none
  n_range : mg "range" = none
  n_sorted : mg "sorted" = none
  n_sum : mg "sum" = none
  n_tuple : mg "tuple" = none
  n_zip : mg "zip" = none
  e_BadSeats : Addr
  g_BadSeats : mg "BadSeats" = some (.ref e_BadSeats)
  k_BadSeats : PySem.W.keepIn K (.ref e_BadSeats) = true
  q_BadSeats : PySem.W.excIn K e_BadSeats He.veBase "ValueError.__new__" = true
  s_BadSeats : PySem.W.subIn K (.ref e_BadSeats) (.type "BaseException") = some true
  y_BadSeats : PySem.W.typeIn K (.ref e_BadSeats) = some (.type "type")
  e_BadLot : Addr
  g_BadLot : mg "BadLot" = some (.ref e_BadLot)
  k_BadLot : PySem.W.keepIn K (.ref e_BadLot) = true
  q_BadLot : PySem.W.excIn K e_BadLot He.veBase "ValueError.__new__" = true
  s_BadLot : PySem.W.subIn K (.ref e_BadLot) (.type "BaseException") = some true
  y_BadLot : PySem.W.typeIn K (.ref e_BadLot) = some (.type "type")
  c__law_is_right : Addr
  P__law_is_right : Addr
  H__law_is_right : FunC K "_law_is_right" (top 35) a__law_is_right d__law_is_right c__law_is_right
  e_ChairError : Addr
  g_ChairError : mg "ChairError" = some (.ref e_ChairError)
  n_ValueError : mg "ValueError" = none
  x_BadSeats : ExcC K e_BadSeats
  m_BadSeats : PySem.W.exmOne K (.ref e_BadSeats) (.ref e_ChairError) = some true
  x_BadLot : ExcC K e_BadLot
  m_BadLot : PySem.W.exmOne K (.ref e_BadLot) (.ref e_ChairError) = some true
  i_BadLot_BadLot : PySem.W.kitOne K (.ref e_BadLot) (.ref e_BadLot) = some true
  i_BadLot_BadSeats : PySem.W.kitOne K (.ref e_BadLot) (.ref e_BadSeats) = some false
  i_BadLot_ValueError : PySem.W.kitOne K (.ref e_BadLot) (.type "ValueError") = some true
  i_BadSeats_BadLot : PySem.W.kitOne K (.ref e_BadSeats) (.ref e_BadLot) = some false
  i_BadSeats_BadSeats : PySem.W.kitOne K (.ref e_BadSeats) (.ref e_BadSeats) = some true
  i_BadSeats_ValueError : PySem.W.kitOne K (.ref e_BadSeats) (.type "ValueError") = some true
  nd : (([(P__law_is_right, "_law_is_right.<locals>.<lambda>")] : List (Addr × Str)).map (·.1)).Nodup
abbrev Tx.T {K mg} (t : Tx K mg) : List (Addr × Str) := [(t.P__law_is_right, "_law_is_right.<locals>.<lambda>")]
abbrev Tx.cs {K mg} (t : Tx K mg) : List (Addr × Addr) := [(t.c__law_is_right, t.P__law_is_right)]
def Tx.ca {K mg} (t : Tx K mg) : Nat → Addr := fun n => [t.e_BadSeats, t.e_BadLot].getD n 0
noncomputable section
variable {P : Program} {w : World} {K : PySem.W.Frag} {mg : Str → Option Value} {base : Heap}
/-! ### is_int -/
abbrev s_is_int : Stmt := top 5
abbrev N_is_int : List Str := ["thing"]
theorem sc_is_int : FnScope N_is_int ["thing"] (defScope s_is_int) := ⟨rfl, rfl, rfl, by decide +kernel, rfl, by decide +kernel, by decide +kernel⟩
theorem b_is_int (t : Tx K mg) : Binds K t.d_is_int ["thing"] [] := t.F_is_int.binds (ps := ["thing"]) fun _ _ _ _ _ _ us hl => match us, hl with | [_], _ => rfl
def B_is_int : SemS := (sRet (dAndV (d1 (isD "int") (oVal (dVar 0))) (dNotV (d1 (isD "bool") (oVal (dVar 0))))))
def F_is_int : Fn := runI N_is_int.length B_is_int
theorem ok_is_int (t : Tx K mg) : FnOk P w K mg base (L2.CX P w) 1 t.a_is_int t.d_is_int ["thing"] (spD K t.T t.ca 1 F_is_int) :=
  fn_I (fn_D (k := 0) t.F_is_int sc_is_int (by decide) fun cdv A outer s H E hr =>
    (ds_one (ds_ret (de_and (de_isi rfl (do_val (de_var (pe_var (i := 0) rfl (by first | exact .inl rfl | exact .inr (.inl rfl) | exact .inr (.inr rfl))))) rfl rfl t.n_isinstance rfl t.n_int rfl) (de_one (de_not (de_isi rfl (do_val (de_var (pe_var (i := 0) rfl (by first | exact .inl rfl | exact .inr (.inl rfl) | exact .inr (.inr rfl))))) rfl rfl t.n_isinstance rfl t.n_bool rfl))))))) (by decide)
theorem t_is_int (a_thing : PyData) : F_is_int [.dat a_thing] = P_is_int a_thing >>= fun c_ => .ok (.dat c_, [.dat a_thing]) := by
  have h : Js B_is_int [.dat a_thing] _ (fun (c_ : PyData) => .ret (.dat c_) [.no]) :=
    (js_same (jl_ret (xv_dAndV (xv_d1 (nx_isD _) (xo_val (xv_var rfl)) rs_val) (xv_dNotV (xv_d1 (nx_isD _) (xo_val (xv_var rfl)) rs_val)))) (fun _ => rfl))
  exact fn_js rfl h (fun c => rfl)
/-! ### is_rising -/
abbrev s_is_rising : Stmt := top 7
abbrev N_is_rising : List Str := ["thing", "part", "one", "other"]
theorem sc_is_rising : FnScope N_is_rising ["thing"] (defScope s_is_rising) := ⟨rfl, rfl, rfl, by decide +kernel, rfl, by decide +kernel, by decide +kernel⟩
theorem b_is_rising (t : Tx K mg) : Binds K t.d_is_rising ["thing"] [] := t.F_is_rising.binds (ps := ["thing"]) fun _ _ _ _ _ _ us hl => match us, hl with | [_], _ => rfl
def B_is_rising : SemS := (sSeq (sIf (dOr (dNot (dB (d1 (isD "tuple") (oVal (dVar 0))))) (dNot (dB (dA pAll (aCons (oVal (dFrz (dLc (itA seq1 (it1 (oVal (dVar 0)))) ([1] : List Nat) (tgN 1) dYes (rvE (dCall 1 F_is_int (aCons (oVal (dVar 1)) aNil)))))) aNil))))) (sRet (dC (.bool false))) sNext)
  (sRet (dA pAll (aCons (oVal (dFrz (dLc (itA zip2 (aCons (oVal (dVar 0)) (aCons (oVal (dSl (oVal (dVar 0)) (pSome (dC (.int 1))) pNo)) aNil))) ([2, 3] : List Nat) (tgT 2 (tgCons (tgN 2) (tgCons (tgN 3) tgNil))) dYes (d2 pLt (oVal (dVar 2)) (oVal (dVar 3)))))) aNil))))
def F_is_rising : Fn := runI N_is_rising.length B_is_rising
theorem ok_is_rising (t : Tx K mg) : FnOk P w K mg base (L2.CX P w) 2 t.a_is_rising t.d_is_rising ["thing"] (spD K t.T t.ca 1 F_is_rising) :=
  fn_I (fn_D (k := 1) t.F_is_rising sc_is_rising (by decide) fun cdv A outer s H E hr =>
    (ds_cons (ds_if (PW.pt (dw_or (dt_not (dt_val (de_isi rfl (do_val (de_var (pe_var (i := 0) rfl (by first | exact .inl rfl | exact .inr (.inl rfl) | exact .inr (.inr rfl))))) rfl rfl t.n_isinstance rfl t.n_tuple rfl))) (dw_1or (dt_not (dt_val (de_callB (cr_all rfl) r_all rfl t.n_all rfl (da_cons (do_val (de_frz (dn_lc (own := [("part", 1)]) rfl sc_is_rising.nd (di_seq rfl (do_val (de_var (pe_var (i := 0) rfl (by first | exact .inl rfl | exact .inr (.inl rfl) | exact .inr (.inr rfl)))))) (blkOk_by (sc := defScope s_is_rising) (N := N_is_rising) (by decide +kernel)) (fun _ _ _ _ _ => (dg_name (pg_name (i := 1) sc_is_rising.nd rfl (by first | exact .inl rfl | exact .inr rfl)))) (fun _ _ _ _ _ => dts_nil) (fun _ _ _ _ _ => (de_ofV (dv_call (ok_is_int t) (hr.mono (by decide)) rfl t.g_is_int t.F_is_int.kp (b_is_int t) passL (da_cons (do_val (de_var (pe_var (i := 1) rfl (by first | exact .inl rfl | exact .inr (.inl rfl) | exact .inr (.inr rfl))))) da_nil)))) (by decide)))) da_nil))))))) (ds_one (ds_ret de_bl)) ds_nil)
    (ds_one (ds_ret (de_callB (cr_all rfl) r_all rfl t.n_all rfl (da_cons (do_val (de_frz (dn_lc (own := [("one", 2), ("other", 3)]) rfl sc_is_rising.nd (di_zip rfl rfl t.n_zip (da_cons (do_val (de_var (pe_var (i := 0) rfl (by first | exact .inl rfl | exact .inr (.inl rfl) | exact .inr (.inr rfl))))) (da_cons (do_val (de_slice rfl (do_val (de_var (pe_var (i := 0) rfl (by first | exact .inl rfl | exact .inr (.inl rfl) | exact .inr (.inr rfl))))) (dp_some de_int) dp_none)) da_nil))) (blkOk_by (sc := defScope s_is_rising) (N := N_is_rising) (by decide +kernel)) (fun _ _ _ _ _ => (dg_tup rfl rfl (dgs_cons (dg_name (pg_name (i := 2) sc_is_rising.nd rfl (by first | exact .inl rfl | exact .inr rfl))) (dgs_cons (dg_name (pg_name (i := 3) sc_is_rising.nd rfl (by first | exact .inl rfl | exact .inr rfl))) dgs_nil)))) (fun _ _ _ _ _ => dts_nil) (fun _ _ _ _ _ => (de_cmp op_lt r_lt (do_val (de_var (pe_var (i := 2) rfl (by first | exact .inl rfl | exact .inr (.inl rfl) | exact .inr (.inr rfl))))) (do_val (de_var (pe_var (i := 3) rfl (by first | exact .inl rfl | exact .inr (.inl rfl) | exact .inr (.inr rfl))))) (nomark _))) (by decide)))) da_nil)))))) (by decide)
theorem z_is_rising_1 (a_thing : PyData) (x3 : PyData) : LcS (tgN 1) dYes (rvE (dCall 1 F_is_int (aCons (oVal (dVar 1)) aNil))) [1] [.dat a_thing, .no, .no, .no] x3 ((P_is_int x3 >>= fun v6 => .ok (some v6))) := by
  have h : LcS (tgN 1) dYes (rvE (dCall 1 F_is_int (aCons (oVal (dVar 1)) aNil))) [1] [.dat a_thing, .no, .no, .no] x3 _ :=
    xlc_step1 (eg_n rfl) (fun p4 => (xv_rvE (er_call (cl1 (f := F_is_int) (P := P_is_int) (rv := .dat) t_is_int) (ew_val (xv_var rfl) ew_nil)))) (fun _ => rfl)
  exact h
theorem z_is_rising_2 (a_thing : PyData) (x16 : PyData) : LcS (tgT 2 (tgCons (tgN 2) (tgCons (tgN 3) tgNil))) dYes (d2 pLt (oVal (dVar 2)) (oVal (dVar 3))) [2, 3] [.dat a_thing, .no, .no, .no] x16 ((un2 x16 >>= fun p17 => (pLt p17.1 p17.2 >>= fun v19 => .ok (some v19)))) := by
  have h : LcS (tgT 2 (tgCons (tgN 2) (tgCons (tgN 3) tgNil))) dYes (d2 pLt (oVal (dVar 2)) (oVal (dVar 3))) [2, 3] [.dat a_thing, .no, .no, .no] x16 _ :=
    xlc_step1 (eg_t2 rfl (fun _ => rfl)) (fun p17 => (xv_d2 nx_pLt (xo_val (xv_var rfl)) (xo_val (xv_var rfl)) rs_val rs_val)) (fun _ => rfl)
  exact h
theorem t_is_rising (a_thing : PyData) : F_is_rising [.dat a_thing] = P_is_rising a_thing >>= fun c_ => .ok (.dat c_, [.dat a_thing]) := by
  have h : Js B_is_rising [.dat a_thing, .no, .no, .no] _ (fun (c_ : PyData) => .ret (.dat c_) [.no, .no, .no, .no]) :=
    (js_ifx nn_ret (xv_dOr (xv_dNot (xv_dB (xv_d1 (nx_isD _) (xo_val (xv_var rfl)) rs_val))) (xv_dNot (xv_dB (xv_dA nx_pAll (xa_val (xv_dFrz (xv_dLc (w := [.dat a_thing, .no, .no, .no]) (e2 := [.dat a_thing, .no, .no, .no]) _ (ei_seq (xa_val (xv_var rfl) xa_nil) (fun _ => rfl)) rfl rfl rfl rfl (z_is_rising_1 a_thing))) xa_nil))))) (js_same (jl_ret xv_c) (fun _ => rfl))
    (js_same (jl_ret (xv_dA nx_pAll (xa_val (xv_dFrz (xv_dLc (w := [.dat a_thing, .no, .no, .no]) (e2 := [.dat a_thing, .no, .no, .no]) _ (ei_itA nx_zip2 (xa_val (xv_var rfl) (xa_val (xv_dSl (xo_val (xv_var rfl)) (xv_some xv_c) xv_no rs_val) xa_nil)) (fun _ => rfl)) rfl rfl rfl rfl (z_is_rising_2 a_thing))) xa_nil))) (fun _ => rfl)))
  exact fn_js rfl h (fun c => rfl)
/-! ### is_lot -/
abbrev s_is_lot : Stmt := top 13
abbrev N_is_lot : List Str := ["many", "thing", "one"]
theorem sc_is_lot : FnScope N_is_lot ["many", "thing"] (defScope s_is_lot) := ⟨rfl, rfl, rfl, by decide +kernel, rfl, by decide +kernel, by decide +kernel⟩
theorem b_is_lot (t : Tx K mg) : Binds K t.d_is_lot ["many", "thing"] [] := t.F_is_lot.binds (ps := ["many", "thing"]) fun _ _ _ _ _ _ us hl => match us, hl with | [_, _], _ => rfl
def B_is_lot : SemS := (sRet (dAndV (rvE (dCall 1 F_is_rising (aCons (oVal (dVar 1)) aNil))) (dA pAll (aCons (oVal (dFrz (dLc (itA seq1 (it1 (oVal (dVar 1)))) ([2] : List Nat) (tgN 2) dYes (dChain pLe pLt (oVal (dC (.int 0))) (oVal (dVar 2)) (oVal (dVar 0)))))) aNil))))
def F_is_lot : Fn := runI N_is_lot.length B_is_lot
theorem ok_is_lot (t : Tx K mg) : FnOk P w K mg base (L2.CX P w) 3 t.a_is_lot t.d_is_lot ["many", "thing"] (spD K t.T t.ca 2 F_is_lot) :=
  fn_I (fn_D (k := 2) t.F_is_lot sc_is_lot (by decide) fun cdv A outer s H E hr =>
    (ds_one (ds_ret (de_and (de_ofV (dv_call (ok_is_rising t) (hr.mono (by decide)) rfl t.g_is_rising t.F_is_rising.kp (b_is_rising t) (passes_call (takes_of rfl rfl rfl rfl) fun _ _ _ _ h => h) (da_cons (do_val (de_var (pe_var (i := 1) rfl (by first | exact .inl rfl | exact .inr (.inl rfl) | exact .inr (.inr rfl))))) da_nil))) (de_one (de_callB (cr_all rfl) r_all rfl t.n_all rfl (da_cons (do_val (de_frz (dn_lc (own := [("one", 2)]) rfl sc_is_lot.nd (di_seq rfl (do_val (de_var (pe_var (i := 1) rfl (by first | exact .inl rfl | exact .inr (.inl rfl) | exact .inr (.inr rfl)))))) (blkOk_by (sc := defScope s_is_lot) (N := N_is_lot) (by decide +kernel)) (fun _ _ _ _ _ => (dg_name (pg_name (i := 2) sc_is_lot.nd rfl (by first | exact .inl rfl | exact .inr rfl)))) (fun _ _ _ _ _ => dts_nil) (fun _ _ _ _ _ => (de_chain op_le op_lt r_le r_lt (do_val de_int) (do_val (de_var (pe_var (i := 2) rfl (by first | exact .inl rfl | exact .inr (.inl rfl) | exact .inr (.inr rfl))))) (do_val (de_var (pe_var (i := 0) rfl (by first | exact .inl rfl | exact .inr (.inl rfl) | exact .inr (.inr rfl))))))) (by decide)))) da_nil))))))) (by decide)
theorem z_is_lot_1 (a_many : PyData) (a_thing : PyData) (x1 : PyData) : LcS (tgN 2) dYes (dChain pLe pLt (oVal (dC (.int 0))) (oVal (dVar 2)) (oVal (dVar 0))) [2] [.dat a_many, .dat a_thing, .no] x1 (((pLe (PyData.int 0) x1 >>= fun z => asB z >>= fun w => if w = true then pLt x1 a_many else .ok (PyData.bool false)) >>= fun v4 => .ok (some v4))) := by
  have h : LcS (tgN 2) dYes (dChain pLe pLt (oVal (dC (.int 0))) (oVal (dVar 2)) (oVal (dVar 0))) [2] [.dat a_many, .dat a_thing, .no] x1 _ :=
    xlc_step1 (eg_n rfl) (fun p2 => (xv_chain nx_pLe nx_pLt (xo_val xv_c) (xo_val (xv_var rfl)) (xo_val (xv_var rfl)) rs_val rs_val rs_val)) (fun _ => rfl)
  exact h
theorem t_is_lot (a_many : PyData) (a_thing : PyData) : F_is_lot [.dat a_many, .dat a_thing] = P_is_lot a_many a_thing >>= fun c_ => .ok (.dat c_, [.dat a_many, .dat a_thing]) := by
  have h : Js B_is_lot [.dat a_many, .dat a_thing, .no] _ (fun (c_ : PyData) => .ret (.dat c_) [.no, .no, .no]) :=
    (js_same (jl_ret (xv_dAndV (xv_rvE (er_call (cl1 (f := F_is_rising) (P := P_is_rising) (rv := .dat) t_is_rising) (ew_val (xv_var rfl) ew_nil))) (xv_dA nx_pAll (xa_val (xv_dFrz (xv_dLc (w := [.dat a_many, .dat a_thing, .no]) (e2 := [.dat a_many, .dat a_thing, .no]) _ (ei_seq (xa_val (xv_var rfl) xa_nil) (fun _ => rfl)) rfl rfl rfl rfl (z_is_lot_1 a_many a_thing))) xa_nil)))) (fun _ => rfl))
  exact fn_js rfl h (fun c => rfl)
/-! ### is_within -/
abbrev s_is_within : Stmt := top 6
abbrev N_is_within : List Str := ["thing", "least", "greatest"]
theorem sc_is_within : FnScope N_is_within ["thing", "least", "greatest"] (defScope s_is_within) := ⟨rfl, rfl, rfl, by decide +kernel, rfl, by decide +kernel, by decide +kernel⟩
theorem b_is_within (t : Tx K mg) : Binds K t.d_is_within ["thing", "least", "greatest"] [] := t.F_is_within.binds (ps := ["thing", "least", "greatest"]) fun _ _ _ _ _ _ us hl => match us, hl with | [_, _, _], _ => rfl
def B_is_within : SemS := (sRet (dAndV (rvE (dCall 1 F_is_int (aCons (oVal (dVar 0)) aNil))) (dChain pLe pLe (oVal (dVar 1)) (oVal (dVar 0)) (oVal (dVar 2)))))
def F_is_within : Fn := runI N_is_within.length B_is_within
theorem ok_is_within (t : Tx K mg) : FnOk P w K mg base (L2.CX P w) 2 t.a_is_within t.d_is_within ["thing", "least", "greatest"] (spD K t.T t.ca 3 F_is_within) :=
  fn_I (fn_D (k := 1) t.F_is_within sc_is_within (by decide) fun cdv A outer s H E hr =>
    (ds_one (ds_ret (de_and (de_ofV (dv_call (ok_is_int t) (hr.mono (by decide)) rfl t.g_is_int t.F_is_int.kp (b_is_int t) (passes_call (takes_of rfl rfl rfl rfl) fun _ _ _ _ h => h) (da_cons (do_val (de_var (pe_var (i := 0) rfl (by first | exact .inl rfl | exact .inr (.inl rfl) | exact .inr (.inr rfl))))) da_nil))) (de_one (de_chain op_le op_le r_le r_le (do_val (de_var (pe_var (i := 1) rfl (by first | exact .inl rfl | exact .inr (.inl rfl) | exact .inr (.inr rfl))))) (do_val (de_var (pe_var (i := 0) rfl (by first | exact .inl rfl | exact .inr (.inl rfl) | exact .inr (.inr rfl))))) (do_val (de_var (pe_var (i := 2) rfl (by first | exact .inl rfl | exact .inr (.inl rfl) | exact .inr (.inr rfl))))))))))) (by decide)
theorem t_is_within (a_thing : PyData) (a_least : PyData) (a_greatest : PyData) : F_is_within [.dat a_thing, .dat a_least, .dat a_greatest] = P_is_within a_thing a_least a_greatest >>= fun c_ => .ok (.dat c_, [.dat a_thing, .dat a_least, .dat a_greatest]) := by
  have h : Js B_is_within [.dat a_thing, .dat a_least, .dat a_greatest] _ (fun (c_ : PyData) => .ret (.dat c_) [.no, .no, .no]) :=
    (js_same (jl_ret (xv_dAndV (xv_rvE (er_call (cl1 (f := F_is_int) (P := P_is_int) (rv := .dat) t_is_int) (ew_val (xv_var rfl) ew_nil))) (xv_chain nx_pLe nx_pLe (xo_val (xv_var rfl)) (xo_val (xv_var rfl)) (xo_val (xv_var rfl)) rs_val rs_val rs_val))) (fun _ => rfl))
  exact fn_js rfl h (fun c => rfl)
/-! ### check_seats -/
abbrev s_check_seats : Stmt := top 11
abbrev N_check_seats : List Str := ["seats", "one"]
theorem sc_check_seats : FnScope N_check_seats ["seats"] (defScope s_check_seats) := ⟨rfl, rfl, rfl, by decide +kernel, rfl, by decide +kernel, by decide +kernel⟩
theorem b_check_seats (t : Tx K mg) : Binds K t.d_check_seats ["seats"] [] := t.F_check_seats.binds (ps := ["seats"]) fun _ _ _ _ _ _ us hl => match us, hl with | [_], _ => rfl
def B_check_seats : SemS := (sSeq (sIf (dOr (dNot (dB (d1 (isD "tuple") (oVal (dVar 0))))) (dNot (dB (dChain pLe pLe (oVal (dC (.int 1))) (oVal (dA pLen (aCons (oVal (dVar 0)) aNil))) (oVal (dC (.int 12))))))) (sExc 0) sNext)
  (sIf (dOr (dNot (dB (dA pAll (aCons (oVal (dFrz (dLc (itA seq1 (it1 (oVal (dVar 0)))) ([1] : List Nat) (tgN 1) dYes (rvE (dCall 3 F_is_within (aCons (oVal (dVar 1)) (aCons (oVal (dC (.int 0))) (aCons (oVal (dC (.int 1000000))) aNil)))))))) aNil)))) (dB (d2 pEq (oVal (dA pSum (aCons (oVal (dVar 0)) aNil))) (oVal (dC (.int 0)))))) (sExc 0) (sClr [0] sNext)))
def F_check_seats : Fn := runI N_check_seats.length B_check_seats
theorem ok_check_seats (t : Tx K mg) : FnOk P w K mg base (L2.CX P w) 3 t.a_check_seats t.d_check_seats ["seats"] (spD K t.T t.ca 1 F_check_seats) :=
  fn_I (fn_D (k := 2) t.F_check_seats sc_check_seats (by decide) fun cdv A outer s H E hr =>
    (ds_cons (ds_if (PW.pt (dw_or (dt_not (dt_val (de_isi rfl (do_val (de_var (pe_var (i := 0) rfl (by first | exact .inl rfl | exact .inr (.inl rfl) | exact .inr (.inr rfl))))) rfl rfl t.n_isinstance rfl t.n_tuple rfl))) (dw_1or (dt_not (dt_chain op_le op_le r_le r_le (do_val de_int) (do_val (de_callB (cr_lenA) r_len rfl t.n_len rfl (da_cons (do_val (de_var (pe_var (i := 0) rfl (by first | exact .inl rfl | exact .inr (.inl rfl) | exact .inr (.inr rfl))))) da_nil))) (do_val (de_globI rfl t.c_MOST_PARTIES))))))) (ds_one (ds_raise0 rfl (takes_of rfl rfl rfl rfl) PySem.F.excBase_ValueError t.q_BadSeats t.g_BadSeats t.k_BadSeats (raises_own t.s_BadSeats t.y_BadSeats) rfl rfl)) ds_nil)
    (ds_one (ds_if (PW.pt (dw_or (dt_not (dt_val (de_callB (cr_all rfl) r_all rfl t.n_all rfl (da_cons (do_val (de_frz (dn_lc (own := [("one", 1)]) rfl sc_check_seats.nd (di_seq rfl (do_val (de_var (pe_var (i := 0) rfl (by first | exact .inl rfl | exact .inr (.inl rfl) | exact .inr (.inr rfl)))))) (blkOk_by (sc := defScope s_check_seats) (N := N_check_seats) (by decide +kernel)) (fun _ _ _ _ _ => (dg_name (pg_name (i := 1) sc_check_seats.nd rfl (by first | exact .inl rfl | exact .inr rfl)))) (fun _ _ _ _ _ => dts_nil) (fun _ _ _ _ _ => (de_ofV (dv_call (ok_is_within t) (hr.mono (by decide)) rfl t.g_is_within t.F_is_within.kp (b_is_within t) passL (da_cons (do_val (de_var (pe_var (i := 1) rfl (by first | exact .inl rfl | exact .inr (.inl rfl) | exact .inr (.inr rfl))))) (da_cons (do_val de_int) (da_cons (do_val (de_globI rfl t.c_MOST_SEATS)) da_nil)))))) (by decide)))) da_nil)))) (dw_1or (dt_cmp (op_eqD hr.units) r_eq (do_val (de_callB (cr_sumA rfl) r_sum rfl t.n_sum rfl (da_cons (do_val (de_var (pe_var (i := 0) rfl (by first | exact .inl rfl | exact .inr (.inl rfl) | exact .inr (.inr rfl))))) da_nil))) (do_val de_int) (nomark _))))) (ds_one (ds_raise0 rfl (takes_of rfl rfl rfl rfl) PySem.F.excBase_ValueError t.q_BadSeats t.g_BadSeats t.k_BadSeats (raises_own t.s_BadSeats t.y_BadSeats) rfl rfl)) (dss_clr [0] ds_nil))))) (by decide)
theorem z_check_seats_1 (a_seats : PyData) (x8 : PyData) : LcS (tgN 1) dYes (rvE (dCall 3 F_is_within (aCons (oVal (dVar 1)) (aCons (oVal (dC (.int 0))) (aCons (oVal (dC (.int 1000000))) aNil))))) [1] [.dat a_seats, .no] x8 ((P_is_within x8 (PyData.int 0) (PyData.int 1000000) >>= fun v11 => .ok (some v11))) := by
  have h : LcS (tgN 1) dYes (rvE (dCall 3 F_is_within (aCons (oVal (dVar 1)) (aCons (oVal (dC (.int 0))) (aCons (oVal (dC (.int 1000000))) aNil))))) [1] [.dat a_seats, .no] x8 _ :=
    xlc_step1 (eg_n rfl) (fun p9 => (xv_rvE (er_call (cl3 (f := F_is_within) (P := P_is_within) (rv := .dat) t_is_within) (ew_val (xv_var rfl) (ew_val xv_c (ew_val xv_c ew_nil)))))) (fun _ => rfl)
  exact h
theorem t_check_seats (a_seats : PyData) : F_check_seats [.dat a_seats] = P_check_seats a_seats >>= fun c_ => .ok (.dat .none, [.dat a_seats]) := by
  have h : Js B_check_seats [.dat a_seats, .no] _ (fun (c_ : Unit) => .next [.no, .no]) :=
    (js_ifx nn_exc (xv_dOr (xv_dNot (xv_dB (xv_d1 (nx_isD _) (xo_val (xv_var rfl)) rs_val))) (xv_dNot (xv_dB (xv_chain nx_pLe nx_pLe (xo_val xv_c) (xo_val (xv_dA nx_pLen (xa_val (xv_var rfl) xa_nil))) (xo_val xv_c) rs_val rs_val rs_val)))) js_exc
    (js_if (xv_dOr (xv_dNot (xv_dB (xv_dA nx_pAll (xa_val (xv_dFrz (xv_dLc (w := [.dat a_seats, .no]) (e2 := [.dat a_seats, .no]) _ (ei_seq (xa_val (xv_var rfl) xa_nil) (fun _ => rfl)) rfl rfl rfl rfl (z_check_seats_1 a_seats))) xa_nil)))) (xv_dB (xv_d2 nx_pEq (xo_val (xv_dA nx_pSum (xa_val (xv_var rfl) xa_nil))) (xo_val xv_c) rs_val rs_val))) js_exc (js_map (w := fun _ => ()) (js_clr js_next) (fun _ => rfl))))
  exact fn_js rfl h (fun c => rfl)
/-! ### check_two -/
abbrev s_check_two : Stmt := top 17
abbrev N_check_two : List Str := ["one", "other"]
theorem sc_check_two : FnScope N_check_two ["one", "other"] (defScope s_check_two) := ⟨rfl, rfl, rfl, by decide +kernel, rfl, by decide +kernel, by decide +kernel⟩
theorem b_check_two (t : Tx K mg) : Binds K t.d_check_two ["one", "other"] [] := t.F_check_two.binds (ps := ["one", "other"]) fun _ _ _ _ _ _ us hl => match us, hl with | [_, _], _ => rfl
def B_check_two : SemS := (sSeq (sDrop (rvE (dCall 1 F_check_seats (aCons (oVal (dVar 0)) aNil))))
  (sSeq (sDrop (rvE (dCall 1 F_check_seats (aCons (oVal (dVar 1)) aNil))))
  (sIf (dB (d2 pNe (oVal (dA pLen (aCons (oVal (dVar 0)) aNil))) (oVal (dA pLen (aCons (oVal (dVar 1)) aNil))))) (sExc 0) (sClr [0, 1] sNext))))
def F_check_two : Fn := runI N_check_two.length B_check_two
theorem ok_check_two (t : Tx K mg) : FnOk P w K mg base (L2.CX P w) 4 t.a_check_two t.d_check_two ["one", "other"] (spD K t.T t.ca 2 F_check_two) :=
  fn_I (fn_D (k := 3) t.F_check_two sc_check_two (by decide) fun cdv A outer s H E hr =>
    (ds_cons (ds_expr (de_ofV (dv_call (ok_check_seats t) (hr.mono (by decide)) rfl t.g_check_seats t.F_check_seats.kp (b_check_seats t) (passes_call (takes_of rfl rfl rfl rfl) fun _ _ _ _ h => h) (da_cons (do_val (de_var (pe_var (i := 0) rfl (by first | exact .inl rfl | exact .inr (.inl rfl) | exact .inr (.inr rfl))))) da_nil))))
    (ds_cons (ds_expr (de_ofV (dv_call (ok_check_seats t) (hr.mono (by decide)) rfl t.g_check_seats t.F_check_seats.kp (b_check_seats t) (passes_call (takes_of rfl rfl rfl rfl) fun _ _ _ _ h => h) (da_cons (do_val (de_var (pe_var (i := 1) rfl (by first | exact .inl rfl | exact .inr (.inl rfl) | exact .inr (.inr rfl))))) da_nil))))
    (ds_one (ds_if (dt_cmp (op_neD hr.units) r_ne (do_val (de_callB (cr_lenA) r_len rfl t.n_len rfl (da_cons (do_val (de_var (pe_var (i := 0) rfl (by first | exact .inl rfl | exact .inr (.inl rfl) | exact .inr (.inr rfl))))) da_nil))) (do_val (de_callB (cr_lenA) r_len rfl t.n_len rfl (da_cons (do_val (de_var (pe_var (i := 1) rfl (by first | exact .inl rfl | exact .inr (.inl rfl) | exact .inr (.inr rfl))))) da_nil))) (nomark _)) (ds_one (ds_raise0 rfl (takes_of rfl rfl rfl rfl) PySem.F.excBase_ValueError t.q_BadSeats t.g_BadSeats t.k_BadSeats (raises_own t.s_BadSeats t.y_BadSeats) rfl rfl)) (dss_clr [0, 1] ds_nil)))))) (by decide)
theorem t_check_two (a_one : PyData) (a_other : PyData) : F_check_two [.dat a_one, .dat a_other] = P_check_two a_one a_other >>= fun c_ => .ok (.dat .none, [.dat a_one, .dat a_other]) := by
  have h : Js B_check_two [.dat a_one, .dat a_other] _ (fun (c_ : Unit) => .next [.no, .no]) :=
    (js_seq (E := fun (u1 : PyData) => [.dat a_one, .dat a_other]) (js_same (jl_drop (xv_rvE (er_unit (er_call (cl1 (f := F_check_seats) (P := P_check_seats) (rv := fun _ => .dat .none) t_check_seats) (ew_val (xv_var rfl) ew_nil))))) (fun _ => rfl)) fun u1 =>
    (js_seq (E := fun (u2 : PyData) => [.dat a_one, .dat a_other]) (js_same (jl_drop (xv_rvE (er_unit (er_call (cl1 (f := F_check_seats) (P := P_check_seats) (rv := fun _ => .dat .none) t_check_seats) (ew_val (xv_var rfl) ew_nil))))) (fun _ => rfl)) fun u2 =>
    (js_if (xv_dB (xv_d2 nx_pNe (xo_val (xv_dA nx_pLen (xa_val (xv_var rfl) xa_nil))) (xo_val (xv_dA nx_pLen (xa_val (xv_var rfl) xa_nil))) rs_val rs_val)) js_exc (js_map (w := fun _ => ()) (js_clr js_next) (fun _ => rfl)))))
  exact fn_js rfl h (fun c => rfl)
/-! ### has_more -/
abbrev s_has_more : Stmt := top 12
abbrev N_has_more : List Str := ["seats", "lot", "party"]
theorem sc_has_more : FnScope N_has_more ["seats", "lot"] (defScope s_has_more) := ⟨rfl, rfl, rfl, by decide +kernel, rfl, by decide +kernel, by decide +kernel⟩
theorem b_has_more (t : Tx K mg) : Binds K t.d_has_more ["seats", "lot"] [] := t.F_has_more.binds (ps := ["seats", "lot"]) fun _ _ _ _ _ _ us hl => match us, hl with | [_, _], _ => rfl
def B_has_more : SemS := (sRet (d2 pGt (oVal (d2 pMulA (oVal (dC (.int 2))) (oVal (dA pSum (aCons (oVal (dFrz (dLc (itA seq1 (it1 (oVal (dVar 1)))) ([2] : List Nat) (tgN 2) dYes (d2 pIx (oVal (dVar 0)) (oVal (dVar 2)))))) aNil))))) (oVal (dA pSum (aCons (oVal (dVar 0)) aNil)))))
def F_has_more : Fn := runI N_has_more.length B_has_more
theorem ok_has_more (t : Tx K mg) : FnOk P w K mg base (L2.CX P w) 1 t.a_has_more t.d_has_more ["seats", "lot"] (spD K t.T t.ca 2 F_has_more) :=
  fn_I (fn_D (k := 0) t.F_has_more sc_has_more (by decide) fun cdv A outer s H E hr =>
    (ds_one (ds_ret (de_cmp op_gt r_gt (do_val (de_op op_mulB r_mulB (do_val de_int) (do_val (de_callB (cr_sumA rfl) r_sum rfl t.n_sum rfl (da_cons (do_val (de_frz (dn_lc (own := [("party", 2)]) rfl sc_has_more.nd (di_seq rfl (do_val (de_var (pe_var (i := 1) rfl (by first | exact .inl rfl | exact .inr (.inl rfl) | exact .inr (.inr rfl)))))) (blkOk_by (sc := defScope s_has_more) (N := N_has_more) (by decide +kernel)) (fun _ _ _ _ _ => (dg_name (pg_name (i := 2) sc_has_more.nd rfl (by first | exact .inl rfl | exact .inr rfl)))) (fun _ _ _ _ _ => dts_nil) (fun _ _ _ _ _ => (de_ix ix_two r_ix (do_val (de_var (pe_var (i := 0) rfl (by first | exact .inl rfl | exact .inr (.inl rfl) | exact .inr (.inr rfl))))) (do_val (de_var (pe_var (i := 2) rfl (by first | exact .inl rfl | exact .inr (.inl rfl) | exact .inr (.inr rfl))))) (fun _ _ => rfl))) (by decide)))) da_nil))))) (do_val (de_callB (cr_sumA rfl) r_sum rfl t.n_sum rfl (da_cons (do_val (de_var (pe_var (i := 0) rfl (by first | exact .inl rfl | exact .inr (.inl rfl) | exact .inr (.inr rfl))))) da_nil))) (nomark _))))) (by decide)
theorem z_has_more_1 (a_seats : PyData) (a_lot : PyData) (x1 : PyData) : LcS (tgN 2) dYes (d2 pIx (oVal (dVar 0)) (oVal (dVar 2))) [2] [.dat a_seats, .dat a_lot, .no] x1 ((pIx a_seats x1 >>= fun v4 => .ok (some v4))) := by
  have h : LcS (tgN 2) dYes (d2 pIx (oVal (dVar 0)) (oVal (dVar 2))) [2] [.dat a_seats, .dat a_lot, .no] x1 _ :=
    xlc_step1 (eg_n rfl) (fun p2 => (xv_d2 nx_pIx (xo_val (xv_var rfl)) (xo_val (xv_var rfl)) rs_val rs_val)) (fun _ => rfl)
  exact h
theorem t_has_more (a_seats : PyData) (a_lot : PyData) : F_has_more [.dat a_seats, .dat a_lot] = P_has_more a_seats a_lot >>= fun c_ => .ok (.dat c_, [.dat a_seats, .dat a_lot]) := by
  have h : Js B_has_more [.dat a_seats, .dat a_lot, .no] _ (fun (c_ : PyData) => .ret (.dat c_) [.no, .no, .no]) :=
    (js_same (jl_ret (xv_d2 nx_pGt (xo_val (xv_d2 nx_pMulA (xo_val xv_c) (xo_val (xv_dA nx_pSum (xa_val (xv_dFrz (xv_dLc (w := [.dat a_seats, .dat a_lot, .no]) (e2 := [.dat a_seats, .dat a_lot, .no]) _ (ei_seq (xa_val (xv_var rfl) xa_nil) (fun _ => rfl)) rfl rfl rfl rfl (z_has_more_1 a_seats a_lot))) xa_nil))) rs_val rs_val)) (xo_val (xv_dA nx_pSum (xa_val (xv_var rfl) xa_nil))) rs_val rs_val)) (fun _ => rfl))
  exact fn_js rfl h (fun c => rfl)
/-! ### has_both -/
abbrev s_has_both : Stmt := top 18
abbrev N_has_both : List Str := ["one", "other", "lot"]
theorem sc_has_both : FnScope N_has_both ["one", "other", "lot"] (defScope s_has_both) := ⟨rfl, rfl, rfl, by decide +kernel, rfl, by decide +kernel, by decide +kernel⟩
theorem b_has_both (t : Tx K mg) : Binds K t.d_has_both ["one", "other", "lot"] [] := t.F_has_both.binds (ps := ["one", "other", "lot"]) fun _ _ _ _ _ _ us hl => match us, hl with | [_, _, _], _ => rfl
def B_has_both : SemS := (sRet (dAndV (rvE (dCall 2 F_has_more (aCons (oVal (dVar 0)) (aCons (oVal (dVar 2)) aNil)))) (rvE (dCall 2 F_has_more (aCons (oVal (dVar 1)) (aCons (oVal (dVar 2)) aNil))))))
def F_has_both : Fn := runI N_has_both.length B_has_both
theorem ok_has_both (t : Tx K mg) : FnOk P w K mg base (L2.CX P w) 2 t.a_has_both t.d_has_both ["one", "other", "lot"] (spD K t.T t.ca 3 F_has_both) :=
  fn_I (fn_D (k := 1) t.F_has_both sc_has_both (by decide) fun cdv A outer s H E hr =>
    (ds_one (ds_ret (de_and (de_ofV (dv_call (ok_has_more t) (hr.mono (by decide)) rfl t.g_has_more t.F_has_more.kp (b_has_more t) (passes_call (takes_of rfl rfl rfl rfl) fun _ _ _ _ h => h) (da_cons (do_val (de_var (pe_var (i := 0) rfl (by first | exact .inl rfl | exact .inr (.inl rfl) | exact .inr (.inr rfl))))) (da_cons (do_val (de_var (pe_var (i := 2) rfl (by first | exact .inl rfl | exact .inr (.inl rfl) | exact .inr (.inr rfl))))) da_nil)))) (de_one (de_ofV (dv_call (ok_has_more t) (hr.mono (by decide)) rfl t.g_has_more t.F_has_more.kp (b_has_more t) (passes_call (takes_of rfl rfl rfl rfl) fun _ _ _ _ h => h) (da_cons (do_val (de_var (pe_var (i := 1) rfl (by first | exact .inl rfl | exact .inr (.inl rfl) | exact .inr (.inr rfl))))) (da_cons (do_val (de_var (pe_var (i := 2) rfl (by first | exact .inl rfl | exact .inr (.inl rfl) | exact .inr (.inr rfl))))) da_nil))))))))) (by decide)
theorem t_has_both (a_one : PyData) (a_other : PyData) (a_lot : PyData) : F_has_both [.dat a_one, .dat a_other, .dat a_lot] = P_has_both a_one a_other a_lot >>= fun c_ => .ok (.dat c_, [.dat a_one, .dat a_other, .dat a_lot]) := by
  have h : Js B_has_both [.dat a_one, .dat a_other, .dat a_lot] _ (fun (c_ : PyData) => .ret (.dat c_) [.no, .no, .no]) :=
    (js_same (jl_ret (xv_dAndV (xv_rvE (er_call (cl2 (f := F_has_more) (P := P_has_more) (rv := .dat) t_has_more) (ew_val (xv_var rfl) (ew_val (xv_var rfl) ew_nil)))) (xv_rvE (er_call (cl2 (f := F_has_more) (P := P_has_more) (rv := .dat) t_has_more) (ew_val (xv_var rfl) (ew_val (xv_var rfl) ew_nil)))))) (fun _ => rfl))
  exact fn_js rfl h (fun c => rfl)
/-! ### both_win -/
abbrev s_both_win : Stmt := top 19
abbrev N_both_win : List Str := ["one", "other", "lot"]
theorem sc_both_win : FnScope N_both_win ["one", "other", "lot"] (defScope s_both_win) := ⟨rfl, rfl, rfl, by decide +kernel, rfl, by decide +kernel, by decide +kernel⟩
theorem b_both_win (t : Tx K mg) : Binds K t.d_both_win ["one", "other", "lot"] [] := t.F_both_win.binds (ps := ["one", "other", "lot"]) fun _ _ _ _ _ _ us hl => match us, hl with | [_, _, _], _ => rfl
def B_both_win : SemS := (sSeq (sDrop (rvE (dCall 2 F_check_two (aCons (oVal (dVar 0)) (aCons (oVal (dVar 1)) aNil)))))
  (sSeq (sIf (dNot (dB (rvE (dCall 2 F_is_lot (aCons (oVal (dA pLen (aCons (oVal (dVar 0)) aNil))) (aCons (oVal (dVar 2)) aNil)))))) (sExc 1) sNext)
  (sRetV (dCall 3 F_has_both (aCons (oVal (dVar 0)) (aCons (oVal (dVar 1)) (aCons (oVal (dVar 2)) aNil)))))))
def F_both_win : Fn := runI N_both_win.length B_both_win
theorem ok_both_win (t : Tx K mg) : FnOk P w K mg base (L2.CX P w) 5 t.a_both_win t.d_both_win ["one", "other", "lot"] (spD K t.T t.ca 3 F_both_win) :=
  fn_I (fn_D (k := 4) t.F_both_win sc_both_win (by decide) fun cdv A outer s H E hr =>
    (ds_cons (ds_expr (de_ofV (dv_call (ok_check_two t) (hr.mono (by decide)) rfl t.g_check_two t.F_check_two.kp (b_check_two t) (passes_call (takes_of rfl rfl rfl rfl) fun _ _ _ _ h => h) (da_cons (do_val (de_var (pe_var (i := 0) rfl (by first | exact .inl rfl | exact .inr (.inl rfl) | exact .inr (.inr rfl))))) (da_cons (do_val (de_var (pe_var (i := 1) rfl (by first | exact .inl rfl | exact .inr (.inl rfl) | exact .inr (.inr rfl))))) da_nil)))))
    (ds_cons (ds_if (dt_not (dt_val (de_ofV (dv_call (ok_is_lot t) (hr.mono (by decide)) rfl t.g_is_lot t.F_is_lot.kp (b_is_lot t) (passes_call (takes_of rfl rfl rfl rfl) fun _ _ _ _ h => h) (da_cons (do_val (de_callB (cr_lenA) r_len rfl t.n_len rfl (da_cons (do_val (de_var (pe_var (i := 0) rfl (by first | exact .inl rfl | exact .inr (.inl rfl) | exact .inr (.inr rfl))))) da_nil))) (da_cons (do_val (de_var (pe_var (i := 2) rfl (by first | exact .inl rfl | exact .inr (.inl rfl) | exact .inr (.inr rfl))))) da_nil)))))) (ds_one (ds_raise0 rfl (takes_of rfl rfl rfl rfl) PySem.F.excBase_ValueError t.q_BadLot t.g_BadLot t.k_BadLot (raises_own t.s_BadLot t.y_BadLot) rfl rfl)) ds_nil)
    (ds_one (ds_retV (dv_call (ok_has_both t) (hr.mono (by decide)) rfl t.g_has_both t.F_has_both.kp (b_has_both t) (passes_call (takes_of rfl rfl rfl rfl) fun _ _ _ _ h => h) (da_cons (do_val (de_var (pe_var (i := 0) rfl (by first | exact .inl rfl | exact .inr (.inl rfl) | exact .inr (.inr rfl))))) (da_cons (do_val (de_var (pe_var (i := 1) rfl (by first | exact .inl rfl | exact .inr (.inl rfl) | exact .inr (.inr rfl))))) (da_cons (do_val (de_var (pe_var (i := 2) rfl (by first | exact .inl rfl | exact .inr (.inl rfl) | exact .inr (.inr rfl))))) da_nil))))))))) (by decide)
theorem t_both_win (a_one : PyData) (a_other : PyData) (a_lot : PyData) : F_both_win [.dat a_one, .dat a_other, .dat a_lot] = P_both_win a_one a_other a_lot >>= fun c_ => .ok (.dat c_, [.dat a_one, .dat a_other, .dat a_lot]) := by
  have h : Js B_both_win [.dat a_one, .dat a_other, .dat a_lot] _ (fun (c_ : PyData) => .ret (.dat c_) [.no, .no, .no]) :=
    (js_seq (E := fun (u1 : PyData) => [.dat a_one, .dat a_other, .dat a_lot]) (js_same (jl_drop (xv_rvE (er_unit (er_call (cl2 (f := F_check_two) (P := P_check_two) (rv := fun _ => .dat .none) t_check_two) (ew_val (xv_var rfl) (ew_val (xv_var rfl) ew_nil)))))) (fun _ => rfl)) fun u1 =>
    (js_ifx nn_exc (xv_dNot (xv_dB (xv_rvE (er_call (cl2 (f := F_is_lot) (P := P_is_lot) (rv := .dat) t_is_lot) (ew_val (xv_dA nx_pLen (xa_val (xv_var rfl) xa_nil)) (ew_val (xv_var rfl) ew_nil)))))) js_exc
    (js_same (jl_retV (er_call (cl3 (f := F_has_both) (P := P_has_both) (rv := .dat) t_has_both) (ew_val (xv_var rfl) (ew_val (xv_var rfl) (ew_val (xv_var rfl) ew_nil))))) (fun _ => rfl))))
  exact fn_js rfl h (fun c => rfl)
/-! ### all_lots -/
abbrev s_all_lots : Stmt := top 14
abbrev N_all_lots : List Str := ["many", "found", "last", "turn", "lot", "one"]
theorem sc_all_lots : FnScope N_all_lots ["many"] (defScope s_all_lots) := ⟨rfl, rfl, rfl, by decide +kernel, rfl, by decide +kernel, by decide +kernel⟩
theorem b_all_lots (t : Tx K mg) : Binds K t.d_all_lots ["many"] [] := t.F_all_lots.binds (ps := ["many"]) fun _ _ _ _ _ _ us hl => match us, hl with | [_], _ => rfl
def B_all_lots : SemS := (sSeq (sPar 1 2 (rvD (dFrz (dLst (aCons (oVal (dTup aNil)) aNil)))) (rvD (dFrz (dLst (aCons (oVal (dTup aNil)) aNil)))))
  (sSeq (sClr [0, 2] (sFor (itA rng1 (aCons (oVal (dVar 0)) aNil)) (tgN 3) (sSeq (sClr [3] (sAsg (dFrz (dLc2 (itA seq1 (it1 (oVal (dVar 2)))) ([4, 5] : List Nat) (tgN 4) dYes (itA rng2 (aCons (oVal (dIf (dB (d2 pGt (oVal (dA pLen (aCons (oVal (dVar 4)) aNil))) (oVal (dC (.int 0))))) (d2 pAddA (oVal (d2 pIx (oVal (dVar 4)) (oVal (d1 pNeg (oVal (dC (.int 1))))))) (oVal (dC (.int 1)))) (dC (.int 0)))) (aCons (oVal (dVar 0)) aNil))) ([5] : List Nat) (tgN 5) dYes (d2 pAddA (oVal (dVar 4)) (oVal (dTup (aCons (oVal (dVar 5)) aNil)))))) (tgN 2)))
  (sAsg (d2 pAddA (oVal (dVar 1)) (oVal (dVar 2))) (tgN 1)))))
  (sRet (dVar 1))))
def F_all_lots : Fn := runI N_all_lots.length B_all_lots
theorem ok_all_lots (t : Tx K mg) : FnOk P w K mg base (L2.CX P w) 1 t.a_all_lots t.d_all_lots ["many"] (spD K t.T t.ca 1 F_all_lots) :=
  fn_I (fn_D (k := 0) t.F_all_lots sc_all_lots (by decide) fun cdv A outer s H E hr =>
    (ds_cons (ds_par (i := 1) (j := 2) rfl sc_all_lots.nd rfl rfl (by decide) rfl rfl (dv_ofE (de_frz (dn_lst (da_cons (do_val (de_tup da_nil)) da_nil)))) (dv_ofE (de_frz (dn_lst (da_cons (do_val (de_tup da_nil)) da_nil)))) rfl)
    (ds_cons (ds_clr [0, 2] (ds_for (passes_of rfl) rfl (di_range1 rfl t.n_range (da_cons (do_val (de_var (pe_var (i := 0) rfl (by first | exact .inl rfl | exact .inr (.inl rfl) | exact .inr (.inr rfl))))) da_nil)) (dg_name (pg_name (i := 3) sc_all_lots.nd rfl (by first | exact .inl rfl | exact .inr rfl))) (ds_cons (ds_clr [3] (ds_setLc2 (own := [("lot", 4), ("one", 5)]) (i := 2) rfl sc_all_lots.nd rfl rfl rfl (di_seq rfl (do_val (de_var (pe_var (i := 2) rfl (by first | exact .inl rfl | exact .inr (.inl rfl) | exact .inr (.inr rfl)))))) (blkOk_by (sc := defScope s_all_lots) (N := N_all_lots) (by decide +kernel)) (by decide) (fun _ _ _ _ _ => (dg_name (pg_name (i := 4) sc_all_lots.nd rfl (by first | exact .inl rfl | exact .inr rfl)))) (fun _ _ _ _ _ => dts_nil) (fun _ _ _ _ _ => (di_range2 rfl t.n_range (da_cons (do_val (de_if (dt_cmp op_gt r_gt (do_val (de_callB (cr_lenA) r_len rfl t.n_len rfl (da_cons (do_val (de_var (pe_var (i := 4) rfl (by first | exact .inl rfl | exact .inr (.inl rfl) | exact .inr (.inr rfl))))) da_nil))) (do_val de_int) (nomark _)) (de_op op_addA r_addA (do_val (de_ix ix_two r_ix (do_val (de_var (pe_var (i := 4) rfl (by first | exact .inl rfl | exact .inr (.inl rfl) | exact .inr (.inr rfl))))) (do_val (de_un un_neg r_neg (do_val de_int))) (fun _ _ => rfl))) (do_val de_int)) de_int)) (da_cons (do_val (de_var (pe_var (i := 0) rfl (by first | exact .inl rfl | exact .inr (.inl rfl) | exact .inr (.inr rfl))))) da_nil)))) (fun _ _ _ _ _ => (dg_name (pg_name (i := 5) sc_all_lots.nd rfl (by first | exact .inl rfl | exact .inr rfl)))) (fun _ _ _ _ _ => dts_nil) (fun _ _ _ _ _ => (de_op op_addA r_addA (do_val (de_var (pe_var (i := 4) rfl (by first | exact .inl rfl | exact .inr (.inl rfl) | exact .inr (.inr rfl))))) (do_val (de_tup (da_cons (do_val (de_var (pe_var (i := 5) rfl (by first | exact .inl rfl | exact .inr (.inl rfl) | exact .inr (.inr rfl))))) da_nil))))) (by decide) (by decide)))
    (ds_one (ds_set (i := 1) sc_all_lots.nd rfl (by first | exact .inl rfl | exact .inr rfl) (de_op op_addA r_addA (do_val (de_var (pe_var (i := 1) rfl (by first | exact .inl rfl | exact .inr (.inl rfl) | exact .inr (.inr rfl))))) (do_val (de_var (pe_var (i := 2) rfl (by first | exact .inl rfl | exact .inr (.inl rfl) | exact .inr (.inr rfl)))))))))))
    (ds_one (ds_ret (de_var (pe_var (i := 1) rfl (by first | exact .inl rfl | exact .inr (.inl rfl) | exact .inr (.inr rfl))))))))) (by decide)
theorem z_all_lots_1 (a_many : PyData) (u1 : PyData × PyData) (s3 : PyData × PyData) (p4 : PyData) (p22 : PyData) (x23 : PyData) : LcS (tgN 5) dYes (d2 pAddA (oVal (dVar 4)) (oVal (dTup (aCons (oVal (dVar 5)) aNil)))) [5] [.dat a_many, .dat s3.1, .dat s3.2, .dat p4, .dat p22, .no] x23 ((pAddA p22 (PyData.tuple [x23]) >>= fun v40 => .ok (some v40))) := by
  have h : LcS (tgN 5) dYes (d2 pAddA (oVal (dVar 4)) (oVal (dTup (aCons (oVal (dVar 5)) aNil)))) [5] [.dat a_many, .dat s3.1, .dat s3.2, .dat p4, .dat p22, .no] x23 _ :=
    xlc_step1 (eg_n rfl) (fun p24 => (xv_d2 nx_pAddA (xo_val (xv_var rfl)) (xo_val (xv_dTup (ew_val (xv_var rfl) ew_nil) (by decide))) rs_val rs_val)) (fun _ => rfl)
  exact h
theorem z_all_lots_2 (a_many : PyData) (u1 : PyData × PyData) (s3 : PyData × PyData) (p4 : PyData) (x21 : PyData) : LcS2 (tgN 4) dYes (itA rng2 (aCons (oVal (dIf (dB (d2 pGt (oVal (dA pLen (aCons (oVal (dVar 4)) aNil))) (oVal (dC (.int 0))))) (d2 pAddA (oVal (d2 pIx (oVal (dVar 4)) (oVal (d1 pNeg (oVal (dC (.int 1))))))) (oVal (dC (.int 1)))) (dC (.int 0)))) (aCons (oVal (dVar 0)) aNil))) [5] (tgN 5) dYes (d2 pAddA (oVal (dVar 4)) (oVal (dTup (aCons (oVal (dVar 5)) aNil)))) [4, 5] [.dat a_many, .dat s3.1, .dat s3.2, .dat p4, .no, .no] x21 ((((((pLen [x21] >>= fun v33 => pGt v33 (PyData.int 0)) >>= fun v34 => asB v34) >>= fun b37 => if b37 = true then ((pNeg (PyData.int 1) >>= fun v35 => pIx x21 v35) >>= fun v36 => pAddA v36 (PyData.int 1)) else .ok (PyData.int 0)) >>= fun v38 => rng2 [v38, a_many]) >>= fun v41 => lc20 (fun x23 => (pAddA x21 (PyData.tuple [x23]) >>= fun v39 => .ok (some v39))) v41)) := by
  have h : LcS2 (tgN 4) dYes (itA rng2 (aCons (oVal (dIf (dB (d2 pGt (oVal (dA pLen (aCons (oVal (dVar 4)) aNil))) (oVal (dC (.int 0))))) (d2 pAddA (oVal (d2 pIx (oVal (dVar 4)) (oVal (d1 pNeg (oVal (dC (.int 1))))))) (oVal (dC (.int 1)))) (dC (.int 0)))) (aCons (oVal (dVar 0)) aNil))) [5] (tgN 5) dYes (d2 pAddA (oVal (dVar 4)) (oVal (dTup (aCons (oVal (dVar 5)) aNil)))) [4, 5] [.dat a_many, .dat s3.1, .dat s3.2, .dat p4, .no, .no] x21 _ :=
    xlc2_step1 (eg_n rfl) (fun p22 => (ei_itA nx_rng2 (xa_val (xv_dIf (xv_dB (xv_d2 nx_pGt (xo_val (xv_dA nx_pLen (xa_val (xv_var rfl) xa_nil))) (xo_val xv_c) rs_val rs_val)) (xv_d2 nx_pAddA (xo_val (xv_d2 nx_pIx (xo_val (xv_var rfl)) (xo_val (xv_d1 nx_pNeg (xo_val xv_c) rs_val)) rs_val rs_val)) (xo_val xv_c) rs_val rs_val) xv_c) (xa_val (xv_var rfl) xa_nil)) (fun _ => rfl))) (fun _ => rfl) (fun p22 => (z_all_lots_1 a_many u1 s3 p4 p22)) (fun _ => rfl) (fun _ => rfl)
  exact h
theorem z_all_lots_3 (a_many : PyData) (u1 : PyData × PyData) (s3 : PyData × PyData) (p4 : PyData) : Js (sSeq (sClr [3] (sAsg (dFrz (dLc2 (itA seq1 (it1 (oVal (dVar 2)))) ([4, 5] : List Nat) (tgN 4) dYes (itA rng2 (aCons (oVal (dIf (dB (d2 pGt (oVal (dA pLen (aCons (oVal (dVar 4)) aNil))) (oVal (dC (.int 0))))) (d2 pAddA (oVal (d2 pIx (oVal (dVar 4)) (oVal (d1 pNeg (oVal (dC (.int 1))))))) (oVal (dC (.int 1)))) (dC (.int 0)))) (aCons (oVal (dVar 0)) aNil))) ([5] : List Nat) (tgN 5) dYes (d2 pAddA (oVal (dVar 4)) (oVal (dTup (aCons (oVal (dVar 5)) aNil)))))) (tgN 2)))
  (sAsg (d2 pAddA (oVal (dVar 1)) (oVal (dVar 2))) (tgN 1))) [.dat a_many, .dat s3.1, .dat s3.2, .dat p4, .no, .no] ((((seqOf s3.2 >>= fun v42 => lcR2 (fun x21 => (((((pLen [x21] >>= fun v25 => pGt v25 (PyData.int 0)) >>= fun v26 => asB v26) >>= fun b29 => if b29 = true then ((pNeg (PyData.int 1) >>= fun v27 => pIx x21 v27) >>= fun v28 => pAddA v28 (PyData.int 1)) else .ok (PyData.int 0)) >>= fun v30 => rng2 [v30, a_many]) >>= fun v32 => lc20 (fun x23 => (pAddA x21 (PyData.tuple [x23]) >>= fun v31 => .ok (some v31))) v32)) v42) >>= fun v43 => .ok (PyData.list v43)) >>= fun u44 =>
    (pAddA s3.1 u44 >>= fun u45 => .ok (u45, u44)))) (fun (s3 : PyData × PyData) => .next [.dat a_many, .dat s3.1, .dat s3.2, .no, .no, .no]) := by
  have h : Js (sSeq (sClr [3] (sAsg (dFrz (dLc2 (itA seq1 (it1 (oVal (dVar 2)))) ([4, 5] : List Nat) (tgN 4) dYes (itA rng2 (aCons (oVal (dIf (dB (d2 pGt (oVal (dA pLen (aCons (oVal (dVar 4)) aNil))) (oVal (dC (.int 0))))) (d2 pAddA (oVal (d2 pIx (oVal (dVar 4)) (oVal (d1 pNeg (oVal (dC (.int 1))))))) (oVal (dC (.int 1)))) (dC (.int 0)))) (aCons (oVal (dVar 0)) aNil))) ([5] : List Nat) (tgN 5) dYes (d2 pAddA (oVal (dVar 4)) (oVal (dTup (aCons (oVal (dVar 5)) aNil)))))) (tgN 2)))
  (sAsg (d2 pAddA (oVal (dVar 1)) (oVal (dVar 2))) (tgN 1))) [.dat a_many, .dat s3.1, .dat s3.2, .dat p4, .no, .no] _ (fun (s3 : PyData × PyData) => .next [.dat a_many, .dat s3.1, .dat s3.2, .no, .no, .no]) :=
    (js_seq (E := fun (u44 : PyData) => [.dat a_many, .dat s3.1, .dat u44, .no, .no, .no]) (js_same (js_clr (jl_asg (xv_dFrz (xv_dLc2 (w := [.dat a_many, .dat s3.1, .dat s3.2, .dat p4, .no, .no]) (e2 := [.dat a_many, .dat s3.1, .dat s3.2, .dat p4, .no, .no]) _ (ei_seq (xa_val (xv_var rfl) xa_nil) (fun _ => rfl)) rfl rfl rfl (z_all_lots_2 a_many u1 s3 p4))) rfl)) (fun _ => rfl)) fun u44 =>
    (js_map (w := fun (u45 : PyData) => (u45, u44)) (jl_asg (xv_d2 nx_pAddA (xo_val (xv_var rfl)) (xo_val (xv_var rfl)) rs_val rs_val) rfl) (fun _ => rfl)))
  exact h
theorem t_all_lots (a_many : PyData) : F_all_lots [.dat a_many] = P_all_lots a_many >>= fun c_ => .ok (.dat c_, [.dat a_many]) := by
  have h : Js B_all_lots [.dat a_many, .no, .no, .no, .no, .no] _ (fun (c_ : PyData) => .ret (.dat c_) [.no, .no, .no, .no, .no, .no]) :=
    (js_seq (E := fun (u1 : PyData × PyData) => [.dat a_many, .dat u1.1, .dat u1.2, .no, .no, .no]) (js_same (jl_par (er_rvD (xv_dFrz (xv_dLst (ew_val (xv_dTup ew_nil (by decide)) ew_nil) (by decide)))) (er_rvD (xv_dFrz (xv_dLst (ew_val (xv_dTup ew_nil (by decide)) ew_nil) (by decide)))) rfl (fun _ => .inr trivial) (fun r => by cases r <;> rfl)) (fun _ => rfl)) fun u1 =>
    (js_seq (E := fun (u47 : PyData × PyData) => [.no, .dat u47.1, .no, .no, .no, .no]) (js_same (js_clr (jl_for (E := (fun (s3 : PyData × PyData) => [.dat a_many, .dat s3.1, .dat s3.2, .no, .no, .no])) (s0 := (u1.1, u1.2)) (ei_itA nx_rng1 (xa_val (xv_var rfl) xa_nil) (fun _ => rfl)) (fun x2 s3 => jb_of (E := fun (p4 : PyData) => [.dat a_many, .dat s3.1, .dat s3.2, .dat p4, .no, .no]) (eg_n rfl) (fun p4 => (z_all_lots_3 a_many u1) s3 p4)))) (fun _ => rfl)) fun u47 =>
    (js_same (jl_ret (xv_var rfl)) (fun _ => rfl))))
  exact fn_js rfl h (fun c => rfl)
/-! ### without -/
abbrev s_without : Stmt := top 15
abbrev N_without : List Str := ["lot", "party", "one"]
theorem sc_without : FnScope N_without ["lot", "party"] (defScope s_without) := ⟨rfl, rfl, rfl, by decide +kernel, rfl, by decide +kernel, by decide +kernel⟩
theorem b_without (t : Tx K mg) : Binds K t.d_without ["lot", "party"] [] := t.F_without.binds (ps := ["lot", "party"]) fun _ _ _ _ _ _ us hl => match us, hl with | [_, _], _ => rfl
def B_without : SemS := (sRet (dA pTuple (aCons (oVal (dFrz (dLc (itA seq1 (it1 (oVal (dVar 0)))) ([2] : List Nat) (tgN 2) (dB (d2 pNe (oVal (dVar 2)) (oVal (dVar 1)))) (dVar 2)))) aNil)))
def F_without : Fn := runI N_without.length B_without
theorem ok_without (t : Tx K mg) : FnOk P w K mg base (L2.CX P w) 1 t.a_without t.d_without ["lot", "party"] (spD K t.T t.ca 2 F_without) :=
  fn_I (fn_D (k := 0) t.F_without sc_without (by decide) fun cdv A outer s H E hr =>
    (ds_one (ds_ret (de_callT (call_tuple_of) r_tuple rfl t.n_tuple rfl (da_cons (do_val (de_frz (dn_lc (own := [("one", 2)]) rfl sc_without.nd (di_seq rfl (do_val (de_var (pe_var (i := 0) rfl (by first | exact .inl rfl | exact .inr (.inl rfl) | exact .inr (.inr rfl)))))) (blkOk_by (sc := defScope s_without) (N := N_without) (by decide +kernel)) (fun _ _ _ _ _ => (dg_name (pg_name (i := 2) sc_without.nd rfl (by first | exact .inl rfl | exact .inr rfl)))) (fun _ _ _ _ _ => (dts_one (dt_cmp (op_neD hr.units) r_ne (do_val (de_var (pe_var (i := 2) rfl (by first | exact .inl rfl | exact .inr (.inl rfl) | exact .inr (.inr rfl))))) (do_val (de_var (pe_var (i := 1) rfl (by first | exact .inl rfl | exact .inr (.inl rfl) | exact .inr (.inr rfl))))) (nomark _)))) (fun _ _ _ _ _ => (de_var (pe_var (i := 2) rfl (by first | exact .inl rfl | exact .inr (.inl rfl) | exact .inr (.inr rfl))))) (by decide)))) da_nil))))) (by decide)
theorem z_without_1 (a_lot : PyData) (a_party : PyData) (x1 : PyData) : LcS (tgN 2) (dB (d2 pNe (oVal (dVar 2)) (oVal (dVar 1)))) (dVar 2) [2] [.dat a_lot, .dat a_party, .no] x1 (((pNe x1 a_party >>= fun v5 => asB v5) >>= fun b6 => if b6 = true then .ok (some x1) else .ok none)) := by
  have h : LcS (tgN 2) (dB (d2 pNe (oVal (dVar 2)) (oVal (dVar 1)))) (dVar 2) [2] [.dat a_lot, .dat a_party, .no] x1 _ :=
    xlc_step (eg_n rfl) (fun p2 => (xv_dB (xv_d2 nx_pNe (xo_val (xv_var rfl)) (xo_val (xv_var rfl)) rs_val rs_val))) (fun p2 => (xv_var rfl)) (fun _ => rfl)
  exact h
theorem t_without (a_lot : PyData) (a_party : PyData) : F_without [.dat a_lot, .dat a_party] = P_without a_lot a_party >>= fun c_ => .ok (.dat c_, [.dat a_lot, .dat a_party]) := by
  have h : Js B_without [.dat a_lot, .dat a_party, .no] _ (fun (c_ : PyData) => .ret (.dat c_) [.no, .no, .no]) :=
    (js_same (jl_ret (xv_dA nx_pTuple (xa_val (xv_dFrz (xv_dLc (w := [.dat a_lot, .dat a_party, .no]) (e2 := [.dat a_lot, .dat a_party, .no]) _ (ei_seq (xa_val (xv_var rfl) xa_nil) (fun _ => rfl)) rfl rfl rfl rfl (z_without_1 a_lot a_party))) xa_nil))) (fun _ => rfl))
  exact fn_js rfl h (fun c => rfl)
/-! ### least_both -/
abbrev s_least_both : Stmt := top 20
abbrev N_least_both : List Str := ["one", "other", "found", "lot", "party"]
theorem sc_least_both : FnScope N_least_both ["one", "other"] (defScope s_least_both) := ⟨rfl, rfl, rfl, by decide +kernel, rfl, by decide +kernel, by decide +kernel⟩
theorem b_least_both (t : Tx K mg) : Binds K t.d_least_both ["one", "other"] [] := t.F_least_both.binds (ps := ["one", "other"]) fun _ _ _ _ _ _ us hl => match us, hl with | [_, _], _ => rfl
def B_least_both : SemS := (sSeq (sDrop (rvE (dCall 2 F_check_two (aCons (oVal (dVar 0)) (aCons (oVal (dVar 1)) aNil)))))
  (sSeq (sOwn (dLst aNil) 2)
  (sSeq (sClr [0, 1] (sFor (itA seq1 (it1 (oVal (rvE (dCall 1 F_all_lots (aCons (oVal (dA pLen (aCons (oVal (dVar 0)) aNil))) aNil)))))) (tgN 3) (sIf (dAnd (dB (rvE (dCall 3 F_has_both (aCons (oVal (dVar 0)) (aCons (oVal (dVar 1)) (aCons (oVal (dVar 3)) aNil)))))) (dNot (dB (dA pAny (aCons (oVal (dFrz (dLc (itA seq1 (it1 (oVal (dVar 3)))) ([4] : List Nat) (tgN 4) dYes (rvE (dCall 3 F_has_both (aCons (oVal (dVar 0)) (aCons (oVal (dVar 1)) (aCons (oVal (rvE (dCall 2 F_without (aCons (oVal (dVar 3)) (aCons (oVal (dVar 4)) aNil))))) aNil)))))))) aNil))))) (sClr [3] (sAppend 2 (dVar 3))) (sClr [3] sNext))))
  (sRet (dVarF 2)))))
def F_least_both : Fn := runI N_least_both.length B_least_both
theorem ok_least_both (t : Tx K mg) : FnOk P w K mg base (L2.CX P w) 5 t.a_least_both t.d_least_both ["one", "other"] (spD K t.T t.ca 2 F_least_both) :=
  fn_I (fn_D (k := 4) t.F_least_both sc_least_both (by decide) fun cdv A outer s H E hr =>
    (ds_cons (ds_expr (de_ofV (dv_call (ok_check_two t) (hr.mono (by decide)) rfl t.g_check_two t.F_check_two.kp (b_check_two t) (passes_call (takes_of rfl rfl rfl rfl) fun _ _ _ _ h => h) (da_cons (do_val (de_var (pe_var (i := 0) rfl (by first | exact .inl rfl | exact .inr (.inl rfl) | exact .inr (.inr rfl))))) (da_cons (do_val (de_var (pe_var (i := 1) rfl (by first | exact .inl rfl | exact .inr (.inl rfl) | exact .inr (.inr rfl))))) da_nil)))))
    (ds_cons (ds_own (i := 2) sc_least_both.nd rfl (by first | exact .inl rfl | exact .inr rfl) (dn_lst da_nil))
    (ds_cons (ds_clr [0, 1] (ds_for (passes_of rfl) rfl (di_seq rfl (do_val (de_ofV (dv_call (ok_all_lots t) (hr.mono (by decide)) rfl t.g_all_lots t.F_all_lots.kp (b_all_lots t) (passes_call (takes_of rfl rfl rfl rfl) fun _ _ _ _ h => h) (da_cons (do_val (de_callB (cr_lenA) r_len rfl t.n_len rfl (da_cons (do_val (de_var (pe_var (i := 0) rfl (by first | exact .inl rfl | exact .inr (.inl rfl) | exact .inr (.inr rfl))))) da_nil))) da_nil))))) (dg_name (pg_name (i := 3) sc_least_both.nd rfl (by first | exact .inl rfl | exact .inr rfl))) (ds_one (ds_if (PW.pt (dw_and (dt_val (de_ofV (dv_call (ok_has_both t) (hr.mono (by decide)) rfl t.g_has_both t.F_has_both.kp (b_has_both t) (passes_call (takes_of rfl rfl rfl rfl) fun _ _ _ _ h => h) (da_cons (do_val (de_var (pe_var (i := 0) rfl (by first | exact .inl rfl | exact .inr (.inl rfl) | exact .inr (.inr rfl))))) (da_cons (do_val (de_var (pe_var (i := 1) rfl (by first | exact .inl rfl | exact .inr (.inl rfl) | exact .inr (.inr rfl))))) (da_cons (do_val (de_var (pe_var (i := 3) rfl (by first | exact .inl rfl | exact .inr (.inl rfl) | exact .inr (.inr rfl))))) da_nil)))))) (dw_1and (dt_not (dt_val (de_callB (cr_any rfl) r_any rfl t.n_any rfl (da_cons (do_val (de_frz (dn_lc (own := [("party", 4)]) rfl sc_least_both.nd (di_seq rfl (do_val (de_var (pe_var (i := 3) rfl (by first | exact .inl rfl | exact .inr (.inl rfl) | exact .inr (.inr rfl)))))) (blkOk_by (sc := defScope s_least_both) (N := N_least_both) (by decide +kernel)) (fun _ _ _ _ _ => (dg_name (pg_name (i := 4) sc_least_both.nd rfl (by first | exact .inl rfl | exact .inr rfl)))) (fun _ _ _ _ _ => dts_nil) (fun _ _ _ _ _ => (de_ofV (dv_call (ok_has_both t) (hr.mono (by decide)) rfl t.g_has_both t.F_has_both.kp (b_has_both t) passL (da_cons (do_val (de_var (pe_var (i := 0) rfl (by first | exact .inl rfl | exact .inr (.inl rfl) | exact .inr (.inr rfl))))) (da_cons (do_val (de_var (pe_var (i := 1) rfl (by first | exact .inl rfl | exact .inr (.inl rfl) | exact .inr (.inr rfl))))) (da_cons (do_val (de_ofV (dv_call (ok_without t) (hr.mono (by decide)) rfl t.g_without t.F_without.kp (b_without t) passL (da_cons (do_val (de_var (pe_var (i := 3) rfl (by first | exact .inl rfl | exact .inr (.inl rfl) | exact .inr (.inr rfl))))) (da_cons (do_val (de_var (pe_var (i := 4) rfl (by first | exact .inl rfl | exact .inr (.inl rfl) | exact .inr (.inr rfl))))) da_nil))))) da_nil)))))) (by decide)))) da_nil))))))) (ds_one (ds_clr [3] (ds_app (pe_var (i := 2) rfl (by first | exact .inl rfl | exact .inr (.inl rfl) | exact .inr (.inr rfl))) (de_var (pe_var (i := 3) rfl (by first | exact .inl rfl | exact .inr (.inl rfl) | exact .inr (.inr rfl))))))) (dss_clr [3] ds_nil)))))
    (ds_one (ds_ret (de_varF (pe_var (i := 2) rfl (by first | exact .inl rfl | exact .inr (.inl rfl) | exact .inr (.inr rfl)))))))))) (by decide)
theorem z_least_both_1 (a_one : PyData) (a_other : PyData) (u1 : PyData) (u2 : List PyData) (s6 : List PyData) (p7 : PyData) (x22 : PyData) : LcS (tgN 4) dYes (rvE (dCall 3 F_has_both (aCons (oVal (dVar 0)) (aCons (oVal (dVar 1)) (aCons (oVal (rvE (dCall 2 F_without (aCons (oVal (dVar 3)) (aCons (oVal (dVar 4)) aNil))))) aNil))))) [4] [.dat a_one, .dat a_other, .own false s6, .dat p7, .no] x22 (((P_without p7 x22 >>= fun v26 => P_has_both a_one a_other v26) >>= fun v27 => .ok (some v27))) := by
  have h : LcS (tgN 4) dYes (rvE (dCall 3 F_has_both (aCons (oVal (dVar 0)) (aCons (oVal (dVar 1)) (aCons (oVal (rvE (dCall 2 F_without (aCons (oVal (dVar 3)) (aCons (oVal (dVar 4)) aNil))))) aNil))))) [4] [.dat a_one, .dat a_other, .own false s6, .dat p7, .no] x22 _ :=
    xlc_step1 (eg_n rfl) (fun p23 => (xv_rvE (er_call (cl3 (f := F_has_both) (P := P_has_both) (rv := .dat) t_has_both) (ew_val (xv_var rfl) (ew_val (xv_var rfl) (ew_val (xv_rvE (er_call (cl2 (f := F_without) (P := P_without) (rv := .dat) t_without) (ew_val (xv_var rfl) (ew_val (xv_var rfl) ew_nil)))) ew_nil)))))) (fun _ => rfl)
  exact h
theorem z_least_both_2 (a_one : PyData) (a_other : PyData) (u1 : PyData) (u2 : List PyData) (s6 : List PyData) (p7 : PyData) : Js (sIf (dAnd (dB (rvE (dCall 3 F_has_both (aCons (oVal (dVar 0)) (aCons (oVal (dVar 1)) (aCons (oVal (dVar 3)) aNil)))))) (dNot (dB (dA pAny (aCons (oVal (dFrz (dLc (itA seq1 (it1 (oVal (dVar 3)))) ([4] : List Nat) (tgN 4) dYes (rvE (dCall 3 F_has_both (aCons (oVal (dVar 0)) (aCons (oVal (dVar 1)) (aCons (oVal (rvE (dCall 2 F_without (aCons (oVal (dVar 3)) (aCons (oVal (dVar 4)) aNil))))) aNil)))))))) aNil))))) (sClr [3] (sAppend 2 (dVar 3))) (sClr [3] sNext)) [.dat a_one, .dat a_other, .own false s6, .dat p7, .no] ((((P_has_both a_one a_other p7 >>= fun v21 => asB v21) >>= fun b33 => if b33 = true then (((((seqOf p7 >>= fun v28 => lcR (fun x22 => ((P_without p7 x22 >>= fun v24 => P_has_both a_one a_other v24) >>= fun v25 => .ok (some v25))) v28) >>= fun v29 => .ok (PyData.list v29)) >>= fun v30 => pAny [v30]) >>= fun v31 => asB v31) >>= fun b32 => .ok (!b32)) else .ok false) >>= fun b34 => if b34 = true then appP s6 p7 else .ok s6)) (fun (s6 : List PyData) => .next [.dat a_one, .dat a_other, .own false s6, .no, .no]) := by
  have h : Js (sIf (dAnd (dB (rvE (dCall 3 F_has_both (aCons (oVal (dVar 0)) (aCons (oVal (dVar 1)) (aCons (oVal (dVar 3)) aNil)))))) (dNot (dB (dA pAny (aCons (oVal (dFrz (dLc (itA seq1 (it1 (oVal (dVar 3)))) ([4] : List Nat) (tgN 4) dYes (rvE (dCall 3 F_has_both (aCons (oVal (dVar 0)) (aCons (oVal (dVar 1)) (aCons (oVal (rvE (dCall 2 F_without (aCons (oVal (dVar 3)) (aCons (oVal (dVar 4)) aNil))))) aNil)))))))) aNil))))) (sClr [3] (sAppend 2 (dVar 3))) (sClr [3] sNext)) [.dat a_one, .dat a_other, .own false s6, .dat p7, .no] _ (fun (s6 : List PyData) => .next [.dat a_one, .dat a_other, .own false s6, .no, .no]) :=
    (js_if (xv_dAnd (xv_dB (xv_rvE (er_call (cl3 (f := F_has_both) (P := P_has_both) (rv := .dat) t_has_both) (ew_val (xv_var rfl) (ew_val (xv_var rfl) (ew_val (xv_var rfl) ew_nil)))))) (xv_dNot (xv_dB (xv_dA nx_pAny (xa_val (xv_dFrz (xv_dLc (w := [.dat a_one, .dat a_other, .own false s6, .dat p7, .no]) (e2 := [.dat a_one, .dat a_other, .own false s6, .dat p7, .no]) _ (ei_seq (xa_val (xv_var rfl) xa_nil) (fun _ => rfl)) rfl rfl rfl rfl (z_least_both_1 a_one a_other u1 u2 s6 p7))) xa_nil))))) (js_same (js_clr (jl_app (xv_var rfl) rfl rfl)) (fun _ => rfl)) (js_map (w := fun _ => s6) (js_clr js_next) (fun _ => rfl)))
  exact h
theorem t_least_both (a_one : PyData) (a_other : PyData) : F_least_both [.dat a_one, .dat a_other] = P_least_both a_one a_other >>= fun c_ => .ok (.dat c_, [.dat a_one, .dat a_other]) := by
  have h : Js B_least_both [.dat a_one, .dat a_other, .no, .no, .no] _ (fun (c_ : PyData) => .ret (.dat c_) [.no, .no, .no, .no, .no]) :=
    (js_seq (E := fun (u1 : PyData) => [.dat a_one, .dat a_other, .no, .no, .no]) (js_same (jl_drop (xv_rvE (er_unit (er_call (cl2 (f := F_check_two) (P := P_check_two) (rv := fun _ => .dat .none) t_check_two) (ew_val (xv_var rfl) (ew_val (xv_var rfl) ew_nil)))))) (fun _ => rfl)) fun u1 =>
    (js_seq (E := fun (u2 : List PyData) => [.dat a_one, .dat a_other, .own false u2, .no, .no]) (js_same (jl_own (xv_dLst ew_nil (by decide)) rfl) (fun _ => rfl)) fun u2 =>
    (js_seq (E := fun (u37 : List PyData) => [.no, .no, .own false u37, .no, .no]) (js_same (js_clr (jl_for (E := (fun (s6 : List PyData) => [.dat a_one, .dat a_other, .own false s6, .no, .no])) (s0 := u2) (ei_seq (xa_val (xv_rvE (er_call (cl1 (f := F_all_lots) (P := P_all_lots) (rv := .dat) t_all_lots) (ew_val (xv_dA nx_pLen (xa_val (xv_var rfl) xa_nil)) ew_nil))) xa_nil) (fun _ => rfl)) (fun x5 s6 => jb_of (E := fun (p7 : PyData) => [.dat a_one, .dat a_other, .own false s6, .dat p7, .no]) (eg_n rfl) (fun p7 => (z_least_both_2 a_one a_other u1 u2) s6 p7)))) (fun _ => rfl)) fun u37 =>
    (js_same (jl_ret (xv_frz rfl)) (fun _ => rfl)))))
  exact fn_js rfl h (fun c => rfl)
/-! ### both_swings -/
abbrev s_both_swings : Stmt := top 21
abbrev N_both_swings : List Str := ["one", "other", "found", "lot", "party"]
theorem sc_both_swings : FnScope N_both_swings ["one", "other"] (defScope s_both_swings) := ⟨rfl, rfl, rfl, by decide +kernel, rfl, by decide +kernel, by decide +kernel⟩
theorem b_both_swings (t : Tx K mg) : Binds K t.d_both_swings ["one", "other"] [] := t.F_both_swings.binds (ps := ["one", "other"]) fun _ _ _ _ _ _ us hl => match us, hl with | [_, _], _ => rfl
def B_both_swings : SemS := (sSeq (sDrop (rvE (dCall 2 F_check_two (aCons (oVal (dVar 0)) (aCons (oVal (dVar 1)) aNil)))))
  (sSeq (sOwn (d2 pRep (oVal (dFrz (dLst (aCons (oVal (dC (.int 0))) aNil)))) (oVal (dA pLen (aCons (oVal (dVar 0)) aNil)))) 2)
  (sSeq (sClr [0, 1] (sFor (itA seq1 (it1 (oVal (rvE (dCall 1 F_all_lots (aCons (oVal (dA pLen (aCons (oVal (dVar 0)) aNil))) aNil)))))) (tgN 3) (sIf (dB (rvE (dCall 3 F_has_both (aCons (oVal (dVar 0)) (aCons (oVal (dVar 1)) (aCons (oVal (dVar 3)) aNil)))))) (sClr [3] (sFor (itA seq1 (it1 (oVal (dVar 3)))) (tgN 4) (sIf (dNot (dB (rvE (dCall 3 F_has_both (aCons (oVal (dVar 0)) (aCons (oVal (dVar 1)) (aCons (oVal (rvE (dCall 2 F_without (aCons (oVal (dVar 3)) (aCons (oVal (dVar 4)) aNil))))) aNil))))))) (sClr [4] (sAugIx 2 pAdd (dVar 4) (dC (.int 1)))) (sClr [4] sNext)))) (sClr [3] sNext))))
  (sRet (dA pTuple (aCons (oAny 2) aNil))))))
def F_both_swings : Fn := runI N_both_swings.length B_both_swings
theorem ok_both_swings (t : Tx K mg) : FnOk P w K mg base (L2.CX P w) 5 t.a_both_swings t.d_both_swings ["one", "other"] (spD K t.T t.ca 2 F_both_swings) :=
  fn_I (fn_D (k := 4) t.F_both_swings sc_both_swings (by decide) fun cdv A outer s H E hr =>
    (ds_cons (ds_expr (de_ofV (dv_call (ok_check_two t) (hr.mono (by decide)) rfl t.g_check_two t.F_check_two.kp (b_check_two t) (passes_call (takes_of rfl rfl rfl rfl) fun _ _ _ _ h => h) (da_cons (do_val (de_var (pe_var (i := 0) rfl (by first | exact .inl rfl | exact .inr (.inl rfl) | exact .inr (.inr rfl))))) (da_cons (do_val (de_var (pe_var (i := 1) rfl (by first | exact .inl rfl | exact .inr (.inl rfl) | exact .inr (.inr rfl))))) da_nil)))))
    (ds_cons (ds_own (i := 2) sc_both_swings.nd rfl (by first | exact .inl rfl | exact .inr rfl) (dn_op op_repR r_rep (do_val (de_frz (dn_lst (da_cons (do_val de_int) da_nil)))) (do_val (de_callB (cr_lenA) r_len rfl t.n_len rfl (da_cons (do_val (de_var (pe_var (i := 0) rfl (by first | exact .inl rfl | exact .inr (.inl rfl) | exact .inr (.inr rfl))))) da_nil)))))
    (ds_cons (ds_clr [0, 1] (ds_for (passes_of rfl) rfl (di_seq rfl (do_val (de_ofV (dv_call (ok_all_lots t) (hr.mono (by decide)) rfl t.g_all_lots t.F_all_lots.kp (b_all_lots t) (passes_call (takes_of rfl rfl rfl rfl) fun _ _ _ _ h => h) (da_cons (do_val (de_callB (cr_lenA) r_len rfl t.n_len rfl (da_cons (do_val (de_var (pe_var (i := 0) rfl (by first | exact .inl rfl | exact .inr (.inl rfl) | exact .inr (.inr rfl))))) da_nil))) da_nil))))) (dg_name (pg_name (i := 3) sc_both_swings.nd rfl (by first | exact .inl rfl | exact .inr rfl))) (ds_one (ds_if (dt_val (de_ofV (dv_call (ok_has_both t) (hr.mono (by decide)) rfl t.g_has_both t.F_has_both.kp (b_has_both t) (passes_call (takes_of rfl rfl rfl rfl) fun _ _ _ _ h => h) (da_cons (do_val (de_var (pe_var (i := 0) rfl (by first | exact .inl rfl | exact .inr (.inl rfl) | exact .inr (.inr rfl))))) (da_cons (do_val (de_var (pe_var (i := 1) rfl (by first | exact .inl rfl | exact .inr (.inl rfl) | exact .inr (.inr rfl))))) (da_cons (do_val (de_var (pe_var (i := 3) rfl (by first | exact .inl rfl | exact .inr (.inl rfl) | exact .inr (.inr rfl))))) da_nil)))))) (ds_one (ds_clr [3] (ds_for (passes_of rfl) rfl (di_seq rfl (do_val (de_var (pe_var (i := 3) rfl (by first | exact .inl rfl | exact .inr (.inl rfl) | exact .inr (.inr rfl)))))) (dg_name (pg_name (i := 4) sc_both_swings.nd rfl (by first | exact .inl rfl | exact .inr rfl))) (ds_one (ds_if (dt_not (dt_val (de_ofV (dv_call (ok_has_both t) (hr.mono (by decide)) rfl t.g_has_both t.F_has_both.kp (b_has_both t) (passes_call (takes_of rfl rfl rfl rfl) fun _ _ _ _ h => h) (da_cons (do_val (de_var (pe_var (i := 0) rfl (by first | exact .inl rfl | exact .inr (.inl rfl) | exact .inr (.inr rfl))))) (da_cons (do_val (de_var (pe_var (i := 1) rfl (by first | exact .inl rfl | exact .inr (.inl rfl) | exact .inr (.inr rfl))))) (da_cons (do_val (de_ofV (dv_call (ok_without t) (hr.mono (by decide)) rfl t.g_without t.F_without.kp (b_without t) (passes_call (takes_of rfl rfl rfl rfl) fun _ _ _ _ h => h) (da_cons (do_val (de_var (pe_var (i := 3) rfl (by first | exact .inl rfl | exact .inr (.inl rfl) | exact .inr (.inr rfl))))) (da_cons (do_val (de_var (pe_var (i := 4) rfl (by first | exact .inl rfl | exact .inr (.inl rfl) | exact .inr (.inr rfl))))) da_nil))))) da_nil))))))) (ds_one (ds_clr [4] (ds_augIx rfl (pe_var (i := 2) rfl (by first | exact .inl rfl | exact .inr (.inl rfl) | exact .inr (.inr rfl))) (de_var (pe_var (i := 4) rfl (by first | exact .inl rfl | exact .inr (.inl rfl) | exact .inr (.inr rfl)))) de_int ip_add r_ipadd))) (dss_clr [4] ds_nil)))))) (dss_clr [3] ds_nil)))))
    (ds_one (ds_ret (de_callT (call_tuple_of) r_tuple rfl t.n_tuple rfl (da_cons (do_any (pe_var (i := 2) rfl (by first | exact .inl rfl | exact .inr (.inl rfl) | exact .inr (.inr rfl)))) da_nil)))))))) (by decide)
theorem z_both_swings_1 (a_one : PyData) (a_other : PyData) (u1 : PyData) (u3 : List PyData) (s7 : List PyData) (p8 : PyData) (s24 : List PyData) (p25 : PyData) : Js (sIf (dNot (dB (rvE (dCall 3 F_has_both (aCons (oVal (dVar 0)) (aCons (oVal (dVar 1)) (aCons (oVal (rvE (dCall 2 F_without (aCons (oVal (dVar 3)) (aCons (oVal (dVar 4)) aNil))))) aNil))))))) (sClr [4] (sAugIx 2 pAdd (dVar 4) (dC (.int 1)))) (sClr [4] sNext)) [.dat a_one, .dat a_other, .own false s24, .dat p8, .dat p25] (((((P_without p8 p25 >>= fun v31 => P_has_both a_one a_other v31) >>= fun v32 => asB v32) >>= fun b33 => .ok (!b33)) >>= fun b34 => if b34 = true then augIxP pAdd s24 p25 (.ok (PyData.int 1)) else .ok s24)) (fun (s24 : List PyData) => .next [.dat a_one, .dat a_other, .own false s24, .dat p8, .no]) := by
  have h : Js (sIf (dNot (dB (rvE (dCall 3 F_has_both (aCons (oVal (dVar 0)) (aCons (oVal (dVar 1)) (aCons (oVal (rvE (dCall 2 F_without (aCons (oVal (dVar 3)) (aCons (oVal (dVar 4)) aNil))))) aNil))))))) (sClr [4] (sAugIx 2 pAdd (dVar 4) (dC (.int 1)))) (sClr [4] sNext)) [.dat a_one, .dat a_other, .own false s24, .dat p8, .dat p25] _ (fun (s24 : List PyData) => .next [.dat a_one, .dat a_other, .own false s24, .dat p8, .no]) :=
    (js_if (xv_dNot (xv_dB (xv_rvE (er_call (cl3 (f := F_has_both) (P := P_has_both) (rv := .dat) t_has_both) (ew_val (xv_var rfl) (ew_val (xv_var rfl) (ew_val (xv_rvE (er_call (cl2 (f := F_without) (P := P_without) (rv := .dat) t_without) (ew_val (xv_var rfl) (ew_val (xv_var rfl) ew_nil)))) ew_nil))))))) (js_same (js_clr (jl_augIx nx_pAdd (xv_var rfl) xv_c rfl)) (fun _ => rfl)) (js_map (w := fun _ => s24) (js_clr js_next) (fun _ => rfl)))
  exact h
theorem z_both_swings_2 (a_one : PyData) (a_other : PyData) (u1 : PyData) (u3 : List PyData) (s7 : List PyData) (p8 : PyData) : Js (sIf (dB (rvE (dCall 3 F_has_both (aCons (oVal (dVar 0)) (aCons (oVal (dVar 1)) (aCons (oVal (dVar 3)) aNil)))))) (sClr [3] (sFor (itA seq1 (it1 (oVal (dVar 3)))) (tgN 4) (sIf (dNot (dB (rvE (dCall 3 F_has_both (aCons (oVal (dVar 0)) (aCons (oVal (dVar 1)) (aCons (oVal (rvE (dCall 2 F_without (aCons (oVal (dVar 3)) (aCons (oVal (dVar 4)) aNil))))) aNil))))))) (sClr [4] (sAugIx 2 pAdd (dVar 4) (dC (.int 1)))) (sClr [4] sNext)))) (sClr [3] sNext)) [.dat a_one, .dat a_other, .own false s7, .dat p8, .no] (((P_has_both a_one a_other p8 >>= fun v21 => asB v21) >>= fun b22 => if b22 = true then (seqOf p8 >>= fun v36 => forP (fun x23 s24 => ((((P_without p8 x23 >>= fun v26 => P_has_both a_one a_other v26) >>= fun v27 => asB v27) >>= fun b28 => .ok (!b28)) >>= fun b29 => if b29 = true then augIxP pAdd s24 x23 (.ok (PyData.int 1)) else .ok s24)) v36 s7) else .ok s7)) (fun (s7 : List PyData) => .next [.dat a_one, .dat a_other, .own false s7, .no, .no]) := by
  have h : Js (sIf (dB (rvE (dCall 3 F_has_both (aCons (oVal (dVar 0)) (aCons (oVal (dVar 1)) (aCons (oVal (dVar 3)) aNil)))))) (sClr [3] (sFor (itA seq1 (it1 (oVal (dVar 3)))) (tgN 4) (sIf (dNot (dB (rvE (dCall 3 F_has_both (aCons (oVal (dVar 0)) (aCons (oVal (dVar 1)) (aCons (oVal (rvE (dCall 2 F_without (aCons (oVal (dVar 3)) (aCons (oVal (dVar 4)) aNil))))) aNil))))))) (sClr [4] (sAugIx 2 pAdd (dVar 4) (dC (.int 1)))) (sClr [4] sNext)))) (sClr [3] sNext)) [.dat a_one, .dat a_other, .own false s7, .dat p8, .no] _ (fun (s7 : List PyData) => .next [.dat a_one, .dat a_other, .own false s7, .no, .no]) :=
    (js_if (xv_dB (xv_rvE (er_call (cl3 (f := F_has_both) (P := P_has_both) (rv := .dat) t_has_both) (ew_val (xv_var rfl) (ew_val (xv_var rfl) (ew_val (xv_var rfl) ew_nil)))))) (js_same (js_clr (jl_for (E := (fun (s24 : List PyData) => [.dat a_one, .dat a_other, .own false s24, .dat p8, .no])) (s0 := s7) (ei_seq (xa_val (xv_var rfl) xa_nil) (fun _ => rfl)) (fun x23 s24 => jb_of (E := fun (p25 : PyData) => [.dat a_one, .dat a_other, .own false s24, .dat p8, .dat p25]) (eg_n rfl) (fun p25 => (z_both_swings_1 a_one a_other u1 u3 s7 p8) s24 p25)))) (fun _ => rfl)) (js_map (w := fun _ => s7) (js_clr js_next) (fun _ => rfl)))
  exact h
theorem t_both_swings (a_one : PyData) (a_other : PyData) : F_both_swings [.dat a_one, .dat a_other] = P_both_swings a_one a_other >>= fun c_ => .ok (.dat c_, [.dat a_one, .dat a_other]) := by
  have h : Js B_both_swings [.dat a_one, .dat a_other, .no, .no, .no] _ (fun (c_ : PyData) => .ret (.dat c_) [.no, .no, .no, .no, .no]) :=
    (js_seq (E := fun (u1 : PyData) => [.dat a_one, .dat a_other, .no, .no, .no]) (js_same (jl_drop (xv_rvE (er_unit (er_call (cl2 (f := F_check_two) (P := P_check_two) (rv := fun _ => .dat .none) t_check_two) (ew_val (xv_var rfl) (ew_val (xv_var rfl) ew_nil)))))) (fun _ => rfl)) fun u1 =>
    (js_seq (E := fun (u3 : List PyData) => [.dat a_one, .dat a_other, .own false u3, .no, .no]) (js_same (jl_own (xv_d2 nx_pRep (xo_val (xv_dFrz (xv_dLst (ew_val xv_c ew_nil) (by decide)))) (xo_val (xv_dA nx_pLen (xa_val (xv_var rfl) xa_nil))) rs_val rs_val) rfl) (fun _ => rfl)) fun u3 =>
    (js_seq (E := fun (u39 : List PyData) => [.no, .no, .own false u39, .no, .no]) (js_same (js_clr (jl_for (E := (fun (s7 : List PyData) => [.dat a_one, .dat a_other, .own false s7, .no, .no])) (s0 := u3) (ei_seq (xa_val (xv_rvE (er_call (cl1 (f := F_all_lots) (P := P_all_lots) (rv := .dat) t_all_lots) (ew_val (xv_dA nx_pLen (xa_val (xv_var rfl) xa_nil)) ew_nil))) xa_nil) (fun _ => rfl)) (fun x6 s7 => jb_of (E := fun (p8 : PyData) => [.dat a_one, .dat a_other, .own false s7, .dat p8, .no]) (eg_n rfl) (fun p8 => (z_both_swings_2 a_one a_other u1 u3) s7 p8)))) (fun _ => rfl)) fun u39 =>
    (js_same (jl_ret (xv_dA nx_pTuple (xa_own rfl rfl xa_nil))) (fun _ => rfl)))))
  exact fn_js rfl h (fun c => rfl)
/-! ### deadlocks -/
abbrev s_deadlocks : Stmt := top 22
abbrev N_deadlocks : List Str := ["one", "other", "lot"]
theorem sc_deadlocks : FnScope N_deadlocks ["one", "other"] (defScope s_deadlocks) := ⟨rfl, rfl, rfl, by decide +kernel, rfl, by decide +kernel, by decide +kernel⟩
theorem b_deadlocks (t : Tx K mg) : Binds K t.d_deadlocks ["one", "other"] [] := t.F_deadlocks.binds (ps := ["one", "other"]) fun _ _ _ _ _ _ us hl => match us, hl with | [_, _], _ => rfl
def B_deadlocks : SemS := (sSeq (sDrop (rvE (dCall 2 F_check_two (aCons (oVal (dVar 0)) (aCons (oVal (dVar 1)) aNil)))))
  (sRet (dA pLen (aCons (oVal (dFrz (dLc (itA seq1 (it1 (oVal (rvE (dCall 1 F_all_lots (aCons (oVal (dA pLen (aCons (oVal (dVar 0)) aNil))) aNil)))))) ([2] : List Nat) (tgN 2) (dB (d2 pNe (oVal (rvE (dCall 2 F_has_more (aCons (oVal (dVar 0)) (aCons (oVal (dVar 2)) aNil))))) (oVal (rvE (dCall 2 F_has_more (aCons (oVal (dVar 1)) (aCons (oVal (dVar 2)) aNil))))))) (dVar 2)))) aNil))))
def F_deadlocks : Fn := runI N_deadlocks.length B_deadlocks
theorem ok_deadlocks (t : Tx K mg) : FnOk P w K mg base (L2.CX P w) 5 t.a_deadlocks t.d_deadlocks ["one", "other"] (spD K t.T t.ca 2 F_deadlocks) :=
  fn_I (fn_D (k := 4) t.F_deadlocks sc_deadlocks (by decide) fun cdv A outer s H E hr =>
    (ds_cons (ds_expr (de_ofV (dv_call (ok_check_two t) (hr.mono (by decide)) rfl t.g_check_two t.F_check_two.kp (b_check_two t) (passes_call (takes_of rfl rfl rfl rfl) fun _ _ _ _ h => h) (da_cons (do_val (de_var (pe_var (i := 0) rfl (by first | exact .inl rfl | exact .inr (.inl rfl) | exact .inr (.inr rfl))))) (da_cons (do_val (de_var (pe_var (i := 1) rfl (by first | exact .inl rfl | exact .inr (.inl rfl) | exact .inr (.inr rfl))))) da_nil)))))
    (ds_one (ds_ret (de_callB (cr_lenA) r_len rfl t.n_len rfl (da_cons (do_val (de_frz (dn_lc (own := [("lot", 2)]) rfl sc_deadlocks.nd (di_seq rfl (do_val (de_ofV (dv_call (ok_all_lots t) (hr.mono (by decide)) rfl t.g_all_lots t.F_all_lots.kp (b_all_lots t) (passes_call (takes_of rfl rfl rfl rfl) fun _ _ _ _ h => h) (da_cons (do_val (de_callB (cr_lenA) r_len rfl t.n_len rfl (da_cons (do_val (de_var (pe_var (i := 0) rfl (by first | exact .inl rfl | exact .inr (.inl rfl) | exact .inr (.inr rfl))))) da_nil))) da_nil))))) (blkOk_by (sc := defScope s_deadlocks) (N := N_deadlocks) (by decide +kernel)) (fun _ _ _ _ _ => (dg_name (pg_name (i := 2) sc_deadlocks.nd rfl (by first | exact .inl rfl | exact .inr rfl)))) (fun _ _ _ _ _ => (dts_one (dt_cmp (op_neD hr.units) r_ne (do_val (de_ofV (dv_call (ok_has_more t) (hr.mono (by decide)) rfl t.g_has_more t.F_has_more.kp (b_has_more t) passL (da_cons (do_val (de_var (pe_var (i := 0) rfl (by first | exact .inl rfl | exact .inr (.inl rfl) | exact .inr (.inr rfl))))) (da_cons (do_val (de_var (pe_var (i := 2) rfl (by first | exact .inl rfl | exact .inr (.inl rfl) | exact .inr (.inr rfl))))) da_nil))))) (do_val (de_ofV (dv_call (ok_has_more t) (hr.mono (by decide)) rfl t.g_has_more t.F_has_more.kp (b_has_more t) passL (da_cons (do_val (de_var (pe_var (i := 1) rfl (by first | exact .inl rfl | exact .inr (.inl rfl) | exact .inr (.inr rfl))))) (da_cons (do_val (de_var (pe_var (i := 2) rfl (by first | exact .inl rfl | exact .inr (.inl rfl) | exact .inr (.inr rfl))))) da_nil))))) (nomark _)))) (fun _ _ _ _ _ => (de_var (pe_var (i := 2) rfl (by first | exact .inl rfl | exact .inr (.inl rfl) | exact .inr (.inr rfl))))) (by decide)))) da_nil)))))) (by decide)
theorem z_deadlocks_1 (a_one : PyData) (a_other : PyData) (u1 : PyData) (x4 : PyData) : LcS (tgN 2) (dB (d2 pNe (oVal (rvE (dCall 2 F_has_more (aCons (oVal (dVar 0)) (aCons (oVal (dVar 2)) aNil))))) (oVal (rvE (dCall 2 F_has_more (aCons (oVal (dVar 1)) (aCons (oVal (dVar 2)) aNil))))))) (dVar 2) [2] [.dat a_one, .dat a_other, .no] x4 ((((P_has_more a_one x4 >>= fun v10 => (P_has_more a_other x4 >>= fun v11 => pNe v10 v11)) >>= fun v12 => asB v12) >>= fun b13 => if b13 = true then .ok (some x4) else .ok none)) := by
  have h : LcS (tgN 2) (dB (d2 pNe (oVal (rvE (dCall 2 F_has_more (aCons (oVal (dVar 0)) (aCons (oVal (dVar 2)) aNil))))) (oVal (rvE (dCall 2 F_has_more (aCons (oVal (dVar 1)) (aCons (oVal (dVar 2)) aNil))))))) (dVar 2) [2] [.dat a_one, .dat a_other, .no] x4 _ :=
    xlc_step (eg_n rfl) (fun p5 => (xv_dB (xv_d2 nx_pNe (xo_val (xv_rvE (er_call (cl2 (f := F_has_more) (P := P_has_more) (rv := .dat) t_has_more) (ew_val (xv_var rfl) (ew_val (xv_var rfl) ew_nil))))) (xo_val (xv_rvE (er_call (cl2 (f := F_has_more) (P := P_has_more) (rv := .dat) t_has_more) (ew_val (xv_var rfl) (ew_val (xv_var rfl) ew_nil))))) rs_val rs_val))) (fun p5 => (xv_var rfl)) (fun _ => rfl)
  exact h
theorem t_deadlocks (a_one : PyData) (a_other : PyData) : F_deadlocks [.dat a_one, .dat a_other] = P_deadlocks a_one a_other >>= fun c_ => .ok (.dat c_, [.dat a_one, .dat a_other]) := by
  have h : Js B_deadlocks [.dat a_one, .dat a_other, .no] _ (fun (c_ : PyData) => .ret (.dat c_) [.no, .no, .no]) :=
    (js_seq (E := fun (u1 : PyData) => [.dat a_one, .dat a_other, .no]) (js_same (jl_drop (xv_rvE (er_unit (er_call (cl2 (f := F_check_two) (P := P_check_two) (rv := fun _ => .dat .none) t_check_two) (ew_val (xv_var rfl) (ew_val (xv_var rfl) ew_nil)))))) (fun _ => rfl)) fun u1 =>
    (js_same (jl_ret (xv_dA nx_pLen (xa_val (xv_dFrz (xv_dLc (w := [.dat a_one, .dat a_other, .no]) (e2 := [.dat a_one, .dat a_other, .no]) _ (ei_seq (xa_val (xv_rvE (er_call (cl1 (f := F_all_lots) (P := P_all_lots) (rv := .dat) t_all_lots) (ew_val (xv_dA nx_pLen (xa_val (xv_var rfl) xa_nil)) ew_nil))) xa_nil) (fun _ => rfl)) rfl rfl rfl rfl (z_deadlocks_1 a_one a_other u1))) xa_nil))) (fun _ => rfl)))
  exact fn_js rfl h (fun c => rfl)
/-! ### _law_hand -/
abbrev s__law_hand : Stmt := top 24
abbrev N__law_hand : List Str := ["script", "cells", "cell"]
theorem sc__law_hand : FnScope N__law_hand ["script"] (defScope s__law_hand) := ⟨rfl, rfl, rfl, by decide +kernel, rfl, by decide +kernel, by decide +kernel⟩
theorem b__law_hand (t : Tx K mg) : Binds K t.d__law_hand ["script"] [] := t.F__law_hand.binds (ps := ["script"]) fun _ _ _ _ _ _ us hl => match us, hl with | [_], _ => rfl
def B__law_hand : SemS := (sSeq (sClr [0] (sAsg (dFrz (dLc (itA seq1 (it1 (oVal (dSl (oVal (dVar 0)) pNo (pSome (dC (.int 63))))))) ([2] : List Nat) (tgN 2) dYes (dA pAbs (aCons (oVal (dA pInt (aCons (oVal (dVar 2)) aNil))) aNil)))) (tgN 1)))
  (sRetL (dLst (aCons (oVal (dVar 1)) (aCons (oVal (dC (.int 0))) (aCons (oVal (dC (.int 0))) (aCons (oVal (d2 pAddA (oVal (dC (.int 1823))) (oVal (d2 pMulA (oVal (dC (.int 61))) (oVal (dA pLen (aCons (oVal (dVar 1)) aNil))))))) (aCons (oVal (dC (.int 0))) aNil))))))))
def F__law_hand : Fn := runI N__law_hand.length B__law_hand
theorem ok__law_hand (t : Tx K mg) : FnOk P w K mg base (L2.CX P w) 1 t.a__law_hand t.d__law_hand ["script"] (spD K t.T t.ca 1 F__law_hand) :=
  fn_I (fn_D (k := 0) t.F__law_hand sc__law_hand (by decide) fun cdv A outer s H E hr =>
    (ds_cons (ds_clr [0] (ds_setLc (own := [("cell", 2)]) (i := 1) rfl sc__law_hand.nd rfl rfl rfl (di_seq rfl (do_val (de_slice rfl (do_val (de_var (pe_var (i := 0) rfl (by first | exact .inl rfl | exact .inr (.inl rfl) | exact .inr (.inr rfl))))) dp_none (dp_some de_int)))) (blkOk_by (sc := defScope s__law_hand) (N := N__law_hand) (by decide +kernel)) (fun _ _ _ _ _ => (dg_name (pg_name (i := 2) sc__law_hand.nd rfl (by first | exact .inl rfl | exact .inr rfl)))) (fun _ _ _ _ _ => dts_nil) (fun _ _ _ _ _ => (de_callB (call_abs) r_abs rfl t.n_abs rfl (da_cons (do_val (de_callT (call_int1) r_int rfl t.n_int rfl (da_cons (do_val (de_var (pe_var (i := 2) rfl (by first | exact .inl rfl | exact .inr (.inl rfl) | exact .inr (.inr rfl))))) da_nil))) da_nil))) (by decide)))
    (ds_one (ds_retL (dn_lst (da_cons (do_val (de_var (pe_var (i := 1) rfl (by first | exact .inl rfl | exact .inr (.inl rfl) | exact .inr (.inr rfl))))) (da_cons (do_val de_int) (da_cons (do_val de_int) (da_cons (do_val (de_op op_addA r_addA (do_val de_int) (do_val (de_op op_mulB r_mulB (do_val de_int) (do_val (de_callB (cr_lenA) r_len rfl t.n_len rfl (da_cons (do_val (de_var (pe_var (i := 1) rfl (by first | exact .inl rfl | exact .inr (.inl rfl) | exact .inr (.inr rfl))))) da_nil))))))) (da_cons (do_val de_int) da_nil)))))))))) (by decide)
theorem z__law_hand_1 (a_script : PyData) (x3 : PyData) : LcS (tgN 2) dYes (dA pAbs (aCons (oVal (dA pInt (aCons (oVal (dVar 2)) aNil))) aNil)) [2] [.dat a_script, .no, .no] x3 (((pInt [x3] >>= fun v7 => pAbs [v7]) >>= fun v8 => .ok (some v8))) := by
  have h : LcS (tgN 2) dYes (dA pAbs (aCons (oVal (dA pInt (aCons (oVal (dVar 2)) aNil))) aNil)) [2] [.dat a_script, .no, .no] x3 _ :=
    xlc_step1 (eg_n rfl) (fun p4 => (xv_dA nx_pAbs (xa_val (xv_dA nx_pInt (xa_val (xv_var rfl) xa_nil)) xa_nil))) (fun _ => rfl)
  exact h
theorem t__law_hand (a_script : PyData) : F__law_hand [.dat a_script] = P__law_hand a_script >>= fun c_ => .ok (.new c_, [.dat a_script]) := by
  have h : Js B__law_hand [.dat a_script, .no, .no] _ (fun (c_ : List PyData) => .ret (.new c_) [.no, .no, .no]) :=
    (js_seq (E := fun (u11 : PyData) => [.no, .dat u11, .no]) (js_same (js_clr (jl_asg (xv_dFrz (xv_dLc (w := [.dat a_script, .no, .no]) (e2 := [.dat a_script, .no, .no]) _ (ei_seq (xa_val (xv_dSl (xo_val (xv_var rfl)) xv_no (xv_some xv_c) rs_val) xa_nil) (fun _ => rfl)) rfl rfl rfl rfl (z__law_hand_1 a_script))) rfl)) (fun _ => rfl)) fun u11 =>
    (js_same (jl_retL (xv_dLst (ew_val (xv_var rfl) (ew_val xv_c (ew_val xv_c (ew_val (xv_d2 nx_pAddA (xo_val xv_c) (xo_val (xv_d2 nx_pMulA (xo_val xv_c) (xo_val (xv_dA nx_pLen (xa_val (xv_var rfl) xa_nil))) rs_val rs_val)) rs_val rs_val) (ew_val xv_c ew_nil))))) (by decide))) (fun _ => rfl)))
  exact fn_js rfl h (fun c => rfl)
/-! ### _law_draw -/
abbrev s__law_draw : Stmt := top 25
abbrev N__law_draw : List Str := ["hand", "many", "cell", "digit", "number"]
theorem sc__law_draw : FnScope N__law_draw ["hand", "many"] (defScope s__law_draw) := ⟨rfl, rfl, rfl, by decide +kernel, rfl, by decide +kernel, by decide +kernel⟩
theorem b__law_draw (t : Tx K mg) : Binds K t.d__law_draw ["hand", "many"] [] := t.F__law_draw.binds (ps := ["hand", "many"]) fun _ _ _ _ _ _ us hl => match us, hl with | [_, _], _ => rfl
def B__law_draw : SemS := (sSeq (sIf (dAnd (dB (d2 pEq (oVal (d2 pIx (oAny 0) (oVal (dC (.int 2))))) (oVal (dC (.int 0))))) (dB (d2 pLt (oVal (d2 pIx (oAny 0) (oVal (dC (.int 1))))) (oVal (dA pLen (aCons (oVal (d2 pIx (oAny 0) (oVal (dC (.int 0))))) aNil)))))) (sSeq (sAsg (d2 pIx (oVal (d2 pIx (oAny 0) (oVal (dC (.int 0))))) (oVal (d2 pIx (oAny 0) (oVal (dC (.int 1)))))) (tgN 2))
  (sSeq (sSetIx 0 (dC (.int 1)) (d2 pAddA (oVal (d2 pIx (oAny 0) (oVal (dC (.int 1))))) (oVal (dC (.int 1)))))
  (sSeq (sSetIx 0 (dC (.int 3)) (d2 pMod (oVal (dA pInt (aCons (oVal (d2 pAddA (oVal (d2 pAddA (oVal (d2 pMulA (oVal (d2 pIx (oAny 0) (oVal (dC (.int 3))))) (oVal (dC (.int 69621))))) (oVal (d2 pMulA (oVal (dVar 2)) (oVal (dC (.int 48271))))))) (oVal (dC (.int 17))))) aNil))) (oVal (dC (.int 2147483629)))))
  (sIf (dB (d2 pGe (oVal (dVar 2)) (oVal (d2 pPow (oVal (dC (.int 10))) (oVal (dC (.int 18))))))) (sClr [2] (sSetIx 0 (dC (.int 2)) (dVar 2))) (sClr [2] sNext))))) sNext)
  (sSeq (sIf (dB (d2 pGt (oVal (d2 pIx (oAny 0) (oVal (dC (.int 2))))) (oVal (dC (.int 0))))) (sSeq (sAsg (d2 pMod (oVal (dA pInt (aCons (oVal (d2 pIx (oAny 0) (oVal (dC (.int 2))))) aNil))) (oVal (dVar 1))) (tgN 3))
  (sSeq (sClr [1] (sSetIx 0 (dC (.int 2)) (d2 pFdiv (oVal (d2 pIx (oAny 0) (oVal (dC (.int 2))))) (oVal (dVar 1)))))
  (sRet (dVar 3)))) sNext)
  (sSeq (sSetIx 0 (dC (.int 4)) (d2 pAddA (oVal (d2 pIx (oAny 0) (oVal (dC (.int 4))))) (oVal (dC (.int 1)))))
  (sSeq (sAsg (d2 pMod (oVal (dA pInt (aCons (oVal (d2 pMulA (oVal (dA pInt (aCons (oVal (d2 pAddA (oVal (d2 pIx (oAny 0) (oVal (dC (.int 3))))) (oVal (d2 pMulA (oVal (dC (.int 7919))) (oVal (d2 pIx (oAny 0) (oVal (dC (.int 4))))))))) aNil))) (oVal (dC (.int 40692))))) aNil))) (oVal (dC (.int 2147483647)))) (tgN 4))
  (sSeq (sAsg (d2 pMod (oVal (dA pInt (aCons (oVal (d2 pMulA (oVal (dVar 4)) (oVal (d2 pAddA (oVal (d2 pFdiv (oVal (dVar 4)) (oVal (dC (.int 1009))))) (oVal (dC (.int 69621))))))) aNil))) (oVal (dC (.int 2147483647)))) (tgN 4))
  (sSeq (sAsg (d2 pMod (oVal (dA pInt (aCons (oVal (d2 pMulA (oVal (dVar 4)) (oVal (d2 pAddA (oVal (d2 pFdiv (oVal (dVar 4)) (oVal (dC (.int 2003))))) (oVal (dC (.int 40014))))))) aNil))) (oVal (dC (.int 2147483563)))) (tgN 4))
  (sRet (d2 pMod (oVal (dA pInt (aCons (oVal (d2 pFdiv (oVal (dVar 4)) (oVal (dC (.int 16))))) aNil))) (oVal (dVar 1))))))))))
def F__law_draw : Fn := runI N__law_draw.length B__law_draw
theorem ok__law_draw (t : Tx K mg) : FnOk P w K mg base (L2.CX P w) 1 t.a__law_draw t.d__law_draw ["hand", "many"] (spD K t.T t.ca 2 F__law_draw) :=
  fn_I (fn_D (k := 0) t.F__law_draw sc__law_draw (by decide) fun cdv A outer s H E hr =>
    (ds_cons (ds_if (PW.pt (dw_and (dt_cmp (op_eqD hr.units) r_eq (do_val (de_ix ix_two r_ix (do_any (pe_var (i := 0) rfl (by first | exact .inl rfl | exact .inr (.inl rfl) | exact .inr (.inr rfl)))) (do_val de_int) (fun _ _ => rfl))) (do_val de_int) (nomark _)) (dw_1and (dt_cmp op_lt r_lt (do_val (de_ix ix_two r_ix (do_any (pe_var (i := 0) rfl (by first | exact .inl rfl | exact .inr (.inl rfl) | exact .inr (.inr rfl)))) (do_val de_int) (fun _ _ => rfl))) (do_val (de_callB (cr_lenA) r_len rfl t.n_len rfl (da_cons (do_val (de_ix ix_two r_ix (do_any (pe_var (i := 0) rfl (by first | exact .inl rfl | exact .inr (.inl rfl) | exact .inr (.inr rfl)))) (do_val de_int) (fun _ _ => rfl))) da_nil))) (nomark _))))) (ds_cons (ds_set (i := 2) sc__law_draw.nd rfl (by first | exact .inl rfl | exact .inr rfl) (de_ix ix_two r_ix (do_val (de_ix ix_two r_ix (do_any (pe_var (i := 0) rfl (by first | exact .inl rfl | exact .inr (.inl rfl) | exact .inr (.inr rfl)))) (do_val de_int) (fun _ _ => rfl))) (do_val (de_ix ix_two r_ix (do_any (pe_var (i := 0) rfl (by first | exact .inl rfl | exact .inr (.inl rfl) | exact .inr (.inr rfl)))) (do_val de_int) (fun _ _ => rfl))) (fun _ _ => rfl)))
    (ds_cons (ds_setIx (pe_var (i := 0) rfl (by first | exact .inl rfl | exact .inr (.inl rfl) | exact .inr (.inr rfl))) de_int (de_op op_addA r_addA (do_val (de_ix ix_two r_ix (do_any (pe_var (i := 0) rfl (by first | exact .inl rfl | exact .inr (.inl rfl) | exact .inr (.inr rfl)))) (do_val de_int) (fun _ _ => rfl))) (do_val de_int)))
    (ds_cons (ds_setIx (pe_var (i := 0) rfl (by first | exact .inl rfl | exact .inr (.inl rfl) | exact .inr (.inr rfl))) de_int (de_op op_mod r_mod (do_val (de_callT (call_int1) r_int rfl t.n_int rfl (da_cons (do_val (de_op op_addA r_addA (do_val (de_op op_addA r_addA (do_val (de_op op_mulB r_mulB (do_val (de_ix ix_two r_ix (do_any (pe_var (i := 0) rfl (by first | exact .inl rfl | exact .inr (.inl rfl) | exact .inr (.inr rfl)))) (do_val de_int) (fun _ _ => rfl))) (do_val de_int))) (do_val (de_op op_mulB r_mulB (do_val (de_var (pe_var (i := 2) rfl (by first | exact .inl rfl | exact .inr (.inl rfl) | exact .inr (.inr rfl))))) (do_val de_int))))) (do_val de_int))) da_nil))) (do_val de_int)))
    (ds_one (ds_if (dt_cmp op_ge r_ge (do_val (de_var (pe_var (i := 2) rfl (by first | exact .inl rfl | exact .inr (.inl rfl) | exact .inr (.inr rfl))))) (do_val (de_op op_pow r_pow (do_val de_int) (do_val de_int))) (nomark _)) (ds_one (ds_clr [2] (ds_setIx (pe_var (i := 0) rfl (by first | exact .inl rfl | exact .inr (.inl rfl) | exact .inr (.inr rfl))) de_int (de_var (pe_var (i := 2) rfl (by first | exact .inl rfl | exact .inr (.inl rfl) | exact .inr (.inr rfl))))))) (dss_clr [2] ds_nil)))))) ds_nil)
    (ds_cons (ds_if (dt_cmp op_gt r_gt (do_val (de_ix ix_two r_ix (do_any (pe_var (i := 0) rfl (by first | exact .inl rfl | exact .inr (.inl rfl) | exact .inr (.inr rfl)))) (do_val de_int) (fun _ _ => rfl))) (do_val de_int) (nomark _)) (ds_cons (ds_set (i := 3) sc__law_draw.nd rfl (by first | exact .inl rfl | exact .inr rfl) (de_op op_mod r_mod (do_val (de_callT (call_int1) r_int rfl t.n_int rfl (da_cons (do_val (de_ix ix_two r_ix (do_any (pe_var (i := 0) rfl (by first | exact .inl rfl | exact .inr (.inl rfl) | exact .inr (.inr rfl)))) (do_val de_int) (fun _ _ => rfl))) da_nil))) (do_val (de_var (pe_var (i := 1) rfl (by first | exact .inl rfl | exact .inr (.inl rfl) | exact .inr (.inr rfl)))))))
    (ds_cons (ds_clr [1] (ds_setIx (pe_var (i := 0) rfl (by first | exact .inl rfl | exact .inr (.inl rfl) | exact .inr (.inr rfl))) de_int (de_op op_fdivW r_fdiv (do_val (de_ix ix_two r_ix (do_any (pe_var (i := 0) rfl (by first | exact .inl rfl | exact .inr (.inl rfl) | exact .inr (.inr rfl)))) (do_val de_int) (fun _ _ => rfl))) (do_val (de_var (pe_var (i := 1) rfl (by first | exact .inl rfl | exact .inr (.inl rfl) | exact .inr (.inr rfl))))))))
    (ds_one (ds_ret (de_var (pe_var (i := 3) rfl (by first | exact .inl rfl | exact .inr (.inl rfl) | exact .inr (.inr rfl)))))))) ds_nil)
    (ds_cons (ds_setIx (pe_var (i := 0) rfl (by first | exact .inl rfl | exact .inr (.inl rfl) | exact .inr (.inr rfl))) de_int (de_op op_addA r_addA (do_val (de_ix ix_two r_ix (do_any (pe_var (i := 0) rfl (by first | exact .inl rfl | exact .inr (.inl rfl) | exact .inr (.inr rfl)))) (do_val de_int) (fun _ _ => rfl))) (do_val de_int)))
    (ds_cons (ds_set (i := 4) sc__law_draw.nd rfl (by first | exact .inl rfl | exact .inr rfl) (de_op op_mod r_mod (do_val (de_callT (call_int1) r_int rfl t.n_int rfl (da_cons (do_val (de_op op_mulB r_mulB (do_val (de_callT (call_int1) r_int rfl t.n_int rfl (da_cons (do_val (de_op op_addA r_addA (do_val (de_ix ix_two r_ix (do_any (pe_var (i := 0) rfl (by first | exact .inl rfl | exact .inr (.inl rfl) | exact .inr (.inr rfl)))) (do_val de_int) (fun _ _ => rfl))) (do_val (de_op op_mulB r_mulB (do_val de_int) (do_val (de_ix ix_two r_ix (do_any (pe_var (i := 0) rfl (by first | exact .inl rfl | exact .inr (.inl rfl) | exact .inr (.inr rfl)))) (do_val de_int) (fun _ _ => rfl))))))) da_nil))) (do_val de_int))) da_nil))) (do_val de_int)))
    (ds_cons (ds_set (i := 4) sc__law_draw.nd rfl (by first | exact .inl rfl | exact .inr rfl) (de_op op_mod r_mod (do_val (de_callT (call_int1) r_int rfl t.n_int rfl (da_cons (do_val (de_op op_mulB r_mulB (do_val (de_var (pe_var (i := 4) rfl (by first | exact .inl rfl | exact .inr (.inl rfl) | exact .inr (.inr rfl))))) (do_val (de_op op_addA r_addA (do_val (de_op op_fdivW r_fdiv (do_val (de_var (pe_var (i := 4) rfl (by first | exact .inl rfl | exact .inr (.inl rfl) | exact .inr (.inr rfl))))) (do_val de_int))) (do_val de_int))))) da_nil))) (do_val de_int)))
    (ds_cons (ds_set (i := 4) sc__law_draw.nd rfl (by first | exact .inl rfl | exact .inr rfl) (de_op op_mod r_mod (do_val (de_callT (call_int1) r_int rfl t.n_int rfl (da_cons (do_val (de_op op_mulB r_mulB (do_val (de_var (pe_var (i := 4) rfl (by first | exact .inl rfl | exact .inr (.inl rfl) | exact .inr (.inr rfl))))) (do_val (de_op op_addA r_addA (do_val (de_op op_fdivW r_fdiv (do_val (de_var (pe_var (i := 4) rfl (by first | exact .inl rfl | exact .inr (.inl rfl) | exact .inr (.inr rfl))))) (do_val de_int))) (do_val de_int))))) da_nil))) (do_val de_int)))
    (ds_one (ds_ret (de_op op_mod r_mod (do_val (de_callT (call_int1) r_int rfl t.n_int rfl (da_cons (do_val (de_op op_fdivW r_fdiv (do_val (de_var (pe_var (i := 4) rfl (by first | exact .inl rfl | exact .inr (.inl rfl) | exact .inr (.inr rfl))))) (do_val de_int))) da_nil))) (do_val (de_var (pe_var (i := 1) rfl (by first | exact .inl rfl | exact .inr (.inl rfl) | exact .inr (.inr rfl))))))))))))))) (by decide)
theorem t__law_draw (h_hand : List PyData) (a_many : PyData) : F__law_draw [.own true h_hand, .dat a_many] = P__law_draw h_hand a_many >>= fun c_ => .ok (.dat c_.1, [.own true c_.2, .dat a_many]) := by
  have h : Js B__law_draw [.own true h_hand, .dat a_many, .no, .no, .no] _ (fun (c_ : PyData × List PyData) => .ret (.dat c_.1) [.own true c_.2, .no, .no, .no, .no]) :=
    (js_seq (E := fun (j27 : List PyData) => [.own true j27, .dat a_many, .no, .no, .no]) (js_if (xv_dAnd (xv_dB (xv_d2 nx_pEq (xo_val (xv_d2 nx_pIx (xo_own rfl) (xo_val xv_c) (rs_own rfl) rs_val)) (xo_val xv_c) rs_val rs_val)) (xv_dB (xv_d2 nx_pLt (xo_val (xv_d2 nx_pIx (xo_own rfl) (xo_val xv_c) (rs_own rfl) rs_val)) (xo_val (xv_dA nx_pLen (xa_val (xv_d2 nx_pIx (xo_own rfl) (xo_val xv_c) (rs_own rfl) rs_val) xa_nil))) rs_val rs_val))) (js_seq (E := fun (u11 : PyData) => [.own true h_hand, .dat a_many, .dat u11, .no, .no]) (js_same (jl_asg (xv_d2 nx_pIx (xo_val (xv_d2 nx_pIx (xo_own rfl) (xo_val xv_c) (rs_own rfl) rs_val)) (xo_val (xv_d2 nx_pIx (xo_own rfl) (xo_val xv_c) (rs_own rfl) rs_val)) rs_val rs_val) rfl) (fun _ => rfl)) fun u11 =>
    (js_seq (E := fun (u14 : List PyData) => [.own true u14, .dat a_many, .dat u11, .no, .no]) (js_same (jl_setIx (xv_d2 nx_pAddA (xo_val (xv_d2 nx_pIx (xo_own rfl) (xo_val xv_c) (rs_own rfl) rs_val)) (xo_val xv_c) rs_val rs_val) xv_c rfl) (fun _ => rfl)) fun u14 =>
    (js_seq (E := fun (u22 : List PyData) => [.own true u22, .dat a_many, .dat u11, .no, .no]) (js_same (jl_setIx (xv_d2 nx_pMod (xo_val (xv_dA nx_pInt (xa_val (xv_d2 nx_pAddA (xo_val (xv_d2 nx_pAddA (xo_val (xv_d2 nx_pMulA (xo_val (xv_d2 nx_pIx (xo_own rfl) (xo_val xv_c) (rs_own rfl) rs_val)) (xo_val xv_c) rs_val rs_val)) (xo_val (xv_d2 nx_pMulA (xo_val (xv_var rfl)) (xo_val xv_c) rs_val rs_val)) rs_val rs_val)) (xo_val xv_c) rs_val rs_val) xa_nil))) (xo_val xv_c) rs_val rs_val) xv_c rfl) (fun _ => rfl)) fun u22 =>
    (js_if (xv_dB (xv_d2 nx_pGe (xo_val (xv_var rfl)) (xo_val (xv_d2 nx_pPow (xo_val xv_c) (xo_val xv_c) rs_val rs_val)) rs_val rs_val)) (js_same (js_clr (jl_setIx (xv_var rfl) xv_c rfl)) (fun _ => rfl)) (js_map (w := fun _ => u22) (js_clr js_next) (fun _ => rfl)))))) (js_nextv (v := h_hand) rfl)) fun j27 =>
    (js_ifx (nn_seq (nn_seq nn_ret)) (xv_dB (xv_d2 nx_pGt (xo_val (xv_d2 nx_pIx (xo_own rfl) (xo_val xv_c) (rs_own rfl) rs_val)) (xo_val xv_c) rs_val rs_val)) (js_seq (E := fun (u33 : PyData) => [.own true j27, .dat a_many, .no, .dat u33, .no]) (js_same (jl_asg (xv_d2 nx_pMod (xo_val (xv_dA nx_pInt (xa_val (xv_d2 nx_pIx (xo_own rfl) (xo_val xv_c) (rs_own rfl) rs_val) xa_nil))) (xo_val (xv_var rfl)) rs_val rs_val) rfl) (fun _ => rfl)) fun u33 =>
    (js_seq (E := fun (u36 : List PyData) => [.own true u36, .no, .no, .dat u33, .no]) (js_same (js_clr (jl_setIx (xv_d2 nx_pFdiv (xo_val (xv_d2 nx_pIx (xo_own rfl) (xo_val xv_c) (rs_own rfl) rs_val)) (xo_val (xv_var rfl)) rs_val rs_val) xv_c rfl)) (fun _ => rfl)) fun u36 =>
    (js_map (w := fun u37 => (u37, u36)) (jl_ret (xv_var rfl)) (fun _ => rfl))))
    (js_seq (E := fun (u40 : List PyData) => [.own true u40, .dat a_many, .no, .no, .no]) (js_same (jl_setIx (xv_d2 nx_pAddA (xo_val (xv_d2 nx_pIx (xo_own rfl) (xo_val xv_c) (rs_own rfl) rs_val)) (xo_val xv_c) rs_val rs_val) xv_c rfl) (fun _ => rfl)) fun u40 =>
    (js_seq (E := fun (u48 : PyData) => [.own true u40, .dat a_many, .no, .no, .dat u48]) (js_same (jl_asg (xv_d2 nx_pMod (xo_val (xv_dA nx_pInt (xa_val (xv_d2 nx_pMulA (xo_val (xv_dA nx_pInt (xa_val (xv_d2 nx_pAddA (xo_val (xv_d2 nx_pIx (xo_own rfl) (xo_val xv_c) (rs_own rfl) rs_val)) (xo_val (xv_d2 nx_pMulA (xo_val xv_c) (xo_val (xv_d2 nx_pIx (xo_own rfl) (xo_val xv_c) (rs_own rfl) rs_val)) rs_val rs_val)) rs_val rs_val) xa_nil))) (xo_val xv_c) rs_val rs_val) xa_nil))) (xo_val xv_c) rs_val rs_val) rfl) (fun _ => rfl)) fun u48 =>
    (js_seq (E := fun (u53 : PyData) => [.own true u40, .dat a_many, .no, .no, .dat u53]) (js_same (jl_asg (xv_d2 nx_pMod (xo_val (xv_dA nx_pInt (xa_val (xv_d2 nx_pMulA (xo_val (xv_var rfl)) (xo_val (xv_d2 nx_pAddA (xo_val (xv_d2 nx_pFdiv (xo_val (xv_var rfl)) (xo_val xv_c) rs_val rs_val)) (xo_val xv_c) rs_val rs_val)) rs_val rs_val) xa_nil))) (xo_val xv_c) rs_val rs_val) rfl) (fun _ => rfl)) fun u53 =>
    (js_seq (E := fun (u58 : PyData) => [.own true u40, .dat a_many, .no, .no, .dat u58]) (js_same (jl_asg (xv_d2 nx_pMod (xo_val (xv_dA nx_pInt (xa_val (xv_d2 nx_pMulA (xo_val (xv_var rfl)) (xo_val (xv_d2 nx_pAddA (xo_val (xv_d2 nx_pFdiv (xo_val (xv_var rfl)) (xo_val xv_c) rs_val rs_val)) (xo_val xv_c) rs_val rs_val)) rs_val rs_val) xa_nil))) (xo_val xv_c) rs_val rs_val) rfl) (fun _ => rfl)) fun u58 =>
    (js_map (w := fun u61 => (u61, u40)) (jl_ret (xv_d2 nx_pMod (xo_val (xv_dA nx_pInt (xa_val (xv_d2 nx_pFdiv (xo_val (xv_var rfl)) (xo_val xv_c) rs_val rs_val) xa_nil))) (xo_val (xv_var rfl)) rs_val rs_val)) (fun _ => rfl))))))))
  exact fn_js rfl h (fun c => rfl)
/-! ### _law_same -/
abbrev s__law_same : Stmt := top 27
abbrev N__law_same : List Str := ["one", "due", "a", "b"]
theorem sc__law_same : FnScope N__law_same ["one", "due"] (defScope s__law_same) := ⟨rfl, rfl, rfl, by decide +kernel, rfl, by decide +kernel, by decide +kernel⟩
theorem b__law_same (t : Tx K mg) : Binds K t.d__law_same ["one", "due"] [] := t.F__law_same.binds (ps := ["one", "due"]) fun _ _ _ _ _ _ us hl => match us, hl with | [_, _], _ => rfl
def B__law_same (self_ : Fn) : SemS := (sSeq (sIf (dOr (dB (d1 (isD "tuple") (oVal (dVar 1)))) (dB (d1 (isD "list") (oVal (dVar 1))))) (sSeq (sIf (dOr (dB (d2 pNe (oVal (d1 (isD "tuple") (oVal (dVar 0)))) (oVal (d1 (isD "tuple") (oVal (dVar 1)))))) (dB (d2 pNe (oVal (d1 (isD "list") (oVal (dVar 0)))) (oVal (d1 (isD "list") (oVal (dVar 1))))))) (sRet (dC (.bool false))) sNext)
  (sRet (dAndV (d2 pEq (oVal (dA pLen (aCons (oVal (dVar 0)) aNil))) (oVal (dA pLen (aCons (oVal (dVar 1)) aNil)))) (dA pAll (aCons (oVal (dFrz (dLc (itA zip2 (aCons (oVal (dVar 0)) (aCons (oVal (dVar 1)) aNil))) ([2, 3] : List Nat) (tgT 2 (tgCons (tgN 2) (tgCons (tgN 3) tgNil))) dYes (rvE (dCall 2 self_ (aCons (oVal (dVar 2)) (aCons (oVal (dVar 3)) aNil))))))) aNil))))) sNext)
  (sSeq (sIf (dOr (dB (d2 pNe (oVal (d1 (isD "bool") (oVal (dVar 0)))) (oVal (d1 (isD "bool") (oVal (dVar 1)))))) (dB (d2 pNe (oVal (d2 pIsN (oVal (dVar 0)) (oVal (dC .none)))) (oVal (d2 pIsN (oVal (dVar 1)) (oVal (dC .none))))))) (sRet (dC (.bool false))) sNext)
  (sRet (dAndV (d2 pEq (oVal (d1 (isD "int") (oVal (dVar 0)))) (oVal (d1 (isD "int") (oVal (dVar 1))))) (d2 pEq (oVal (dVar 0)) (oVal (dVar 1)))))))
def F__law_same : Nat → Fn
  | 0 => noFn
  | k_ + 1 => runI N__law_same.length (B__law_same (F__law_same k_))
theorem ok__law_same (t : Tx K mg) : ∀ k_ : Nat, FnOk P w K mg base (L2.CX P w) (1 + k_) t.a__law_same t.d__law_same ["one", "due"] (spD K t.T t.ca 2 (F__law_same k_))
  | 0 => fn_no
  | k_ + 1 =>
  fn_I (fn_D (k := 1 + k_) t.F__law_same sc__law_same (by decide) fun cdv A outer s H E hr =>
    (ds_cons (ds_if (PW.pt (dw_or (dt_val (de_isi rfl (do_val (de_var (pe_var (i := 1) rfl (by first | exact .inl rfl | exact .inr (.inl rfl) | exact .inr (.inr rfl))))) rfl rfl t.n_isinstance rfl t.n_tuple rfl)) (dw_1or (dt_val (de_isi rfl (do_val (de_var (pe_var (i := 1) rfl (by first | exact .inl rfl | exact .inr (.inl rfl) | exact .inr (.inr rfl))))) rfl rfl t.n_isinstance rfl t.n_list rfl))))) (ds_cons (ds_if (PW.pt (dw_or (dt_cmp (op_neD hr.units) r_ne (do_val (de_isi rfl (do_val (de_var (pe_var (i := 0) rfl (by first | exact .inl rfl | exact .inr (.inl rfl) | exact .inr (.inr rfl))))) rfl rfl t.n_isinstance rfl t.n_tuple rfl)) (do_val (de_isi rfl (do_val (de_var (pe_var (i := 1) rfl (by first | exact .inl rfl | exact .inr (.inl rfl) | exact .inr (.inr rfl))))) rfl rfl t.n_isinstance rfl t.n_tuple rfl)) (nomark _)) (dw_1or (dt_cmp (op_neD hr.units) r_ne (do_val (de_isi rfl (do_val (de_var (pe_var (i := 0) rfl (by first | exact .inl rfl | exact .inr (.inl rfl) | exact .inr (.inr rfl))))) rfl rfl t.n_isinstance rfl t.n_list rfl)) (do_val (de_isi rfl (do_val (de_var (pe_var (i := 1) rfl (by first | exact .inl rfl | exact .inr (.inl rfl) | exact .inr (.inr rfl))))) rfl rfl t.n_isinstance rfl t.n_list rfl)) (nomark _))))) (ds_one (ds_ret de_bl)) ds_nil)
    (ds_one (ds_ret (de_and (de_cmp (op_eqD hr.units) r_eq (do_val (de_callB (cr_lenA) r_len rfl t.n_len rfl (da_cons (do_val (de_var (pe_var (i := 0) rfl (by first | exact .inl rfl | exact .inr (.inl rfl) | exact .inr (.inr rfl))))) da_nil))) (do_val (de_callB (cr_lenA) r_len rfl t.n_len rfl (da_cons (do_val (de_var (pe_var (i := 1) rfl (by first | exact .inl rfl | exact .inr (.inl rfl) | exact .inr (.inr rfl))))) da_nil))) (nomark _)) (de_one (de_callB (cr_all rfl) r_all rfl t.n_all rfl (da_cons (do_val (de_frz (dn_lc (own := [("a", 2), ("b", 3)]) rfl sc__law_same.nd (di_zip rfl rfl t.n_zip (da_cons (do_val (de_var (pe_var (i := 0) rfl (by first | exact .inl rfl | exact .inr (.inl rfl) | exact .inr (.inr rfl))))) (da_cons (do_val (de_var (pe_var (i := 1) rfl (by first | exact .inl rfl | exact .inr (.inl rfl) | exact .inr (.inr rfl))))) da_nil))) (blkOk_by (sc := defScope s__law_same) (N := N__law_same) (by decide +kernel)) (fun _ _ _ _ _ => (dg_tup rfl rfl (dgs_cons (dg_name (pg_name (i := 2) sc__law_same.nd rfl (by first | exact .inl rfl | exact .inr rfl))) (dgs_cons (dg_name (pg_name (i := 3) sc__law_same.nd rfl (by first | exact .inl rfl | exact .inr rfl))) dgs_nil)))) (fun _ _ _ _ _ => dts_nil) (fun _ _ _ _ _ => (de_ofV (dv_call (ok__law_same t k_) (hr.mono (by omega)) rfl t.g__law_same t.F__law_same.kp (b__law_same t) passL (da_cons (do_val (de_var (pe_var (i := 2) rfl (by first | exact .inl rfl | exact .inr (.inl rfl) | exact .inr (.inr rfl))))) (da_cons (do_val (de_var (pe_var (i := 3) rfl (by first | exact .inl rfl | exact .inr (.inl rfl) | exact .inr (.inr rfl))))) da_nil))))) (by decide)))) da_nil))))))) ds_nil)
    (ds_cons (ds_if (PW.pt (dw_or (dt_cmp (op_neD hr.units) r_ne (do_val (de_isi rfl (do_val (de_var (pe_var (i := 0) rfl (by first | exact .inl rfl | exact .inr (.inl rfl) | exact .inr (.inr rfl))))) rfl rfl t.n_isinstance rfl t.n_bool rfl)) (do_val (de_isi rfl (do_val (de_var (pe_var (i := 1) rfl (by first | exact .inl rfl | exact .inr (.inl rfl) | exact .inr (.inr rfl))))) rfl rfl t.n_isinstance rfl t.n_bool rfl)) (nomark _)) (dw_1or (dt_cmp (op_neD hr.units) r_ne (do_val (de_cmp op_isN r_isN (do_val (de_var (pe_var (i := 0) rfl (by first | exact .inl rfl | exact .inr (.inl rfl) | exact .inr (.inr rfl))))) (do_val de_non) (nomark _))) (do_val (de_cmp op_isN r_isN (do_val (de_var (pe_var (i := 1) rfl (by first | exact .inl rfl | exact .inr (.inl rfl) | exact .inr (.inr rfl))))) (do_val de_non) (nomark _))) (nomark _))))) (ds_one (ds_ret de_bl)) ds_nil)
    (ds_one (ds_ret (de_and (de_cmp (op_eqD hr.units) r_eq (do_val (de_isi rfl (do_val (de_var (pe_var (i := 0) rfl (by first | exact .inl rfl | exact .inr (.inl rfl) | exact .inr (.inr rfl))))) rfl rfl t.n_isinstance rfl t.n_int rfl)) (do_val (de_isi rfl (do_val (de_var (pe_var (i := 1) rfl (by first | exact .inl rfl | exact .inr (.inl rfl) | exact .inr (.inr rfl))))) rfl rfl t.n_isinstance rfl t.n_int rfl)) (nomark _)) (de_one (de_cmp (op_eqD hr.units) r_eq (do_val (de_var (pe_var (i := 0) rfl (by first | exact .inl rfl | exact .inr (.inl rfl) | exact .inr (.inr rfl))))) (do_val (de_var (pe_var (i := 1) rfl (by first | exact .inl rfl | exact .inr (.inl rfl) | exact .inr (.inr rfl))))) (nomark _))))))))) (by decide)
theorem z__law_same_1 (k_ : Nat) (ih_ : ∀ (a_one : PyData) (a_due : PyData), F__law_same k_ [.dat a_one, .dat a_due] = P__law_same k_ a_one a_due >>= fun c_ => .ok (.dat c_, [.dat a_one, .dat a_due])) (a_one : PyData) (a_due : PyData) (x17 : PyData) : LcS (tgT 2 (tgCons (tgN 2) (tgCons (tgN 3) tgNil))) dYes (rvE (dCall 2 (F__law_same k_) (aCons (oVal (dVar 2)) (aCons (oVal (dVar 3)) aNil)))) [2, 3] [.dat a_one, .dat a_due, .no, .no] x17 ((un2 x17 >>= fun p18 => ((P__law_same k_) p18.1 p18.2 >>= fun v20 => .ok (some v20)))) := by
  have h : LcS (tgT 2 (tgCons (tgN 2) (tgCons (tgN 3) tgNil))) dYes (rvE (dCall 2 (F__law_same k_) (aCons (oVal (dVar 2)) (aCons (oVal (dVar 3)) aNil)))) [2, 3] [.dat a_one, .dat a_due, .no, .no] x17 _ :=
    xlc_step1 (eg_t2 rfl (fun _ => rfl)) (fun p18 => (xv_rvE (er_call (cl2 (f := (F__law_same k_)) (P := (P__law_same k_)) (rv := .dat) ih_) (ew_val (xv_var rfl) (ew_val (xv_var rfl) ew_nil))))) (fun _ => rfl)
  exact h
theorem t__law_same : ∀ (k_ : Nat) (a_one : PyData) (a_due : PyData), F__law_same k_ [.dat a_one, .dat a_due] = P__law_same k_ a_one a_due >>= fun c_ => .ok (.dat c_, [.dat a_one, .dat a_due]) := by
  intro k_
  induction k_ with
  | zero => intros; rfl
  | succ k_ ih_ =>
    intro a_one a_due
    have h : Js (B__law_same (F__law_same k_)) [.dat a_one, .dat a_due, .no, .no] _ (fun (c_ : PyData) => .ret (.dat c_) [.no, .no, .no, .no]) :=
    (js_ifx (nn_seq nn_ret) (xv_dOr (xv_dB (xv_d1 (nx_isD _) (xo_val (xv_var rfl)) rs_val)) (xv_dB (xv_d1 (nx_isD _) (xo_val (xv_var rfl)) rs_val))) (js_ifx nn_ret (xv_dOr (xv_dB (xv_d2 nx_pNe (xo_val (xv_d1 (nx_isD _) (xo_val (xv_var rfl)) rs_val)) (xo_val (xv_d1 (nx_isD _) (xo_val (xv_var rfl)) rs_val)) rs_val rs_val)) (xv_dB (xv_d2 nx_pNe (xo_val (xv_d1 (nx_isD _) (xo_val (xv_var rfl)) rs_val)) (xo_val (xv_d1 (nx_isD _) (xo_val (xv_var rfl)) rs_val)) rs_val rs_val))) (js_same (jl_ret xv_c) (fun _ => rfl))
    (js_same (jl_ret (xv_dAndV (xv_d2 nx_pEq (xo_val (xv_dA nx_pLen (xa_val (xv_var rfl) xa_nil))) (xo_val (xv_dA nx_pLen (xa_val (xv_var rfl) xa_nil))) rs_val rs_val) (xv_dA nx_pAll (xa_val (xv_dFrz (xv_dLc (w := [.dat a_one, .dat a_due, .no, .no]) (e2 := [.dat a_one, .dat a_due, .no, .no]) _ (ei_itA nx_zip2 (xa_val (xv_var rfl) (xa_val (xv_var rfl) xa_nil)) (fun _ => rfl)) rfl rfl rfl rfl (z__law_same_1 k_ ih_ a_one a_due))) xa_nil)))) (fun _ => rfl)))
    (js_ifx nn_ret (xv_dOr (xv_dB (xv_d2 nx_pNe (xo_val (xv_d1 (nx_isD _) (xo_val (xv_var rfl)) rs_val)) (xo_val (xv_d1 (nx_isD _) (xo_val (xv_var rfl)) rs_val)) rs_val rs_val)) (xv_dB (xv_d2 nx_pNe (xo_val (xv_d2 nx_pIsN (xo_val (xv_var rfl)) (xo_val xv_c) rs_val rs_val)) (xo_val (xv_d2 nx_pIsN (xo_val (xv_var rfl)) (xo_val xv_c) rs_val rs_val)) rs_val rs_val))) (js_same (jl_ret xv_c) (fun _ => rfl))
    (js_same (jl_ret (xv_dAndV (xv_d2 nx_pEq (xo_val (xv_d1 (nx_isD _) (xo_val (xv_var rfl)) rs_val)) (xo_val (xv_d1 (nx_isD _) (xo_val (xv_var rfl)) rs_val)) rs_val rs_val) (xv_d2 nx_pEq (xo_val (xv_var rfl)) (xo_val (xv_var rfl)) rs_val rs_val))) (fun _ => rfl))))
    exact fn_js rfl h (fun c => rfl)
/-! ### _law_any -/
abbrev s__law_any : Stmt := top 26
abbrev N__law_any : List Str := ["hand", "some"]
theorem sc__law_any : FnScope N__law_any ["hand", "some"] (defScope s__law_any) := ⟨rfl, rfl, rfl, by decide +kernel, rfl, by decide +kernel, by decide +kernel⟩
theorem b__law_any (t : Tx K mg) : Binds K t.d__law_any ["hand", "some"] [] := t.F__law_any.binds (ps := ["hand", "some"]) fun _ _ _ _ _ _ us hl => match us, hl with | [_, _], _ => rfl
def B__law_any : SemS := (sRet (d2 pIx (oVal (dVar 1)) (oVal (rvE (dCall 2 F__law_draw (aCons (oVar 0) (aCons (oVal (dA pLen (aCons (oVal (dVar 1)) aNil))) aNil)))))))
def F__law_any : Fn := runI N__law_any.length B__law_any
theorem ok__law_any (t : Tx K mg) : FnOk P w K mg base (L2.CX P w) 2 t.a__law_any t.d__law_any ["hand", "some"] (spD K t.T t.ca 2 F__law_any) :=
  fn_I (fn_D (k := 1) t.F__law_any sc__law_any (by decide) fun cdv A outer s H E hr =>
    (ds_one (ds_ret (de_ix ix_two r_ix (do_val (de_var (pe_var (i := 1) rfl (by first | exact .inl rfl | exact .inr (.inl rfl) | exact .inr (.inr rfl))))) (do_val (de_ofV (dv_call (ok__law_draw t) (hr.mono (by decide)) rfl t.g__law_draw t.F__law_draw.kp (b__law_draw t) (passes_call (takes_of rfl rfl rfl rfl) fun _ _ _ _ h => h) (da_cons (do_var (pe_var (i := 0) rfl (by first | exact .inl rfl | exact .inr (.inl rfl) | exact .inr (.inr rfl)))) (da_cons (do_val (de_callB (cr_lenA) r_len rfl t.n_len rfl (da_cons (do_val (de_var (pe_var (i := 1) rfl (by first | exact .inl rfl | exact .inr (.inl rfl) | exact .inr (.inr rfl))))) da_nil))) da_nil))))) (fun _ _ => rfl))))) (by decide)
theorem t__law_any (h_hand : List PyData) (a_some : PyData) : F__law_any [.own true h_hand, .dat a_some] = P__law_any h_hand a_some >>= fun c_ => .ok (.dat c_.1, [.own true c_.2, .dat a_some]) := by
  have h : Js B__law_any [.own true h_hand, .dat a_some] _ (fun (c_ : PyData × List PyData) => .ret (.dat c_.1) [.own true c_.2, .no]) :=
    (js_same (jl_retS (E := (fun (s_ : List PyData) => [.own true s_, .dat a_some])) (s := h_hand) (es_d2 nx_pIx (eso_val (es_ev fun s_ => (xv_var rfl))) (eso_val (es_rvE (ers_callH1 (clh1 (f := F__law_draw) (P := P__law_draw) (rv := .dat) t__law_draw) (fun _ => rfl) (fun _ _ => rfl) (ews_st (es_ev fun s_ => (xv_dA nx_pLen (xa_val (xv_var rfl) xa_nil))) ews_nil)))) rss_val rss_val)) (fun _ => rfl))
  exact fn_js rfl h (fun c => rfl)
/-! ### _law_deep -/
abbrev s__law_deep : Stmt := top 28
abbrev N__law_deep : List Str := ["hand", "thing", "lap"]
theorem sc__law_deep : FnScope N__law_deep ["hand", "thing"] (defScope s__law_deep) := ⟨rfl, rfl, rfl, by decide +kernel, rfl, by decide +kernel, by decide +kernel⟩
theorem b__law_deep (t : Tx K mg) : Binds K t.d__law_deep ["hand", "thing"] [] := t.F__law_deep.binds (ps := ["hand", "thing"]) fun _ _ _ _ _ _ us hl => match us, hl with | [_, _], _ => rfl
def B__law_deep : SemS := (sSeq (sFor (itA rng1 (aCons (oVal (d2 pAddA (oVal (dC (.int 5))) (oVal (rvE (dCall 2 F__law_draw (aCons (oVar 0) (aCons (oVal (dC (.int 45))) aNil))))))) aNil)) (tgN 2) (sClr [2] (sAsg (rvE (dCall 2 F__law_any (aCons (oVar 0) (aCons (oVal (dFrz (dLst (aCons (oVal (dTup (aCons (oVal (dVar 1)) aNil))) (aCons (oVal (dFrz (dLst (aCons (oVal (dVar 1)) aNil)))) aNil))))) aNil)))) (tgN 1))))
  (sRet (dVar 1)))
def F__law_deep : Fn := runI N__law_deep.length B__law_deep
theorem ok__law_deep (t : Tx K mg) : FnOk P w K mg base (L2.CX P w) 3 t.a__law_deep t.d__law_deep ["hand", "thing"] (spD K t.T t.ca 2 F__law_deep) :=
  fn_I (fn_D (k := 2) t.F__law_deep sc__law_deep (by decide) fun cdv A outer s H E hr =>
    (ds_cons (ds_for (passes_of rfl) rfl (di_range1 rfl t.n_range (da_cons (do_val (de_op op_addA r_addA (do_val de_int) (do_val (de_ofV (dv_call (ok__law_draw t) (hr.mono (by decide)) rfl t.g__law_draw t.F__law_draw.kp (b__law_draw t) (passes_call (takes_of rfl rfl rfl rfl) fun _ _ _ _ h => h) (da_cons (do_var (pe_var (i := 0) rfl (by first | exact .inl rfl | exact .inr (.inl rfl) | exact .inr (.inr rfl)))) (da_cons (do_val de_int) da_nil))))))) da_nil)) (dg_name (pg_name (i := 2) sc__law_deep.nd rfl (by first | exact .inl rfl | exact .inr rfl))) (ds_one (ds_clr [2] (ds_set (i := 1) sc__law_deep.nd rfl (by first | exact .inl rfl | exact .inr rfl) (de_ofV (dv_call (ok__law_any t) (hr.mono (by decide)) rfl t.g__law_any t.F__law_any.kp (b__law_any t) (passes_call (takes_of rfl rfl rfl rfl) fun _ _ _ _ h => h) (da_cons (do_var (pe_var (i := 0) rfl (by first | exact .inl rfl | exact .inr (.inl rfl) | exact .inr (.inr rfl)))) (da_cons (do_val (de_frz (dn_lst (da_cons (do_val (de_tup (da_cons (do_val (de_var (pe_var (i := 1) rfl (by first | exact .inl rfl | exact .inr (.inl rfl) | exact .inr (.inr rfl))))) da_nil))) (da_cons (do_val (de_frz (dn_lst (da_cons (do_val (de_var (pe_var (i := 1) rfl (by first | exact .inl rfl | exact .inr (.inl rfl) | exact .inr (.inr rfl))))) da_nil)))) da_nil))))) da_nil))))))))
    (ds_one (ds_ret (de_var (pe_var (i := 1) rfl (by first | exact .inl rfl | exact .inr (.inl rfl) | exact .inr (.inr rfl)))))))) (by decide)
theorem z__law_deep_1 (h_hand : List PyData) (a_thing : PyData) (s6 : List PyData × PyData) (p7 : PyData) : Js (sClr [2] (sAsg (rvE (dCall 2 F__law_any (aCons (oVar 0) (aCons (oVal (dFrz (dLst (aCons (oVal (dTup (aCons (oVal (dVar 1)) aNil))) (aCons (oVal (dFrz (dLst (aCons (oVal (dVar 1)) aNil)))) aNil))))) aNil)))) (tgN 1))) [.own true s6.1, .dat s6.2, .dat p7] ((P__law_any s6.1 (PyData.list [(PyData.tuple [s6.2]), (PyData.list [s6.2])]) >>= fun u9 => .ok (u9.2, u9.1))) (fun (s6 : List PyData × PyData) => .next [.own true s6.1, .dat s6.2, .no]) := by
  have h : Js (sClr [2] (sAsg (rvE (dCall 2 F__law_any (aCons (oVar 0) (aCons (oVal (dFrz (dLst (aCons (oVal (dTup (aCons (oVal (dVar 1)) aNil))) (aCons (oVal (dFrz (dLst (aCons (oVal (dVar 1)) aNil)))) aNil))))) aNil)))) (tgN 1))) [.own true s6.1, .dat s6.2, .dat p7] _ (fun (s6 : List PyData × PyData) => .next [.own true s6.1, .dat s6.2, .no]) :=
    (js_map (w := fun (u9 : PyData × List PyData) => (u9.2, u9.1)) (js_clr (jl_asgS (E := (fun (s_ : List PyData) => [.own true s_, .dat s6.2, .dat p7])) (s := s6.1) (es_rvE (ers_callH1 (clh1 (f := F__law_any) (P := P__law_any) (rv := .dat) t__law_any) (fun _ => rfl) (fun _ _ => rfl) (ews_st (es_ev fun s_ => (xv_dFrz (xv_dLst (ew_val (xv_dTup (ew_val (xv_var rfl) ew_nil) (by decide)) (ew_val (xv_dFrz (xv_dLst (ew_val (xv_var rfl) ew_nil) (by decide))) ew_nil)) (by decide)))) ews_nil))) (fun _ => rfl))) (fun _ => rfl))
  exact h
theorem t__law_deep (h_hand : List PyData) (a_thing : PyData) : F__law_deep [.own true h_hand, .dat a_thing] = P__law_deep h_hand a_thing >>= fun c_ => .ok (.dat c_.1, [.own true c_.2, .dat a_thing]) := by
  have h : Js B__law_deep [.own true h_hand, .dat a_thing, .no] _ (fun (c_ : PyData × List PyData) => .ret (.dat c_.1) [.own true c_.2, .no, .no]) :=
    (js_seq (E := fun (u11 : List PyData × PyData) => [.own true u11.1, .dat u11.2, .no]) (js_same (jl_forS (E := (fun (s_ : List PyData) => [.own true s_, .dat a_thing, .no])) (L := (fun (s6 : List PyData × PyData) => [.own true s6.1, .dat s6.2, .no])) (s := h_hand) (fun s_ => (s_, a_thing)) (fun _ => rfl) (eis_itA nx_rng1 (ews_st (es_d2 nx_pAddA (eso_val (es_ev fun s_ => xv_c)) (eso_val (es_rvE (ers_callH1 (clh1 (f := F__law_draw) (P := P__law_draw) (rv := .dat) t__law_draw) (fun _ => rfl) (fun _ _ => rfl) (ews_st (es_ev fun s_ => xv_c) ews_nil)))) rss_val rss_val) ews_nil)) (fun x5 s6 => jb_of (E := fun (p7 : PyData) => [.own true s6.1, .dat s6.2, .dat p7]) (eg_n rfl) (fun p7 => (z__law_deep_1 h_hand a_thing) s6 p7))) (fun _ => rfl)) fun u11 =>
    (js_map (w := fun u12 => (u12, u11.1)) (jl_ret (xv_var rfl)) (fun _ => rfl)))
  exact fn_js rfl h (fun c => rfl)
/-! ### _law_lots -/
abbrev s__law_lots : Stmt := top 29
abbrev N__law_lots : List Str := ["things", "found", "thing", "lot", "house_of"]
theorem sc__law_lots : FnScope N__law_lots ["things"] (defScope s__law_lots) := ⟨rfl, rfl, rfl, by decide +kernel, rfl, by decide +kernel, by decide +kernel⟩
theorem b__law_lots (t : Tx K mg) : Binds K t.d__law_lots ["things"] [] := t.F__law_lots.binds (ps := ["things"]) fun _ _ _ _ _ _ us hl => match us, hl with | [_], _ => rfl
def B__law_lots : SemS := (sSeq (sAsg (dFrz (dLst (aCons (oVal (dTup aNil)) aNil))) (tgN 1))
  (sSeq (sClr [0] (sFor (itA seq1 (it1 (oVal (dVar 0)))) (tgN 2) (sClr [2] (sAsg (d2 pAddA (oVal (dVar 1)) (oVal (dFrz (dLc (itA seq1 (it1 (oVal (dVar 1)))) ([3] : List Nat) (tgN 3) dYes (d2 pAddA (oVal (dVar 3)) (oVal (dTup (aCons (oVal (dVar 2)) aNil)))))))) (tgN 1)))))
  (sRetL (dLc (itA seq1 (it1 (oVal (dFrz (dA pSrt (aCons (oVal (dFrz (dLc (itA seq1 (it1 (oVal (dVar 1)))) ([3] : List Nat) (tgN 3) dYes (dTup (aCons (oVal (dA pLen (aCons (oVal (dVar 3)) aNil))) (aCons (oVal (dVar 3)) aNil)))))) aNil)))))) ([4, 3] : List Nat) (tgT 2 (tgCons (tgN 4) (tgCons (tgN 3) tgNil))) dYes (dVar 3)))))
def F__law_lots : Fn := runI N__law_lots.length B__law_lots
theorem ok__law_lots (t : Tx K mg) : FnOk P w K mg base (L2.CX P w) 1 t.a__law_lots t.d__law_lots ["things"] (spD K t.T t.ca 1 F__law_lots) :=
  fn_I (fn_D (k := 0) t.F__law_lots sc__law_lots (by decide) fun cdv A outer s H E hr =>
    (ds_cons (ds_set (i := 1) sc__law_lots.nd rfl (by first | exact .inl rfl | exact .inr rfl) (de_frz (dn_lst (da_cons (do_val (de_tup da_nil)) da_nil))))
    (ds_cons (ds_clr [0] (ds_for (passes_of rfl) rfl (di_seq rfl (do_val (de_var (pe_var (i := 0) rfl (by first | exact .inl rfl | exact .inr (.inl rfl) | exact .inr (.inr rfl)))))) (dg_name (pg_name (i := 2) sc__law_lots.nd rfl (by first | exact .inl rfl | exact .inr rfl))) (ds_one (ds_clr [2] (ds_set (i := 1) sc__law_lots.nd rfl (by first | exact .inl rfl | exact .inr rfl) (de_op op_addA r_addA (do_val (de_var (pe_var (i := 1) rfl (by first | exact .inl rfl | exact .inr (.inl rfl) | exact .inr (.inr rfl))))) (do_val (de_frz (dn_lc (own := [("lot", 3)]) rfl sc__law_lots.nd (di_seq rfl (do_val (de_var (pe_var (i := 1) rfl (by first | exact .inl rfl | exact .inr (.inl rfl) | exact .inr (.inr rfl)))))) (blkOk_by (sc := defScope s__law_lots) (N := N__law_lots) (by decide +kernel)) (fun _ _ _ _ _ => (dg_name (pg_name (i := 3) sc__law_lots.nd rfl (by first | exact .inl rfl | exact .inr rfl)))) (fun _ _ _ _ _ => dts_nil) (fun _ _ _ _ _ => (de_op op_addA r_addA (do_val (de_var (pe_var (i := 3) rfl (by first | exact .inl rfl | exact .inr (.inl rfl) | exact .inr (.inr rfl))))) (do_val (de_tup (da_cons (do_val (de_var (pe_var (i := 2) rfl (by first | exact .inl rfl | exact .inr (.inl rfl) | exact .inr (.inr rfl))))) da_nil))))) (by decide))))))))))
    (ds_one (ds_retL (dn_lc (own := [("house_of", 4), ("lot", 3)]) rfl sc__law_lots.nd (di_seq rfl (do_val (de_frz (dn_callB (cr_sortedA (hu65 hr)) r_sortedA rfl t.n_sorted rfl (da_cons (do_val (de_frz (dn_lc (own := [("lot", 3)]) rfl sc__law_lots.nd (di_seq rfl (do_val (de_var (pe_var (i := 1) rfl (by first | exact .inl rfl | exact .inr (.inl rfl) | exact .inr (.inr rfl)))))) (blkOk_by (sc := defScope s__law_lots) (N := N__law_lots) (by decide +kernel)) (fun _ _ _ _ _ => (dg_name (pg_name (i := 3) sc__law_lots.nd rfl (by first | exact .inl rfl | exact .inr rfl)))) (fun _ _ _ _ _ => dts_nil) (fun _ _ _ _ _ => (de_tup (da_cons (do_val (de_callB (cr_lenA) r_len rfl t.n_len rfl (da_cons (do_val (de_var (pe_var (i := 3) rfl (by first | exact .inl rfl | exact .inr (.inl rfl) | exact .inr (.inr rfl))))) da_nil))) (da_cons (do_val (de_var (pe_var (i := 3) rfl (by first | exact .inl rfl | exact .inr (.inl rfl) | exact .inr (.inr rfl))))) da_nil)))) (by decide)))) da_nil))))) (blkOk_by (sc := defScope s__law_lots) (N := N__law_lots) (by decide +kernel)) (fun _ _ _ _ _ => (dg_tup rfl rfl (dgs_cons (dg_name (pg_name (i := 4) sc__law_lots.nd rfl (by first | exact .inl rfl | exact .inr rfl))) (dgs_cons (dg_name (pg_name (i := 3) sc__law_lots.nd rfl (by first | exact .inl rfl | exact .inr rfl))) dgs_nil)))) (fun _ _ _ _ _ => dts_nil) (fun _ _ _ _ _ => (de_var (pe_var (i := 3) rfl (by first | exact .inl rfl | exact .inr (.inl rfl) | exact .inr (.inr rfl))))) (by decide))))))) (by decide)
theorem z__law_lots_1 (a_things : PyData) (u1 : PyData) (s3 : PyData) (p4 : PyData) (x12 : PyData) : LcS (tgN 3) dYes (d2 pAddA (oVal (dVar 3)) (oVal (dTup (aCons (oVal (dVar 2)) aNil)))) [3] [.dat a_things, .dat s3, .dat p4, .no, .no] x12 ((pAddA x12 (PyData.tuple [p4]) >>= fun v15 => .ok (some v15))) := by
  have h : LcS (tgN 3) dYes (d2 pAddA (oVal (dVar 3)) (oVal (dTup (aCons (oVal (dVar 2)) aNil)))) [3] [.dat a_things, .dat s3, .dat p4, .no, .no] x12 _ :=
    xlc_step1 (eg_n rfl) (fun p13 => (xv_d2 nx_pAddA (xo_val (xv_var rfl)) (xo_val (xv_dTup (ew_val (xv_var rfl) ew_nil) (by decide))) rs_val rs_val)) (fun _ => rfl)
  exact h
theorem z__law_lots_2 (a_things : PyData) (u1 : PyData) (s3 : PyData) (p4 : PyData) : Js (sClr [2] (sAsg (d2 pAddA (oVal (dVar 1)) (oVal (dFrz (dLc (itA seq1 (it1 (oVal (dVar 1)))) ([3] : List Nat) (tgN 3) dYes (d2 pAddA (oVal (dVar 3)) (oVal (dTup (aCons (oVal (dVar 2)) aNil)))))))) (tgN 1))) [.dat a_things, .dat s3, .dat p4, .no, .no] ((((seqOf s3 >>= fun v16 => lcR (fun x12 => (pAddA x12 (PyData.tuple [p4]) >>= fun v14 => .ok (some v14))) v16) >>= fun v17 => .ok (PyData.list v17)) >>= fun v18 => pAddA s3 v18)) (fun (s3 : PyData) => .next [.dat a_things, .dat s3, .no, .no, .no]) := by
  have h : Js (sClr [2] (sAsg (d2 pAddA (oVal (dVar 1)) (oVal (dFrz (dLc (itA seq1 (it1 (oVal (dVar 1)))) ([3] : List Nat) (tgN 3) dYes (d2 pAddA (oVal (dVar 3)) (oVal (dTup (aCons (oVal (dVar 2)) aNil)))))))) (tgN 1))) [.dat a_things, .dat s3, .dat p4, .no, .no] _ (fun (s3 : PyData) => .next [.dat a_things, .dat s3, .no, .no, .no]) :=
    (js_same (js_clr (jl_asg (xv_d2 nx_pAddA (xo_val (xv_var rfl)) (xo_val (xv_dFrz (xv_dLc (w := [.dat a_things, .dat s3, .dat p4, .no, .no]) (e2 := [.dat a_things, .dat s3, .dat p4, .no, .no]) _ (ei_seq (xa_val (xv_var rfl) xa_nil) (fun _ => rfl)) rfl rfl rfl rfl (z__law_lots_1 a_things u1 s3 p4)))) rs_val rs_val) rfl)) (fun _ => rfl))
  exact h
theorem z__law_lots_3 (a_things : PyData) (u1 : PyData) (u21 : PyData) (x22 : PyData) : LcS (tgN 3) dYes (dTup (aCons (oVal (dA pLen (aCons (oVal (dVar 3)) aNil))) (aCons (oVal (dVar 3)) aNil))) [3] [.no, .dat u21, .no, .no, .no] x22 (((pLen [x22] >>= fun v26 => .ok (PyData.tuple [v26, x22])) >>= fun v27 => .ok (some v27))) := by
  have h : LcS (tgN 3) dYes (dTup (aCons (oVal (dA pLen (aCons (oVal (dVar 3)) aNil))) (aCons (oVal (dVar 3)) aNil))) [3] [.no, .dat u21, .no, .no, .no] x22 _ :=
    xlc_step1 (eg_n rfl) (fun p23 => (xv_dTup (ew_val (xv_dA nx_pLen (xa_val (xv_var rfl) xa_nil)) (ew_val (xv_var rfl) ew_nil)) (by decide))) (fun _ => rfl)
  exact h
theorem z__law_lots_4 (a_things : PyData) (u1 : PyData) (u21 : PyData) (x33 : PyData) : LcS (tgT 2 (tgCons (tgN 4) (tgCons (tgN 3) tgNil))) dYes (dVar 3) [4, 3] [.no, .dat u21, .no, .no, .no] x33 ((un2 x33 >>= fun p34 => .ok (some p34.2))) := by
  have h : LcS (tgT 2 (tgCons (tgN 4) (tgCons (tgN 3) tgNil))) dYes (dVar 3) [4, 3] [.no, .dat u21, .no, .no, .no] x33 _ :=
    xlc_step1 (eg_t2 rfl (fun _ => rfl)) (fun p34 => (xv_var rfl)) (fun _ => rfl)
  exact h
theorem t__law_lots (a_things : PyData) : F__law_lots [.dat a_things] = P__law_lots a_things >>= fun c_ => .ok (.new c_, [.dat a_things]) := by
  have h : Js B__law_lots [.dat a_things, .no, .no, .no, .no] _ (fun (c_ : List PyData) => .ret (.new c_) [.no, .no, .no, .no, .no]) :=
    (js_seq (E := fun (u1 : PyData) => [.dat a_things, .dat u1, .no, .no, .no]) (js_same (jl_asg (xv_dFrz (xv_dLst (ew_val (xv_dTup ew_nil (by decide)) ew_nil) (by decide))) rfl) (fun _ => rfl)) fun u1 =>
    (js_seq (E := fun (u21 : PyData) => [.no, .dat u21, .no, .no, .no]) (js_same (js_clr (jl_for (E := (fun (s3 : PyData) => [.dat a_things, .dat s3, .no, .no, .no])) (s0 := u1) (ei_seq (xa_val (xv_var rfl) xa_nil) (fun _ => rfl)) (fun x2 s3 => jb_of (E := fun (p4 : PyData) => [.dat a_things, .dat s3, .dat p4, .no, .no]) (eg_n rfl) (fun p4 => (z__law_lots_2 a_things u1) s3 p4)))) (fun _ => rfl)) fun u21 =>
    (js_same (jl_retL (xv_dLc (w := [.no, .dat u21, .no, .no, .no]) (e2 := [.no, .dat u21, .no, .no, .no]) _ (ei_seq (xa_val (xv_dFrz (xv_dA nx_pSrt (xa_val (xv_dFrz (xv_dLc (w := [.no, .dat u21, .no, .no, .no]) (e2 := [.no, .dat u21, .no, .no, .no]) _ (ei_seq (xa_val (xv_var rfl) xa_nil) (fun _ => rfl)) rfl rfl rfl rfl (z__law_lots_3 a_things u1 u21))) xa_nil))) xa_nil) (fun _ => rfl)) rfl rfl rfl rfl (z__law_lots_4 a_things u1 u21))) (fun _ => rfl))))
  exact fn_js rfl h (fun c => rfl)
/-! ### _law_wins -/
abbrev s__law_wins : Stmt := top 30
abbrev N__law_wins : List Str := ["chairs", "lot", "party"]
theorem sc__law_wins : FnScope N__law_wins ["chairs", "lot"] (defScope s__law_wins) := ⟨rfl, rfl, rfl, by decide +kernel, rfl, by decide +kernel, by decide +kernel⟩
theorem b__law_wins (t : Tx K mg) : Binds K t.d__law_wins ["chairs", "lot"] [] := t.F__law_wins.binds (ps := ["chairs", "lot"]) fun _ _ _ _ _ _ us hl => match us, hl with | [_, _], _ => rfl
def B__law_wins : SemS := (sRet (d2 pGt (oVal (d2 pMulA (oVal (dC (.int 2))) (oVal (dA pSum (aCons (oVal (dFrz (dLc (itA seq1 (it1 (oVal (dVar 1)))) ([2] : List Nat) (tgN 2) dYes (d2 pIx (oVal (dVar 0)) (oVal (dVar 2)))))) aNil))))) (oVal (dA pSum (aCons (oVal (dVar 0)) aNil)))))
def F__law_wins : Fn := runI N__law_wins.length B__law_wins
theorem ok__law_wins (t : Tx K mg) : FnOk P w K mg base (L2.CX P w) 1 t.a__law_wins t.d__law_wins ["chairs", "lot"] (spD K t.T t.ca 2 F__law_wins) :=
  fn_I (fn_D (k := 0) t.F__law_wins sc__law_wins (by decide) fun cdv A outer s H E hr =>
    (ds_one (ds_ret (de_cmp op_gt r_gt (do_val (de_op op_mulB r_mulB (do_val de_int) (do_val (de_callB (cr_sumA rfl) r_sum rfl t.n_sum rfl (da_cons (do_val (de_frz (dn_lc (own := [("party", 2)]) rfl sc__law_wins.nd (di_seq rfl (do_val (de_var (pe_var (i := 1) rfl (by first | exact .inl rfl | exact .inr (.inl rfl) | exact .inr (.inr rfl)))))) (blkOk_by (sc := defScope s__law_wins) (N := N__law_wins) (by decide +kernel)) (fun _ _ _ _ _ => (dg_name (pg_name (i := 2) sc__law_wins.nd rfl (by first | exact .inl rfl | exact .inr rfl)))) (fun _ _ _ _ _ => dts_nil) (fun _ _ _ _ _ => (de_ix ix_two r_ix (do_val (de_var (pe_var (i := 0) rfl (by first | exact .inl rfl | exact .inr (.inl rfl) | exact .inr (.inr rfl))))) (do_val (de_var (pe_var (i := 2) rfl (by first | exact .inl rfl | exact .inr (.inl rfl) | exact .inr (.inr rfl))))) (fun _ _ => rfl))) (by decide)))) da_nil))))) (do_val (de_callB (cr_sumA rfl) r_sum rfl t.n_sum rfl (da_cons (do_val (de_var (pe_var (i := 0) rfl (by first | exact .inl rfl | exact .inr (.inl rfl) | exact .inr (.inr rfl))))) da_nil))) (nomark _))))) (by decide)
theorem z__law_wins_1 (a_chairs : PyData) (a_lot : PyData) (x1 : PyData) : LcS (tgN 2) dYes (d2 pIx (oVal (dVar 0)) (oVal (dVar 2))) [2] [.dat a_chairs, .dat a_lot, .no] x1 ((pIx a_chairs x1 >>= fun v4 => .ok (some v4))) := by
  have h : LcS (tgN 2) dYes (d2 pIx (oVal (dVar 0)) (oVal (dVar 2))) [2] [.dat a_chairs, .dat a_lot, .no] x1 _ :=
    xlc_step1 (eg_n rfl) (fun p2 => (xv_d2 nx_pIx (xo_val (xv_var rfl)) (xo_val (xv_var rfl)) rs_val rs_val)) (fun _ => rfl)
  exact h
theorem t__law_wins (a_chairs : PyData) (a_lot : PyData) : F__law_wins [.dat a_chairs, .dat a_lot] = P__law_wins a_chairs a_lot >>= fun c_ => .ok (.dat c_, [.dat a_chairs, .dat a_lot]) := by
  have h : Js B__law_wins [.dat a_chairs, .dat a_lot, .no] _ (fun (c_ : PyData) => .ret (.dat c_) [.no, .no, .no]) :=
    (js_same (jl_ret (xv_d2 nx_pGt (xo_val (xv_d2 nx_pMulA (xo_val xv_c) (xo_val (xv_dA nx_pSum (xa_val (xv_dFrz (xv_dLc (w := [.dat a_chairs, .dat a_lot, .no]) (e2 := [.dat a_chairs, .dat a_lot, .no]) _ (ei_seq (xa_val (xv_var rfl) xa_nil) (fun _ => rfl)) rfl rfl rfl rfl (z__law_wins_1 a_chairs a_lot))) xa_nil))) rs_val rs_val)) (xo_val (xv_dA nx_pSum (xa_val (xv_var rfl) xa_nil))) rs_val rs_val)) (fun _ => rfl))
  exact fn_js rfl h (fun c => rfl)
/-! ### _law_seats -/
abbrev s__law_seats : Stmt := top 31
abbrev N__law_seats : List Str := ["hand", "many", "chairs", "party"]
theorem sc__law_seats : FnScope N__law_seats ["hand", "many"] (defScope s__law_seats) := ⟨rfl, rfl, rfl, by decide +kernel, rfl, by decide +kernel, by decide +kernel⟩
theorem b__law_seats (t : Tx K mg) : Binds K t.d__law_seats ["hand", "many"] [] := t.F__law_seats.binds (ps := ["hand", "many"]) fun _ _ _ _ _ _ us hl => match us, hl with | [_, _], _ => rfl
def B__law_seats : SemS := (sSeq (sOwn (dLc (itA rng1 (aCons (oVal (dVar 1)) aNil)) ([3] : List Nat) (tgN 3) dYes (rvE (dCall 2 F__law_draw (aCons (oVar 0) (aCons (oVal (rvE (dCall 2 F__law_any (aCons (oVar 0) (aCons (oVal (dFrz (dLst (aCons (oVal (dC (.int 3))) (aCons (oVal (dC (.int 8))) (aCons (oVal (dC (.int 30))) aNil)))))) aNil))))) aNil))))) 2)
  (sSeq (sIf (dB (d2 pEq (oVal (dA pSum (aCons (oAny 2) aNil))) (oVal (dC (.int 0))))) (sClr [1] (sSetIx 2 (rvE (dCall 2 F__law_draw (aCons (oVar 0) (aCons (oVal (dVar 1)) aNil)))) (d2 pAddA (oVal (dC (.int 1))) (oVal (rvE (dCall 2 F__law_draw (aCons (oVar 0) (aCons (oVal (dC (.int 5))) aNil)))))))) (sClr [1] sNext))
  (sRet (dA pTuple (aCons (oAny 2) aNil)))))
def F__law_seats : Fn := runI N__law_seats.length B__law_seats
theorem ok__law_seats (t : Tx K mg) : FnOk P w K mg base (L2.CX P w) 3 t.a__law_seats t.d__law_seats ["hand", "many"] (spD K t.T t.ca 2 F__law_seats) :=
  fn_I (fn_D (k := 2) t.F__law_seats sc__law_seats (by decide) fun cdv A outer s H E hr =>
    (ds_cons (ds_ownLc (own := [("party", 3)]) (i := 2) rfl sc__law_seats.nd rfl rfl rfl (di_range1 rfl t.n_range (da_cons (do_val (de_var (pe_var (i := 1) rfl (by first | exact .inl rfl | exact .inr (.inl rfl) | exact .inr (.inr rfl))))) da_nil)) (blkOk_by (sc := defScope s__law_seats) (N := N__law_seats) (by decide +kernel)) (fun _ _ _ _ _ => (dg_name (pg_name (i := 3) sc__law_seats.nd rfl (by first | exact .inl rfl | exact .inr rfl)))) (fun _ _ _ _ _ => dts_nil) (fun _ _ _ _ _ => (de_ofV (dv_call (ok__law_draw t) (hr.mono (by decide)) rfl t.g__law_draw t.F__law_draw.kp (b__law_draw t) passL (da_cons (do_var (pe_var (i := 0) rfl (by first | exact .inl rfl | exact .inr (.inl rfl) | exact .inr (.inr rfl)))) (da_cons (do_val (de_ofV (dv_call (ok__law_any t) (hr.mono (by decide)) rfl t.g__law_any t.F__law_any.kp (b__law_any t) passL (da_cons (do_var (pe_var (i := 0) rfl (by first | exact .inl rfl | exact .inr (.inl rfl) | exact .inr (.inr rfl)))) (da_cons (do_val (de_frz (dn_lst (da_cons (do_val de_int) (da_cons (do_val de_int) (da_cons (do_val de_int) da_nil)))))) da_nil))))) da_nil))))) (by decide))
    (ds_cons (ds_if (dt_cmp (op_eqD hr.units) r_eq (do_val (de_callB (cr_sumA rfl) r_sum rfl t.n_sum rfl (da_cons (do_any (pe_var (i := 2) rfl (by first | exact .inl rfl | exact .inr (.inl rfl) | exact .inr (.inr rfl)))) da_nil))) (do_val de_int) (nomark _)) (ds_one (ds_clr [1] (ds_setIx (pe_var (i := 2) rfl (by first | exact .inl rfl | exact .inr (.inl rfl) | exact .inr (.inr rfl))) (de_ofV (dv_call (ok__law_draw t) (hr.mono (by decide)) rfl t.g__law_draw t.F__law_draw.kp (b__law_draw t) (passes_call (takes_of rfl rfl rfl rfl) fun _ _ _ _ h => h) (da_cons (do_var (pe_var (i := 0) rfl (by first | exact .inl rfl | exact .inr (.inl rfl) | exact .inr (.inr rfl)))) (da_cons (do_val (de_var (pe_var (i := 1) rfl (by first | exact .inl rfl | exact .inr (.inl rfl) | exact .inr (.inr rfl))))) da_nil)))) (de_op op_addA r_addA (do_val de_int) (do_val (de_ofV (dv_call (ok__law_draw t) (hr.mono (by decide)) rfl t.g__law_draw t.F__law_draw.kp (b__law_draw t) (passes_call (takes_of rfl rfl rfl rfl) fun _ _ _ _ h => h) (da_cons (do_var (pe_var (i := 0) rfl (by first | exact .inl rfl | exact .inr (.inl rfl) | exact .inr (.inr rfl)))) (da_cons (do_val de_int) da_nil))))))))) (dss_clr [1] ds_nil))
    (ds_one (ds_ret (de_callT (call_tuple_of) r_tuple rfl t.n_tuple rfl (da_cons (do_any (pe_var (i := 2) rfl (by first | exact .inl rfl | exact .inr (.inl rfl) | exact .inr (.inr rfl)))) da_nil))))))) (by decide)
theorem z__law_seats_1 (h_hand : List PyData) (a_many : PyData) (x2 : PyData) (s4 : List PyData) : LcT (tgN 3) dYes (rvE (dCall 2 F__law_draw (aCons (oVar 0) (aCons (oVal (rvE (dCall 2 F__law_any (aCons (oVar 0) (aCons (oVal (dFrz (dLst (aCons (oVal (dC (.int 3))) (aCons (oVal (dC (.int 8))) (aCons (oVal (dC (.int 30))) aNil)))))) aNil))))) aNil)))) [3] (fun (s_ : List PyData) => [.own true s_, .dat a_many, .no, .no]) x2 s4 (((P__law_any s4 (PyData.list [(PyData.int 3), (PyData.int 8), (PyData.int 30)]) >>= fun p7 => P__law_draw p7.2 p7.1) >>= fun p8 => .ok ((some p8.1), p8.2))) := by
  have h : LcT (tgN 3) dYes (rvE (dCall 2 F__law_draw (aCons (oVar 0) (aCons (oVal (rvE (dCall 2 F__law_any (aCons (oVar 0) (aCons (oVal (dFrz (dLst (aCons (oVal (dC (.int 3))) (aCons (oVal (dC (.int 8))) (aCons (oVal (dC (.int 30))) aNil)))))) aNil))))) aNil)))) [3] (fun (s_ : List PyData) => [.own true s_, .dat a_many, .no, .no]) x2 s4 _ :=
    lcs_step1 (E' := fun p3 s_ => [.own true s_, .dat a_many, .no, .dat p3]) (eg_n rfl) (fun p3 => (es_rvE (ers_callH1 (clh1 (f := F__law_draw) (P := P__law_draw) (rv := .dat) t__law_draw) (fun _ => rfl) (fun _ _ => rfl) (ews_st (es_rvE (ers_callH1 (clh1 (f := F__law_any) (P := P__law_any) (rv := .dat) t__law_any) (fun _ => rfl) (fun _ _ => rfl) (ews_st (es_ev fun s_ => (xv_dFrz (xv_dLst (ew_val xv_c (ew_val xv_c (ew_val xv_c ew_nil))) (by decide)))) ews_nil))) ews_nil)))) (fun _ _ => rfl)
  exact h
theorem t__law_seats (h_hand : List PyData) (a_many : PyData) : F__law_seats [.own true h_hand, .dat a_many] = P__law_seats h_hand a_many >>= fun c_ => .ok (.dat c_.1, [.own true c_.2, .dat a_many]) := by
  have h : Js B__law_seats [.own true h_hand, .dat a_many, .no, .no] _ (fun (c_ : PyData × List PyData) => .ret (.dat c_.1) [.own true c_.2, .no, .no, .no]) :=
    (js_seq (E := fun (u10 : List PyData × List PyData) => [.own true u10.2, .dat a_many, .own false u10.1, .no]) (js_same (jl_ownS (E := (fun (s_ : List PyData) => [.own true s_, .dat a_many, .no, .no])) (s := h_hand) (es_lc (W := (fun (s_ : List PyData) => [.own true s_, .dat a_many, .no, .no])) _ (eis_ei fun s_ => (ei_itA nx_rng1 (xa_val (xv_var rfl) xa_nil) (fun _ => rfl))) (fun _ => rfl) (fun _ => rfl) (fun _ _ => rfl) (z__law_seats_1 h_hand a_many)) (fun _ => rfl)) (fun _ => rfl)) fun u10 =>
    (js_seq (E := fun (j20 : List PyData × List PyData) => [.own true j20.1, .no, .own false j20.2, .no]) (js_if (xv_dB (xv_d2 nx_pEq (xo_val (xv_dA nx_pSum (xa_own rfl rfl xa_nil))) (xo_val xv_c) rs_val rs_val)) (js_map (w := fun (u19 : List PyData × List PyData) => (u19.2, u19.1)) (js_clr (jl_setIxS (E := (fun (s_ : List PyData) => [.own true s_, .dat a_many, .own false u10.1, .no])) (s := u10.2) (fun _ => u10.1) (es_d2 nx_pAddA (eso_val (es_ev fun s_ => xv_c)) (eso_val (es_rvE (ers_callH1 (clh1 (f := F__law_draw) (P := P__law_draw) (rv := .dat) t__law_draw) (fun _ => rfl) (fun _ _ => rfl) (ews_st (es_ev fun s_ => xv_c) ews_nil)))) rss_val rss_val) (es_rvE (ers_callH1 (clh1 (f := F__law_draw) (P := P__law_draw) (rv := .dat) t__law_draw) (fun _ => rfl) (fun _ _ => rfl) (ews_st (es_ev fun s_ => (xv_var rfl)) ews_nil))) (fun _ => rfl))) (fun _ => rfl)) (js_map (w := fun _ => (u10.2, u10.1)) (js_clr js_next) (fun _ => rfl))) fun j20 =>
    (js_map (w := fun u21 => (u21, j20.1)) (jl_ret (xv_dA nx_pTuple (xa_own rfl rfl xa_nil))) (fun _ => rfl))))
  exact fn_js rfl h (fun c => rfl)
/-! ### _law_no_seats -/
abbrev s__law_no_seats : Stmt := top 32
abbrev N__law_no_seats : List Str := ["hand"]
theorem sc__law_no_seats : FnScope N__law_no_seats ["hand"] (defScope s__law_no_seats) := ⟨rfl, rfl, rfl, by decide +kernel, rfl, by decide +kernel, by decide +kernel⟩
theorem b__law_no_seats (t : Tx K mg) : Binds K t.d__law_no_seats ["hand"] [] := t.F__law_no_seats.binds (ps := ["hand"]) fun _ _ _ _ _ _ us hl => match us, hl with | [_], _ => rfl
def B__law_no_seats : SemS := (sRetV (dCall 2 F__law_any (aCons (oVar 0) (aCons (oVal (dFrz (dLst (aCons (oVal (dC .none)) (aCons (oVal (dC (.int 0))) (aCons (oVal (dTup aNil)) (aCons (oVal (dTup (aCons (oVal (dC (.int 0))) (aCons (oVal (dC (.int 0))) aNil)))) (aCons (oVal (dFrz (dLst (aCons (oVal (dC (.int 1))) (aCons (oVal (dC (.int 2))) aNil))))) (aCons (oVal (dTup (aCons (oVal (d1 pNeg (oVal (dC (.int 1))))) (aCons (oVal (dC (.int 2))) aNil)))) (aCons (oVal (dTup (aCons (oVal (dC (.bool true))) (aCons (oVal (dC (.int 2))) aNil)))) (aCons (oVal (dTup (aCons (oVal (dC (.str "1"))) (aCons (oVal (dC (.int 2))) aNil)))) (aCons (oVal (dTup (aCons (oVal (d2 pAddA (oVal (d2 pPow (oVal (dC (.int 10))) (oVal (dC (.int 6))))) (oVal (dC (.int 1))))) (aCons (oVal (dC (.int 1))) aNil)))) (aCons (oVal (dC (.dict []))) (aCons (oVal (dTup (aCons (oVal (dC (.int 1))) (aCons (oVal (dC .none)) aNil)))) (aCons (oVal (d2 pMulA (oVal (dTup (aCons (oVal (dC (.int 1))) aNil))) (oVal (dC (.int 13))))) (aCons (oVal (rvE (dCall 2 F__law_deep (aCons (oVar 0) (aCons (oVal (dC (.int 1))) aNil))))) aNil)))))))))))))))) aNil))))
def F__law_no_seats : Fn := runI N__law_no_seats.length B__law_no_seats
theorem ok__law_no_seats (t : Tx K mg) : FnOk P w K mg base (L2.CX P w) 4 t.a__law_no_seats t.d__law_no_seats ["hand"] (spD K t.T t.ca 1 F__law_no_seats) :=
  fn_I (fn_D (k := 3) t.F__law_no_seats sc__law_no_seats (by decide) fun cdv A outer s H E hr =>
    (ds_one (ds_retV (dv_call (ok__law_any t) (hr.mono (by decide)) rfl t.g__law_any t.F__law_any.kp (b__law_any t) (passes_call (takes_of rfl rfl rfl rfl) fun _ _ _ _ h => h) (da_cons (do_var (pe_var (i := 0) rfl (by first | exact .inl rfl | exact .inr (.inl rfl) | exact .inr (.inr rfl)))) (da_cons (do_val (de_frz (dn_lst (da_cons (do_val de_non) (da_cons (do_val de_int) (da_cons (do_val (de_tup da_nil)) (da_cons (do_val (de_tup (da_cons (do_val de_int) (da_cons (do_val de_int) da_nil)))) (da_cons (do_val (de_frz (dn_lst (da_cons (do_val de_int) (da_cons (do_val de_int) da_nil))))) (da_cons (do_val (de_tup (da_cons (do_val (de_un un_neg r_neg (do_val de_int))) (da_cons (do_val de_int) da_nil)))) (da_cons (do_val (de_tup (da_cons (do_val de_bl) (da_cons (do_val de_int) da_nil)))) (da_cons (do_val (de_tup (da_cons (do_val de_str) (da_cons (do_val de_int) da_nil)))) (da_cons (do_val (de_tup (da_cons (do_val (de_op op_addA r_addA (do_val (de_op op_pow r_pow (do_val de_int) (do_val de_int))) (do_val de_int))) (da_cons (do_val de_int) da_nil)))) (da_cons (do_val de_dict0) (da_cons (do_val (de_tup (da_cons (do_val de_int) (da_cons (do_val de_non) da_nil)))) (da_cons (do_val (de_op op_mulB r_mulB (do_val (de_tup (da_cons (do_val de_int) da_nil))) (do_val de_int))) (da_cons (do_val (de_ofV (dv_call (ok__law_deep t) (hr.mono (by decide)) rfl t.g__law_deep t.F__law_deep.kp (b__law_deep t) (passes_call (takes_of rfl rfl rfl rfl) fun _ _ _ _ h => h) (da_cons (do_var (pe_var (i := 0) rfl (by first | exact .inl rfl | exact .inr (.inl rfl) | exact .inr (.inr rfl)))) (da_cons (do_val de_int) da_nil))))) da_nil)))))))))))))))) da_nil)))))) (by decide)
theorem t__law_no_seats (h_hand : List PyData) : F__law_no_seats [.own true h_hand] = P__law_no_seats h_hand >>= fun c_ => .ok (.dat c_.1, [.own true c_.2]) := by
  have h : Js B__law_no_seats [.own true h_hand] _ (fun (c_ : PyData × List PyData) => .ret (.dat c_.1) [.own true c_.2]) :=
    (js_same (jl_retVS (E := (fun (s_ : List PyData) => [.own true s_])) (s := h_hand) (ers_callH1 (clh1 (f := F__law_any) (P := P__law_any) (rv := .dat) t__law_any) (fun _ => rfl) (fun _ _ => rfl) (ews_st (es_frz (es_lst (ews_st (es_ev fun s_ => xv_c) (ews_st (es_ev fun s_ => xv_c) (ews_st (es_ev fun s_ => (xv_dTup ew_nil (by decide))) (ews_st (es_ev fun s_ => (xv_dTup (ew_val xv_c (ew_val xv_c ew_nil)) (by decide))) (ews_st (es_ev fun s_ => (xv_dFrz (xv_dLst (ew_val xv_c (ew_val xv_c ew_nil)) (by decide)))) (ews_st (es_ev fun s_ => (xv_dTup (ew_val (xv_d1 nx_pNeg (xo_val xv_c) rs_val) (ew_val xv_c ew_nil)) (by decide))) (ews_st (es_ev fun s_ => (xv_dTup (ew_val xv_c (ew_val xv_c ew_nil)) (by decide))) (ews_st (es_ev fun s_ => (xv_dTup (ew_val xv_c (ew_val xv_c ew_nil)) (by decide))) (ews_st (es_ev fun s_ => (xv_dTup (ew_val (xv_d2 nx_pAddA (xo_val (xv_d2 nx_pPow (xo_val xv_c) (xo_val xv_c) rs_val rs_val)) (xo_val xv_c) rs_val rs_val) (ew_val xv_c ew_nil)) (by decide))) (ews_st (es_ev fun s_ => xv_c) (ews_st (es_ev fun s_ => (xv_dTup (ew_val xv_c (ew_val xv_c ew_nil)) (by decide))) (ews_st (es_ev fun s_ => (xv_d2 nx_pMulA (xo_val (xv_dTup (ew_val xv_c ew_nil) (by decide))) (xo_val xv_c) rs_val rs_val)) (ews_st (es_rvE (ers_callH1 (clh1 (f := F__law_deep) (P := P__law_deep) (rv := .dat) t__law_deep) (fun _ => rfl) (fun _ _ => rfl) (ews_st (es_ev fun s_ => xv_c) ews_nil))) ews_nil))))))))))))) (by decide))) ews_nil))) (fun _ => rfl))
  exact fn_js rfl h (fun c => rfl)
/-! ### _law_word -/
abbrev s__law_word : Stmt := top 33
abbrev N__law_word : List Str := ["deed", "e", "flags"]
theorem sc__law_word : FnScope N__law_word ["deed"] (defScope s__law_word) := ⟨rfl, rfl, rfl, by decide +kernel, rfl, by decide +kernel, by decide +kernel⟩
theorem b__law_word (t : Tx K mg) : Binds K t.d__law_word ["deed"] [] := t.F__law_word.binds (ps := ["deed"]) fun _ _ _ _ _ _ us hl => match us, hl with | [_], _ => rfl
def T__law_word : SemS := (sRet (dC (.str "let")))
def S0__law_word (ea : Addr) : SemS := (sSeq (sAsg (dFrz (dLst (aCons (oVal (d1 (isE ea false) (oVal (dVar 1)))) (aCons (oVal (d1 (isE ea true) (oVal (dVar 1)))) aNil)))) (tgN 2))
  (sRet (dIf (dAnd (dB (d2 pEq (oVal (dM pCount (oVal (dVar 2)) (oVal (dC (.bool true))))) (oVal (dC (.int 1))))) (dB (d1 (isE ea true) (oVal (dVar 1))))) (d2 pIx (oVal (dFrz (dLst (aCons (oVal (dC (.str "lot"))) (aCons (oVal (dC (.str "seats"))) aNil))))) (oVal (dM pIndex (oVal (dVar 2)) (oVal (dC (.bool true)))))) (dC (.str "other")))))
def S1__law_word (ea : Addr) : SemS := (sSeq (sAsg (dFrz (dLst (aCons (oVal (d1 (isE ea true) (oVal (dVar 1)))) (aCons (oVal (d1 (isE ea false) (oVal (dVar 1)))) aNil)))) (tgN 2))
  (sRet (dIf (dAnd (dB (d2 pEq (oVal (dM pCount (oVal (dVar 2)) (oVal (dC (.bool true))))) (oVal (dC (.int 1))))) (dB (d1 (isE ea true) (oVal (dVar 1))))) (d2 pIx (oVal (dFrz (dLst (aCons (oVal (dC (.str "lot"))) (aCons (oVal (dC (.str "seats"))) aNil))))) (oVal (dM pIndex (oVal (dVar 2)) (oVal (dC (.bool true)))))) (dC (.str "other")))))
def S__law_word (ea : Addr) (m : Nat) : SemS := match m with
  | 0 => S0__law_word ea
  | 1 => S1__law_word ea
  | _ => sNext
theorem okT__law_word (r : PyData) : retOf (T__law_word (nos N__law_word.length)) = okF__law_word r := by
  simp [T__law_word, exF__law_word, okF__law_word, afterH, retOf, sSeq, sThen, sAsg, sIf, sRet, sRetV, dFrz, dLst, dTup, aCons, aNil, oVal, oAny, dVar, d1, d2, dB, dNot, dAnd, dOr, dAndV, dOrV, dNotV, dOfB, dM, dC, dIf, dA, resAll, isE, vals, few, tgN, ioAt, ofR, nos, Op.res, asList, pCount, pIndex, findD, pIx, pEq, pNe, plainD, nd, nd.ndAll, SeqAt.shaped, PyData.canLay0, PyData.canLayAll0, PyData.depth, PyData.depthAll, sNext, PyData.eqv, PyData.eqvAll, atI, ixN, List.replicate]
theorem ex0__law_word (ea : Addr) : retOf (afterH 1 (S__law_word ea 0) T__law_word ((nos N__law_word.length).set 1 (.dat (.dict [(.none, .int (ea : Nat))])))) = exF__law_word 0 := by
  simp [S__law_word, S0__law_word, T__law_word, exF__law_word, okF__law_word, afterH, retOf, sSeq, sThen, sAsg, sIf, sRet, sRetV, dFrz, dLst, dTup, aCons, aNil, oVal, oAny, dVar, d1, d2, dB, dNot, dAnd, dOr, dAndV, dOrV, dNotV, dOfB, dM, dC, dIf, dA, resAll, isE, vals, few, tgN, ioAt, ofR, nos, Op.res, asList, pCount, pIndex, findD, pIx, pEq, pNe, plainD, nd, nd.ndAll, SeqAt.shaped, PyData.canLay0, PyData.canLayAll0, PyData.depth, PyData.depthAll, sNext, PyData.eqv, PyData.eqvAll, atI, ixN, List.replicate]
theorem ex1__law_word (ea : Addr) : retOf (afterH 1 (S__law_word ea 1) T__law_word ((nos N__law_word.length).set 1 (.dat (.dict [(.none, .int (ea : Nat))])))) = exF__law_word 1 := by
  simp [S__law_word, S1__law_word, T__law_word, exF__law_word, okF__law_word, afterH, retOf, sSeq, sThen, sAsg, sIf, sRet, sRetV, dFrz, dLst, dTup, aCons, aNil, oVal, oAny, dVar, d1, d2, dB, dNot, dAnd, dOr, dAndV, dOrV, dNotV, dOfB, dM, dC, dIf, dA, resAll, isE, vals, few, tgN, ioAt, ofR, nos, Op.res, asList, pCount, pIndex, findD, pIx, pEq, pNe, plainD, nd, nd.ndAll, SeqAt.shaped, PyData.canLay0, PyData.canLayAll0, PyData.depth, PyData.depthAll, sNext, PyData.eqv, PyData.eqvAll, atI, ixN, List.replicate]
theorem gives__law_word (t : Tx K mg) (X : Cx) (eK : X.K = K) (eM : X.mg = mg) (cdv : Value) {C : Ct} (eC : (C.K, C.T, C.ca) = (K, t.T, t.ca)) {k : Nat} (hr : Room k X.A) {qn : Str} : GivesTo X N__law_word "_law_word" (defScope s__law_word) t.a__law_word cdv (defBody s__law_word) "deed" qn (TSaid C okF__law_word exF__law_word) := by
  obtain ⟨CK, CT, Cca, CE⟩ := C
  simp only [Prod.mk.injEq] at eC
  obtain ⟨e1, e2, e3⟩ := eC
  subst e2 e3
  subst e1
  subst eM
  subst eK
  have hun : X.A.units + 200 < cLine := by have := hr.un; omega
  refine said_gives (Sx := S__law_word) (T := T__law_word) (j := 1) rfl rfl t.g_ChairError (by decide) sc__law_word.nd rfl rfl (by decide) ?hex ?hsu ?hre ?hok ?hxx
  case hex =>
    intro m z e
    match m, e with
    | 0, _ => exact t.m_BadSeats
    | 1, _ => exact t.m_BadLot
    | (_ + 2), e => cases e
  case hsu =>
    intro m z e s H ea oe pn hz hf
    have hu4 : ((cxOf C8.CX0 X.prog X.w X.K X.mg X.base N__law_word "_law_word" (defScope s__law_word) t.a__law_word cdv X.A X.stack s H C8.E0).nox.suite ea ((ea, oe) :: pn)).A.units + 64 < cLine := by show X.A.units + 3 + 64 < _; omega
    have hu5 : ((cxOf C8.CX0 X.prog X.w X.K X.mg X.base N__law_word "_law_word" (defScope s__law_word) t.a__law_word cdv X.A X.stack s H C8.E0).nox.suite ea ((ea, oe) :: pn)).A.units + 65 < cLine := by show X.A.units + 3 + 65 < _; omega
    match m, e with
    | 0, _ => exact (ds_cons (ds_set (i := 2) sc__law_word.nd rfl (by first | exact .inl rfl | exact .inr rfl) (de_frz (dn_lst (da_cons (do_val (de_isE t.x_BadSeats hz hf (do_val (de_var (pe_var (i := 1) rfl (by first | exact .inl rfl | exact .inr (.inl rfl) | exact .inr (.inr rfl))))) rfl rfl t.n_isinstance (pe_glob (v := .ref t.e_BadLot) rfl t.g_BadLot rfl) (fun _ h => h) t.i_BadSeats_BadLot)) (da_cons (do_val (de_isE t.x_BadSeats hz hf (do_val (de_var (pe_var (i := 1) rfl (by first | exact .inl rfl | exact .inr (.inl rfl) | exact .inr (.inr rfl))))) rfl rfl t.n_isinstance (pe_glob (v := .ref t.e_BadSeats) rfl t.g_BadSeats rfl) (fun _ h => h) t.i_BadSeats_BadSeats)) da_nil)))))
    (ds_one (ds_ret (de_if (PW.pt (dw_and (dt_cmp (op_eqD hu4) r_eq (do_val (de_count rfl hu5 (do_val (de_var (pe_var (i := 2) rfl (by first | exact .inl rfl | exact .inr (.inl rfl) | exact .inr (.inr rfl))))) (do_val de_bl))) (do_val de_int) (nomark _)) (dw_1and (dt_val (de_isE t.x_BadSeats hz hf (do_val (de_var (pe_var (i := 1) rfl (by first | exact .inl rfl | exact .inr (.inl rfl) | exact .inr (.inr rfl))))) rfl rfl t.n_isinstance (pe_bltn (v := .ty "ValueError") rfl t.n_ValueError rfl rfl) (fun _ h => h) t.i_BadSeats_ValueError))))) (de_ix ix_two r_ix (do_val (de_frz (dn_lst (da_cons (do_val de_str) (da_cons (do_val de_str) da_nil))))) (do_val (de_index rfl hu5 (do_val (de_var (pe_var (i := 2) rfl (by first | exact .inl rfl | exact .inr (.inl rfl) | exact .inr (.inr rfl))))) (do_val de_bl))) (fun _ _ => rfl)) de_str))))
    | 1, _ => exact (ds_cons (ds_set (i := 2) sc__law_word.nd rfl (by first | exact .inl rfl | exact .inr rfl) (de_frz (dn_lst (da_cons (do_val (de_isE t.x_BadLot hz hf (do_val (de_var (pe_var (i := 1) rfl (by first | exact .inl rfl | exact .inr (.inl rfl) | exact .inr (.inr rfl))))) rfl rfl t.n_isinstance (pe_glob (v := .ref t.e_BadLot) rfl t.g_BadLot rfl) (fun _ h => h) t.i_BadLot_BadLot)) (da_cons (do_val (de_isE t.x_BadLot hz hf (do_val (de_var (pe_var (i := 1) rfl (by first | exact .inl rfl | exact .inr (.inl rfl) | exact .inr (.inr rfl))))) rfl rfl t.n_isinstance (pe_glob (v := .ref t.e_BadSeats) rfl t.g_BadSeats rfl) (fun _ h => h) t.i_BadLot_BadSeats)) da_nil)))))
    (ds_one (ds_ret (de_if (PW.pt (dw_and (dt_cmp (op_eqD hu4) r_eq (do_val (de_count rfl hu5 (do_val (de_var (pe_var (i := 2) rfl (by first | exact .inl rfl | exact .inr (.inl rfl) | exact .inr (.inr rfl))))) (do_val de_bl))) (do_val de_int) (nomark _)) (dw_1and (dt_val (de_isE t.x_BadLot hz hf (do_val (de_var (pe_var (i := 1) rfl (by first | exact .inl rfl | exact .inr (.inl rfl) | exact .inr (.inr rfl))))) rfl rfl t.n_isinstance (pe_bltn (v := .ty "ValueError") rfl t.n_ValueError rfl rfl) (fun _ h => h) t.i_BadLot_ValueError))))) (de_ix ix_two r_ix (do_val (de_frz (dn_lst (da_cons (do_val de_str) (da_cons (do_val de_str) da_nil))))) (do_val (de_index rfl hu5 (do_val (de_var (pe_var (i := 2) rfl (by first | exact .inl rfl | exact .inr (.inl rfl) | exact .inr (.inr rfl))))) (do_val de_bl))) (fun _ _ => rfl)) de_str))))
    | (_ + 2), e => cases e
  case hre => exact fun s H => (ds_one (ds_ret de_str))
  case hok => exact fun r z h => (okT__law_word r).trans h
  case hxx =>
    intro m z ea e
    match m, e with
    | 0, e => exact (ex0__law_word ea).trans e
    | 1, e => exact (ex1__law_word ea).trans e
    | (_ + 2), e => cases e
/-! ### _law_do_win -/
abbrev s__law_do_win : Stmt := top 34
abbrev N__law_do_win : List Str := ["one", "other", "lot"]
theorem sc__law_do_win : FnScope N__law_do_win ["one", "other", "lot"] (defScope s__law_do_win) := ⟨rfl, rfl, rfl, by decide +kernel, rfl, by decide +kernel, by decide +kernel⟩
theorem b__law_do_win (t : Tx K mg) : Binds K t.d__law_do_win ["one", "other", "lot"] [] := t.F__law_do_win.binds (ps := ["one", "other", "lot"]) fun _ _ _ _ _ _ us hl => match us, hl with | [_, _, _], _ => rfl
def B__law_do_win : SemS := (sRet (dAndV (rvE (dCall 2 F__law_wins (aCons (oVal (dVar 0)) (aCons (oVal (dVar 2)) aNil)))) (rvE (dCall 2 F__law_wins (aCons (oVal (dVar 1)) (aCons (oVal (dVar 2)) aNil))))))
def F__law_do_win : Fn := runI N__law_do_win.length B__law_do_win
theorem ok__law_do_win (t : Tx K mg) : FnOk P w K mg base (L2.CX P w) 2 t.a__law_do_win t.d__law_do_win ["one", "other", "lot"] (spD K t.T t.ca 3 F__law_do_win) :=
  fn_I (fn_D (k := 1) t.F__law_do_win sc__law_do_win (by decide) fun cdv A outer s H E hr =>
    (ds_one (ds_ret (de_and (de_ofV (dv_call (ok__law_wins t) (hr.mono (by decide)) rfl t.g__law_wins t.F__law_wins.kp (b__law_wins t) (passes_call (takes_of rfl rfl rfl rfl) fun _ _ _ _ h => h) (da_cons (do_val (de_var (pe_var (i := 0) rfl (by first | exact .inl rfl | exact .inr (.inl rfl) | exact .inr (.inr rfl))))) (da_cons (do_val (de_var (pe_var (i := 2) rfl (by first | exact .inl rfl | exact .inr (.inl rfl) | exact .inr (.inr rfl))))) da_nil)))) (de_one (de_ofV (dv_call (ok__law_wins t) (hr.mono (by decide)) rfl t.g__law_wins t.F__law_wins.kp (b__law_wins t) (passes_call (takes_of rfl rfl rfl rfl) fun _ _ _ _ h => h) (da_cons (do_val (de_var (pe_var (i := 1) rfl (by first | exact .inl rfl | exact .inr (.inl rfl) | exact .inr (.inr rfl))))) (da_cons (do_val (de_var (pe_var (i := 2) rfl (by first | exact .inl rfl | exact .inr (.inl rfl) | exact .inr (.inr rfl))))) da_nil))))))))) (by decide)
theorem t__law_do_win (a_one : PyData) (a_other : PyData) (a_lot : PyData) : F__law_do_win [.dat a_one, .dat a_other, .dat a_lot] = P__law_do_win a_one a_other a_lot >>= fun c_ => .ok (.dat c_, [.dat a_one, .dat a_other, .dat a_lot]) := by
  have h : Js B__law_do_win [.dat a_one, .dat a_other, .dat a_lot] _ (fun (c_ : PyData) => .ret (.dat c_) [.no, .no, .no]) :=
    (js_same (jl_ret (xv_dAndV (xv_rvE (er_call (cl2 (f := F__law_wins) (P := P__law_wins) (rv := .dat) t__law_wins) (ew_val (xv_var rfl) (ew_val (xv_var rfl) ew_nil)))) (xv_rvE (er_call (cl2 (f := F__law_wins) (P := P__law_wins) (rv := .dat) t__law_wins) (ew_val (xv_var rfl) (ew_val (xv_var rfl) ew_nil)))))) (fun _ => rfl))
  exact fn_js rfl h (fun c => rfl)
/-! ### _law_is_right -/
abbrev s__law_is_right : Stmt := top 35
abbrev N__law_is_right : List Str := ["hand", "many", "one", "other", "lots", "victors", "least", "counts", "party", "some", "alone", "answer", "lot", "rest", "none", "bad", "odd", "words", "ask_one", "out", "here", "pick"]
theorem sc__law_is_right : FnScope N__law_is_right ["hand", "many"] (defScope s__law_is_right) := ⟨rfl, rfl, rfl, by decide +kernel, rfl, by decide +kernel, by decide +kernel⟩
theorem b__law_is_right (t : Tx K mg) : Binds K t.d__law_is_right ["hand", "many"] [] := t.F__law_is_right.binds (ps := ["hand", "many"]) fun _ _ _ _ _ _ us hl => match us, hl with | [_, _], _ => rfl
def B__law_is_right : SemS := (sSeq (sAsg (dTup (aCons (oVal (rvE (dCall 2 F__law_seats (aCons (oVar 0) (aCons (oVal (dVar 1)) aNil))))) (aCons (oVal (rvE (dCall 2 F__law_seats (aCons (oVar 0) (aCons (oVal (dVar 1)) aNil))))) aNil))) (tgT 2 (tgCons (tgN 2) (tgCons (tgN 3) tgNil))))
  (sSeq (sAsg (rvE (dCall 1 F__law_lots (aCons (oVal (dFrz (d1 rgL1 (oVal (dVar 1))))) aNil))) (tgN 4))
  (sSeq (sAsg (dFrz (dLc (itA seq1 (it1 (oVal (dVar 4)))) ([12] : List Nat) (tgN 12) (dB (rvE (dCall 3 F__law_do_win (aCons (oVal (dVar 2)) (aCons (oVal (dVar 3)) (aCons (oVal (dVar 12)) aNil)))))) (dVar 12))) (tgN 5))
  (sSeq (sAsg (dFrz (dLc (itA seq1 (it1 (oVal (dVar 5)))) ([12] : List Nat) (tgN 12) (dNot (dB (dA pAny (aCons (oVal (dFrz (dLc (itA seq1 (it1 (oVal (dVar 12)))) ([19] : List Nat) (tgN 19) dYes (rvE (dCall 3 F__law_do_win (aCons (oVal (dVar 2)) (aCons (oVal (dVar 3)) (aCons (oVal (dFrz (dLc (itA seq1 (it1 (oVal (dVar 12)))) ([8] : List Nat) (tgN 8) (dB (d2 pNe (oVal (dVar 8)) (oVal (dVar 19)))) (dVar 8)))) aNil)))))))) aNil)))) (dVar 12))) (tgN 6))
  (sSeq (sOwn (dLst aNil) 7)
  (sSeq (sFor (itA rng1 (aCons (oVal (dVar 1)) aNil)) (tgN 8) (sSeq (sClr [8] (sAsg (dFrz (dLc (itA seq1 (it1 (oVal (dVar 5)))) ([12] : List Nat) (tgN 12) (dAnd (dB (d2 pIn (oVal (dVar 8)) (oVal (dVar 12)))) (dNot (dB (rvE (dCall 3 F__law_do_win (aCons (oVal (dVar 2)) (aCons (oVal (dVar 3)) (aCons (oVal (dFrz (dLc (itA seq1 (it1 (oVal (dVar 12)))) ([20] : List Nat) (tgN 20) (dB (d2 pNe (oVal (dVar 20)) (oVal (dVar 8)))) (dVar 20)))) aNil)))))))) (dVar 12))) (tgN 9)))
  (sClr [9] (sAppend 7 (dA pLen (aCons (oVal (dVar 9)) aNil))))))
  (sSeq (sAsg (dA pLen (aCons (oVal (dFrz (dLc (itA seq1 (it1 (oVal (dVar 4)))) ([12] : List Nat) (tgN 12) (dB (d2 pNe (oVal (rvE (dCall 2 F__law_wins (aCons (oVal (dVar 2)) (aCons (oVal (dVar 12)) aNil))))) (oVal (rvE (dCall 2 F__law_wins (aCons (oVal (dVar 3)) (aCons (oVal (dVar 12)) aNil))))))) (dVar 12)))) aNil)) (tgN 10))
  (sSeq (sAsg (dFrz (dLst (aCons (oVal (rvE (dCall 2 F_least_both (aCons (oVal (dVar 2)) (aCons (oVal (dVar 3)) aNil))))) (aCons (oVal (rvE (dCall 2 F_both_swings (aCons (oVal (dVar 2)) (aCons (oVal (dVar 3)) aNil))))) (aCons (oVal (rvE (dCall 2 F_deadlocks (aCons (oVal (dVar 2)) (aCons (oVal (dVar 3)) aNil))))) aNil))))) (tgN 11))
  (sSeq (sIf (dOr (dNot (dB (rvE (dCall 2 (F__law_same 8) (aCons (oVal (dVar 11)) (aCons (oVal (dFrz (dLst (aCons (oVal (dVar 6)) (aCons (oVal (dA pTuple (aCons (oAny 7) aNil))) (aCons (oVal (dVar 10)) aNil)))))) aNil)))))) (dB (d2 pNe (oVal (dFrz (dLst (aCons (oVal (rvE (dCall 2 F_least_both (aCons (oVal (dVar 3)) (aCons (oVal (dVar 2)) aNil))))) (aCons (oVal (rvE (dCall 2 F_both_swings (aCons (oVal (dVar 3)) (aCons (oVal (dVar 2)) aNil))))) (aCons (oVal (rvE (dCall 2 F_deadlocks (aCons (oVal (dVar 3)) (aCons (oVal (dVar 2)) aNil))))) aNil)))))) (oVal (dVar 11))))) (sRet (dC (.bool false))) (sClr [6, 7, 10, 11] sNext))
  (sSeq (sClr [4, 5] (sFor (itA seq1 (it1 (oVal (dFrz (dLc (itA rng1 (aCons (oVal (dC (.int 6))) aNil)) ([21] : List Nat) (tgN 21) dYes (rvE (dCall 2 F__law_any (aCons (oVar 0) (aCons (oVal (dVar 4)) aNil))))))))) (tgN 12) (sSeq (sAsg (dA pTuple (aCons (oVal (dFrz (dLc (itA rng1 (aCons (oVal (dVar 1)) aNil)) ([8] : List Nat) (tgN 8) (dB (d2 pNotIn (oVal (dVar 8)) (oVal (dVar 12)))) (dVar 8)))) aNil)) (tgN 13))
  (sIf (dOr (dNot (dB (rvE (dCall 2 (F__law_same 8) (aCons (oVal (rvE (dCall 3 F_both_win (aCons (oVal (dVar 2)) (aCons (oVal (dVar 3)) (aCons (oVal (dVar 12)) aNil)))))) (aCons (oVal (d2 pIn (oVal (dVar 12)) (oVal (dVar 5)))) aNil)))))) (dAnd (dB (rvE (dCall 3 F_both_win (aCons (oVal (dVar 2)) (aCons (oVal (dVar 3)) (aCons (oVal (dVar 12)) aNil)))))) (dB (rvE (dCall 3 F_both_win (aCons (oVal (dVar 2)) (aCons (oVal (dVar 3)) (aCons (oVal (dVar 13)) aNil)))))))) (sRet (dC (.bool false))) (sClr [12, 13] sNext)))))
  (sSeq (sAsg (dTup (aCons (oVal (rvE (dCall 1 F__law_no_seats (aCons (oVar 0) aNil)))) (aCons (oVal (rvE (dCall 2 F__law_any (aCons (oVar 0) (aCons (oVal (dFrz (dLst (aCons (oVal (rvE (dCall 1 F__law_no_seats (aCons (oVar 0) aNil)))) (aCons (oVal (d2 pAddA (oVal (dVar 2)) (oVal (dTup (aCons (oVal (dC (.int 1))) aNil))))) aNil))))) aNil))))) aNil))) (tgT 2 (tgCons (tgN 14) (tgCons (tgN 15) tgNil))))
  (sSeq (sClr [1] (sAsg (rvE (dCall 2 F__law_any (aCons (oVar 0) (aCons (oVal (dFrz (dLst (aCons (oVal (dC .none)) (aCons (oVal (dFrz (dLst (aCons (oVal (dC (.int 0))) aNil)))) (aCons (oVal (dTup (aCons (oVal (dVar 1)) aNil))) (aCons (oVal (dTup (aCons (oVal (dC (.int 0))) (aCons (oVal (dC (.int 0))) aNil)))) (aCons (oVal (dC (.dict []))) (aCons (oVal (dTup (aCons (oVal (dC (.bool true))) aNil))) (aCons (oVal (dTup (aCons (oVal (dC (.str "0"))) aNil))) (aCons (oVal (dTup (aCons (oVal (d1 pNeg (oVal (dC (.int 1))))) aNil))) (aCons (oVal (dC (.int 0))) (aCons (oVal (rvE (dCall 2 F__law_deep (aCons (oVar 0) (aCons (oVal (dC (.int 0))) aNil))))) aNil))))))))))))) aNil)))) (tgN 16)))
  (sSeq (sClr [3, 16] (sAsg (dFrz (dLst (aCons (oVal (dSaid okF__law_word exF__law_word (rvE (dCall 3 F_both_win (aCons (oVal (dVar 14)) (aCons (oVal (dVar 15)) (aCons (oVal (dVar 16)) aNil))))))) (aCons (oVal (dSaid okF__law_word exF__law_word (rvE (dCall 3 F_both_win (aCons (oVal (dVar 2)) (aCons (oVal (dVar 15)) (aCons (oVal (dVar 16)) aNil))))))) (aCons (oVal (dSaid okF__law_word exF__law_word (rvE (dCall 3 F_both_win (aCons (oVal (dVar 2)) (aCons (oVal (dVar 3)) (aCons (oVal (dVar 16)) aNil))))))) aNil))))) (tgN 17)))
  (sSeq (sClr [14, 15] (sFor (itA seq1 (it1 (oVal (dTup (aCons (oVal (dC (fnD "least_both"))) (aCons (oVal (dC (fnD "both_swings"))) (aCons (oVal (dC (fnD "deadlocks"))) aNil))))))) (tgN 18) (sClr [18] (sAsg (d2 pAddA (oVal (dVar 17)) (oVal (dFrz (dLst (aCons (oVal (dSaid okF__law_word exF__law_word (rvE (dCallV 18 2 [("least_both", F_least_both), ("both_swings", F_both_swings), ("deadlocks", F_deadlocks)] (aCons (oVal (dVar 14)) (aCons (oVal (dVar 15)) aNil)))))) (aCons (oVal (dSaid okF__law_word exF__law_word (rvE (dCallV 18 2 [("least_both", F_least_both), ("both_swings", F_both_swings), ("deadlocks", F_deadlocks)] (aCons (oVal (dVar 2)) (aCons (oVal (dVar 15)) aNil)))))) aNil)))))) (tgN 17)))))
  (sRet (dAndV (d2 pEq (oVal (dVar 17)) (oVal (d2 pAddA (oVal (dFrz (dLst (aCons (oVal (dC (.str "seats"))) (aCons (oVal (dC (.str "seats"))) (aCons (oVal (dC (.str "lot"))) aNil)))))) (oVal (d2 pMulA (oVal (dFrz (dLst (aCons (oVal (dC (.str "seats"))) aNil)))) (oVal (dC (.int 6)))))))) (d2 pEq (oVal (rvE (dCall 2 F_deadlocks (aCons (oVal (dVar 2)) (aCons (oVal (dVar 2)) aNil))))) (oVal (dC (.int 0))))))))))))))))))))
def F__law_is_right : Fn := runI N__law_is_right.length B__law_is_right
theorem ok__law_is_right (t : Tx K mg) (tb : ∀ p ∈ t.cs, LamX.TabB base mg p.1 p.2) : FnOk P w K mg base (L2.CX P w) 12 t.a__law_is_right t.d__law_is_right ["hand", "many"] (spD K t.T t.ca 2 F__law_is_right) :=
  fn_I (fn_DC (k := 11) t.H__law_is_right sc__law_is_right (by decide) fun A outer s H E hr =>
    (ds_cons (ds_asg (de_tup (da_cons (do_val (de_ofV (dv_call (ok__law_seats t) (hr.mono (by decide)) rfl t.g__law_seats t.F__law_seats.kp (b__law_seats t) (passes_call (takes_of rfl rfl rfl rfl) fun _ _ _ _ h => h) (da_cons (do_var (pe_var (i := 0) rfl (by first | exact .inl rfl | exact .inr (.inl rfl) | exact .inr (.inr rfl)))) (da_cons (do_val (de_var (pe_var (i := 1) rfl (by first | exact .inl rfl | exact .inr (.inl rfl) | exact .inr (.inr rfl))))) da_nil))))) (da_cons (do_val (de_ofV (dv_call (ok__law_seats t) (hr.mono (by decide)) rfl t.g__law_seats t.F__law_seats.kp (b__law_seats t) (passes_call (takes_of rfl rfl rfl rfl) fun _ _ _ _ h => h) (da_cons (do_var (pe_var (i := 0) rfl (by first | exact .inl rfl | exact .inr (.inl rfl) | exact .inr (.inr rfl)))) (da_cons (do_val (de_var (pe_var (i := 1) rfl (by first | exact .inl rfl | exact .inr (.inl rfl) | exact .inr (.inr rfl))))) da_nil))))) da_nil))) (dg_tup rfl rfl (dgs_cons (dg_name (pg_name (i := 2) sc__law_is_right.nd rfl (by first | exact .inl rfl | exact .inr rfl))) (dgs_cons (dg_name (pg_name (i := 3) sc__law_is_right.nd rfl (by first | exact .inl rfl | exact .inr rfl))) dgs_nil))))
    (ds_cons (ds_set (i := 4) sc__law_is_right.nd rfl (by first | exact .inl rfl | exact .inr rfl) (de_ofV (dv_call (ok__law_lots t) (hr.mono (by decide)) rfl t.g__law_lots t.F__law_lots.kp (b__law_lots t) (passes_call (takes_of rfl rfl rfl rfl) fun _ _ _ _ h => h) (da_cons (do_val (de_frz (dn_lstRg1 rfl rfl t.n_list rfl t.n_range (do_val (de_var (pe_var (i := 1) rfl (by first | exact .inl rfl | exact .inr (.inl rfl) | exact .inr (.inr rfl)))))))) da_nil))))
    (ds_cons (ds_setLc (own := [("lot", 12)]) (i := 5) rfl sc__law_is_right.nd rfl rfl rfl (di_seq rfl (do_val (de_var (pe_var (i := 4) rfl (by first | exact .inl rfl | exact .inr (.inl rfl) | exact .inr (.inr rfl)))))) (blkOk_by (sc := defScope s__law_is_right) (N := N__law_is_right) (by decide +kernel)) (fun _ _ _ _ _ => (dg_name (pg_name (i := 12) sc__law_is_right.nd rfl (by first | exact .inl rfl | exact .inr rfl)))) (fun _ _ _ _ _ => (dts_one (dt_val (de_ofV (dv_call (ok__law_do_win t) (hr.mono (by decide)) rfl t.g__law_do_win t.F__law_do_win.kp (b__law_do_win t) passL (da_cons (do_val (de_var (pe_var (i := 2) rfl (by first | exact .inl rfl | exact .inr (.inl rfl) | exact .inr (.inr rfl))))) (da_cons (do_val (de_var (pe_var (i := 3) rfl (by first | exact .inl rfl | exact .inr (.inl rfl) | exact .inr (.inr rfl))))) (da_cons (do_val (de_var (pe_var (i := 12) rfl (by first | exact .inl rfl | exact .inr (.inl rfl) | exact .inr (.inr rfl))))) da_nil)))))))) (fun _ _ _ _ _ => (de_var (pe_var (i := 12) rfl (by first | exact .inl rfl | exact .inr (.inl rfl) | exact .inr (.inr rfl))))) (by decide))
    (ds_cons (ds_setLc (own := [("lot", 12)]) (i := 6) rfl sc__law_is_right.nd rfl rfl rfl (di_seq rfl (do_val (de_var (pe_var (i := 5) rfl (by first | exact .inl rfl | exact .inr (.inl rfl) | exact .inr (.inr rfl)))))) (blkOk_by (sc := defScope s__law_is_right) (N := N__law_is_right) (by decide +kernel)) (fun _ _ _ _ _ => (dg_name (pg_name (i := 12) sc__law_is_right.nd rfl (by first | exact .inl rfl | exact .inr rfl)))) (fun _ _ _ _ _ => (dts_one (dt_not (dt_val (de_callB (cr_any rfl) r_any rfl t.n_any rfl (da_cons (do_val (de_frz (dn_lc (own := [("out", 19)]) rfl sc__law_is_right.nd (di_seq rfl (do_val (de_var (pe_var (i := 12) rfl (by first | exact .inl rfl | exact .inr (.inl rfl) | exact .inr (.inr rfl)))))) (blkOk_by (by rfl)) (fun _ _ _ _ _ => (dg_name (pg_name (i := 19) sc__law_is_right.nd rfl (by first | exact .inl rfl | exact .inr rfl)))) (fun _ _ _ _ _ => dts_nil) (fun _ _ _ _ _ => (de_ofV (dv_call (ok__law_do_win t) (hr.mono (by decide)) rfl t.g__law_do_win t.F__law_do_win.kp (b__law_do_win t) passL (da_cons (do_val (de_var (pe_var (i := 2) rfl (by first | exact .inl rfl | exact .inr (.inl rfl) | exact .inr (.inr rfl))))) (da_cons (do_val (de_var (pe_var (i := 3) rfl (by first | exact .inl rfl | exact .inr (.inl rfl) | exact .inr (.inr rfl))))) (da_cons (do_val (de_frz (dn_lc (own := [("party", 8)]) rfl sc__law_is_right.nd (di_seq rfl (do_val (de_var (pe_var (i := 12) rfl (by first | exact .inl rfl | exact .inr (.inl rfl) | exact .inr (.inr rfl)))))) (blkOk_by (by rfl)) (fun _ _ _ _ _ => (dg_name (pg_name (i := 8) sc__law_is_right.nd rfl (by first | exact .inl rfl | exact .inr rfl)))) (fun _ _ _ _ _ => (dts_one (dt_cmp (op_neD hr.units) r_ne (do_val (de_var (pe_var (i := 8) rfl (by first | exact .inl rfl | exact .inr (.inl rfl) | exact .inr (.inr rfl))))) (do_val (de_var (pe_var (i := 19) rfl (by first | exact .inl rfl | exact .inr (.inl rfl) | exact .inr (.inr rfl))))) (nomark _)))) (fun _ _ _ _ _ => (de_var (pe_var (i := 8) rfl (by first | exact .inl rfl | exact .inr (.inl rfl) | exact .inr (.inr rfl))))) (by decide)))) da_nil)))))) (by decide)))) da_nil)))))) (fun _ _ _ _ _ => (de_var (pe_var (i := 12) rfl (by first | exact .inl rfl | exact .inr (.inl rfl) | exact .inr (.inr rfl))))) (by decide))
    (ds_cons (ds_own (i := 7) sc__law_is_right.nd rfl (by first | exact .inl rfl | exact .inr rfl) (dn_lst da_nil))
    (ds_cons (ds_for (passes_of rfl) rfl (di_range1 rfl t.n_range (da_cons (do_val (de_var (pe_var (i := 1) rfl (by first | exact .inl rfl | exact .inr (.inl rfl) | exact .inr (.inr rfl))))) da_nil)) (dg_name (pg_name (i := 8) sc__law_is_right.nd rfl (by first | exact .inl rfl | exact .inr rfl))) (ds_cons (ds_clr [8] (ds_setLc (own := [("lot", 12)]) (i := 9) rfl sc__law_is_right.nd rfl rfl rfl (di_seq rfl (do_val (de_var (pe_var (i := 5) rfl (by first | exact .inl rfl | exact .inr (.inl rfl) | exact .inr (.inr rfl)))))) (blkOk_by (sc := defScope s__law_is_right) (N := N__law_is_right) (by decide +kernel)) (fun _ _ _ _ _ => (dg_name (pg_name (i := 12) sc__law_is_right.nd rfl (by first | exact .inl rfl | exact .inr rfl)))) (fun _ _ _ _ _ => (dts_one (PW.pt (dw_and (dt_cmp (op_inA (hu65 hr)) r_in (do_val (de_var (pe_var (i := 8) rfl (by first | exact .inl rfl | exact .inr (.inl rfl) | exact .inr (.inr rfl))))) (do_val (de_var (pe_var (i := 12) rfl (by first | exact .inl rfl | exact .inr (.inl rfl) | exact .inr (.inr rfl))))) (by with_unfolding_all rfl)) (dw_1and (dt_not (dt_val (de_ofV (dv_call (ok__law_do_win t) (hr.mono (by decide)) rfl t.g__law_do_win t.F__law_do_win.kp (b__law_do_win t) passL (da_cons (do_val (de_var (pe_var (i := 2) rfl (by first | exact .inl rfl | exact .inr (.inl rfl) | exact .inr (.inr rfl))))) (da_cons (do_val (de_var (pe_var (i := 3) rfl (by first | exact .inl rfl | exact .inr (.inl rfl) | exact .inr (.inr rfl))))) (da_cons (do_val (de_frz (dn_lc (own := [("here", 20)]) rfl sc__law_is_right.nd (di_seq rfl (do_val (de_var (pe_var (i := 12) rfl (by first | exact .inl rfl | exact .inr (.inl rfl) | exact .inr (.inr rfl)))))) (blkOk_by (by rfl)) (fun _ _ _ _ _ => (dg_name (pg_name (i := 20) sc__law_is_right.nd rfl (by first | exact .inl rfl | exact .inr rfl)))) (fun _ _ _ _ _ => (dts_one (dt_cmp (op_neD hr.units) r_ne (do_val (de_var (pe_var (i := 20) rfl (by first | exact .inl rfl | exact .inr (.inl rfl) | exact .inr (.inr rfl))))) (do_val (de_var (pe_var (i := 8) rfl (by first | exact .inl rfl | exact .inr (.inl rfl) | exact .inr (.inr rfl))))) (nomark _)))) (fun _ _ _ _ _ => (de_var (pe_var (i := 20) rfl (by first | exact .inl rfl | exact .inr (.inl rfl) | exact .inr (.inr rfl))))) (by decide)))) da_nil)))))))))))) (fun _ _ _ _ _ => (de_var (pe_var (i := 12) rfl (by first | exact .inl rfl | exact .inr (.inl rfl) | exact .inr (.inr rfl))))) (by decide)))
    (ds_one (ds_clr [9] (ds_app (pe_var (i := 7) rfl (by first | exact .inl rfl | exact .inr (.inl rfl) | exact .inr (.inr rfl))) (de_callB (cr_lenA) r_len rfl t.n_len rfl (da_cons (do_val (de_var (pe_var (i := 9) rfl (by first | exact .inl rfl | exact .inr (.inl rfl) | exact .inr (.inr rfl))))) da_nil)))))))
    (ds_cons (ds_set (i := 10) sc__law_is_right.nd rfl (by first | exact .inl rfl | exact .inr rfl) (de_callB (cr_lenA) r_len rfl t.n_len rfl (da_cons (do_val (de_frz (dn_lc (own := [("lot", 12)]) rfl sc__law_is_right.nd (di_seq rfl (do_val (de_var (pe_var (i := 4) rfl (by first | exact .inl rfl | exact .inr (.inl rfl) | exact .inr (.inr rfl)))))) (blkOk_by (sc := defScope s__law_is_right) (N := N__law_is_right) (by decide +kernel)) (fun _ _ _ _ _ => (dg_name (pg_name (i := 12) sc__law_is_right.nd rfl (by first | exact .inl rfl | exact .inr rfl)))) (fun _ _ _ _ _ => (dts_one (dt_cmp (op_neD hr.units) r_ne (do_val (de_ofV (dv_call (ok__law_wins t) (hr.mono (by decide)) rfl t.g__law_wins t.F__law_wins.kp (b__law_wins t) passL (da_cons (do_val (de_var (pe_var (i := 2) rfl (by first | exact .inl rfl | exact .inr (.inl rfl) | exact .inr (.inr rfl))))) (da_cons (do_val (de_var (pe_var (i := 12) rfl (by first | exact .inl rfl | exact .inr (.inl rfl) | exact .inr (.inr rfl))))) da_nil))))) (do_val (de_ofV (dv_call (ok__law_wins t) (hr.mono (by decide)) rfl t.g__law_wins t.F__law_wins.kp (b__law_wins t) passL (da_cons (do_val (de_var (pe_var (i := 3) rfl (by first | exact .inl rfl | exact .inr (.inl rfl) | exact .inr (.inr rfl))))) (da_cons (do_val (de_var (pe_var (i := 12) rfl (by first | exact .inl rfl | exact .inr (.inl rfl) | exact .inr (.inr rfl))))) da_nil))))) (nomark _)))) (fun _ _ _ _ _ => (de_var (pe_var (i := 12) rfl (by first | exact .inl rfl | exact .inr (.inl rfl) | exact .inr (.inr rfl))))) (by decide)))) da_nil)))
    (ds_cons (ds_set (i := 11) sc__law_is_right.nd rfl (by first | exact .inl rfl | exact .inr rfl) (de_frz (dn_lst (da_cons (do_val (de_ofV (dv_call (ok_least_both t) (hr.mono (by decide)) rfl t.g_least_both t.F_least_both.kp (b_least_both t) (passes_call (takes_of rfl rfl rfl rfl) fun _ _ _ _ h => h) (da_cons (do_val (de_var (pe_var (i := 2) rfl (by first | exact .inl rfl | exact .inr (.inl rfl) | exact .inr (.inr rfl))))) (da_cons (do_val (de_var (pe_var (i := 3) rfl (by first | exact .inl rfl | exact .inr (.inl rfl) | exact .inr (.inr rfl))))) da_nil))))) (da_cons (do_val (de_ofV (dv_call (ok_both_swings t) (hr.mono (by decide)) rfl t.g_both_swings t.F_both_swings.kp (b_both_swings t) (passes_call (takes_of rfl rfl rfl rfl) fun _ _ _ _ h => h) (da_cons (do_val (de_var (pe_var (i := 2) rfl (by first | exact .inl rfl | exact .inr (.inl rfl) | exact .inr (.inr rfl))))) (da_cons (do_val (de_var (pe_var (i := 3) rfl (by first | exact .inl rfl | exact .inr (.inl rfl) | exact .inr (.inr rfl))))) da_nil))))) (da_cons (do_val (de_ofV (dv_call (ok_deadlocks t) (hr.mono (by decide)) rfl t.g_deadlocks t.F_deadlocks.kp (b_deadlocks t) (passes_call (takes_of rfl rfl rfl rfl) fun _ _ _ _ h => h) (da_cons (do_val (de_var (pe_var (i := 2) rfl (by first | exact .inl rfl | exact .inr (.inl rfl) | exact .inr (.inr rfl))))) (da_cons (do_val (de_var (pe_var (i := 3) rfl (by first | exact .inl rfl | exact .inr (.inl rfl) | exact .inr (.inr rfl))))) da_nil))))) da_nil))))))
    (ds_cons (ds_if (PW.pt (dw_or (dt_not (dt_val (de_ofV (dv_call (ok__law_same t 8) (hr.mono (by decide)) rfl t.g__law_same t.F__law_same.kp (b__law_same t) (passes_call (takes_of rfl rfl rfl rfl) fun _ _ _ _ h => h) (da_cons (do_val (de_var (pe_var (i := 11) rfl (by first | exact .inl rfl | exact .inr (.inl rfl) | exact .inr (.inr rfl))))) (da_cons (do_val (de_frz (dn_lst (da_cons (do_val (de_var (pe_var (i := 6) rfl (by first | exact .inl rfl | exact .inr (.inl rfl) | exact .inr (.inr rfl))))) (da_cons (do_val (de_callT (call_tuple_of) r_tuple rfl t.n_tuple rfl (da_cons (do_any (pe_var (i := 7) rfl (by first | exact .inl rfl | exact .inr (.inl rfl) | exact .inr (.inr rfl)))) da_nil))) (da_cons (do_val (de_var (pe_var (i := 10) rfl (by first | exact .inl rfl | exact .inr (.inl rfl) | exact .inr (.inr rfl))))) da_nil)))))) da_nil)))))) (dw_1or (dt_cmp (op_neD hr.units) r_ne (do_val (de_frz (dn_lst (da_cons (do_val (de_ofV (dv_call (ok_least_both t) (hr.mono (by decide)) rfl t.g_least_both t.F_least_both.kp (b_least_both t) (passes_call (takes_of rfl rfl rfl rfl) fun _ _ _ _ h => h) (da_cons (do_val (de_var (pe_var (i := 3) rfl (by first | exact .inl rfl | exact .inr (.inl rfl) | exact .inr (.inr rfl))))) (da_cons (do_val (de_var (pe_var (i := 2) rfl (by first | exact .inl rfl | exact .inr (.inl rfl) | exact .inr (.inr rfl))))) da_nil))))) (da_cons (do_val (de_ofV (dv_call (ok_both_swings t) (hr.mono (by decide)) rfl t.g_both_swings t.F_both_swings.kp (b_both_swings t) (passes_call (takes_of rfl rfl rfl rfl) fun _ _ _ _ h => h) (da_cons (do_val (de_var (pe_var (i := 3) rfl (by first | exact .inl rfl | exact .inr (.inl rfl) | exact .inr (.inr rfl))))) (da_cons (do_val (de_var (pe_var (i := 2) rfl (by first | exact .inl rfl | exact .inr (.inl rfl) | exact .inr (.inr rfl))))) da_nil))))) (da_cons (do_val (de_ofV (dv_call (ok_deadlocks t) (hr.mono (by decide)) rfl t.g_deadlocks t.F_deadlocks.kp (b_deadlocks t) (passes_call (takes_of rfl rfl rfl rfl) fun _ _ _ _ h => h) (da_cons (do_val (de_var (pe_var (i := 3) rfl (by first | exact .inl rfl | exact .inr (.inl rfl) | exact .inr (.inr rfl))))) (da_cons (do_val (de_var (pe_var (i := 2) rfl (by first | exact .inl rfl | exact .inr (.inl rfl) | exact .inr (.inr rfl))))) da_nil))))) da_nil)))))) (do_val (de_var (pe_var (i := 11) rfl (by first | exact .inl rfl | exact .inr (.inl rfl) | exact .inr (.inr rfl))))) (nomark _))))) (ds_one (ds_ret de_bl)) (dss_clr [6, 7, 10, 11] ds_nil))
    (ds_cons (ds_clr [4, 5] (ds_for (passes_of rfl) rfl (di_seq rfl (do_val (de_frz (dn_lc (own := [("pick", 21)]) rfl sc__law_is_right.nd (di_range1 rfl t.n_range (da_cons (do_val de_int) da_nil)) (blkOk_by (sc := defScope s__law_is_right) (N := N__law_is_right) (by decide +kernel)) (fun _ _ _ _ _ => (dg_name (pg_name (i := 21) sc__law_is_right.nd rfl (by first | exact .inl rfl | exact .inr rfl)))) (fun _ _ _ _ _ => dts_nil) (fun _ _ _ _ _ => (de_ofV (dv_call (ok__law_any t) (hr.mono (by decide)) rfl t.g__law_any t.F__law_any.kp (b__law_any t) passL (da_cons (do_var (pe_var (i := 0) rfl (by first | exact .inl rfl | exact .inr (.inl rfl) | exact .inr (.inr rfl)))) (da_cons (do_val (de_var (pe_var (i := 4) rfl (by first | exact .inl rfl | exact .inr (.inl rfl) | exact .inr (.inr rfl))))) da_nil))))) (by decide))))) (dg_name (pg_name (i := 12) sc__law_is_right.nd rfl (by first | exact .inl rfl | exact .inr rfl))) (ds_cons (ds_set (i := 13) sc__law_is_right.nd rfl (by first | exact .inl rfl | exact .inr rfl) (de_callT (call_tuple_of) r_tuple rfl t.n_tuple rfl (da_cons (do_val (de_frz (dn_lc (own := [("party", 8)]) rfl sc__law_is_right.nd (di_range1 rfl t.n_range (da_cons (do_val (de_var (pe_var (i := 1) rfl (by first | exact .inl rfl | exact .inr (.inl rfl) | exact .inr (.inr rfl))))) da_nil)) (blkOk_by (sc := defScope s__law_is_right) (N := N__law_is_right) (by decide +kernel)) (fun _ _ _ _ _ => (dg_name (pg_name (i := 8) sc__law_is_right.nd rfl (by first | exact .inl rfl | exact .inr rfl)))) (fun _ _ _ _ _ => (dts_one (dt_cmp (op_notInA (hu65 hr)) r_notIn (do_val (de_var (pe_var (i := 8) rfl (by first | exact .inl rfl | exact .inr (.inl rfl) | exact .inr (.inr rfl))))) (do_val (de_var (pe_var (i := 12) rfl (by first | exact .inl rfl | exact .inr (.inl rfl) | exact .inr (.inr rfl))))) (by with_unfolding_all rfl)))) (fun _ _ _ _ _ => (de_var (pe_var (i := 8) rfl (by first | exact .inl rfl | exact .inr (.inl rfl) | exact .inr (.inr rfl))))) (by decide)))) da_nil)))
    (ds_one (ds_if (PW.pt (dw_or (dt_not (dt_val (de_ofV (dv_call (ok__law_same t 8) (hr.mono (by decide)) rfl t.g__law_same t.F__law_same.kp (b__law_same t) (passes_call (takes_of rfl rfl rfl rfl) fun _ _ _ _ h => h) (da_cons (do_val (de_ofV (dv_call (ok_both_win t) (hr.mono (by decide)) rfl t.g_both_win t.F_both_win.kp (b_both_win t) (passes_call (takes_of rfl rfl rfl rfl) fun _ _ _ _ h => h) (da_cons (do_val (de_var (pe_var (i := 2) rfl (by first | exact .inl rfl | exact .inr (.inl rfl) | exact .inr (.inr rfl))))) (da_cons (do_val (de_var (pe_var (i := 3) rfl (by first | exact .inl rfl | exact .inr (.inl rfl) | exact .inr (.inr rfl))))) (da_cons (do_val (de_var (pe_var (i := 12) rfl (by first | exact .inl rfl | exact .inr (.inl rfl) | exact .inr (.inr rfl))))) da_nil)))))) (da_cons (do_val (de_cmp (op_inA (hu65 hr)) r_in (do_val (de_var (pe_var (i := 12) rfl (by first | exact .inl rfl | exact .inr (.inl rfl) | exact .inr (.inr rfl))))) (do_val (de_var (pe_var (i := 5) rfl (by first | exact .inl rfl | exact .inr (.inl rfl) | exact .inr (.inr rfl))))) (by with_unfolding_all rfl))) da_nil)))))) (dw_1or (PW.pt (dw_and (dt_val (de_ofV (dv_call (ok_both_win t) (hr.mono (by decide)) rfl t.g_both_win t.F_both_win.kp (b_both_win t) (passes_call (takes_of rfl rfl rfl rfl) fun _ _ _ _ h => h) (da_cons (do_val (de_var (pe_var (i := 2) rfl (by first | exact .inl rfl | exact .inr (.inl rfl) | exact .inr (.inr rfl))))) (da_cons (do_val (de_var (pe_var (i := 3) rfl (by first | exact .inl rfl | exact .inr (.inl rfl) | exact .inr (.inr rfl))))) (da_cons (do_val (de_var (pe_var (i := 12) rfl (by first | exact .inl rfl | exact .inr (.inl rfl) | exact .inr (.inr rfl))))) da_nil)))))) (dw_1and (dt_val (de_ofV (dv_call (ok_both_win t) (hr.mono (by decide)) rfl t.g_both_win t.F_both_win.kp (b_both_win t) (passes_call (takes_of rfl rfl rfl rfl) fun _ _ _ _ h => h) (da_cons (do_val (de_var (pe_var (i := 2) rfl (by first | exact .inl rfl | exact .inr (.inl rfl) | exact .inr (.inr rfl))))) (da_cons (do_val (de_var (pe_var (i := 3) rfl (by first | exact .inl rfl | exact .inr (.inl rfl) | exact .inr (.inr rfl))))) (da_cons (do_val (de_var (pe_var (i := 13) rfl (by first | exact .inl rfl | exact .inr (.inl rfl) | exact .inr (.inr rfl))))) da_nil)))))))))))) (ds_one (ds_ret de_bl)) (dss_clr [12, 13] ds_nil))))))
    (ds_cons (ds_asg (de_tup (da_cons (do_val (de_ofV (dv_call (ok__law_no_seats t) (hr.mono (by decide)) rfl t.g__law_no_seats t.F__law_no_seats.kp (b__law_no_seats t) (passes_call (takes_of rfl rfl rfl rfl) fun _ _ _ _ h => h) (da_cons (do_var (pe_var (i := 0) rfl (by first | exact .inl rfl | exact .inr (.inl rfl) | exact .inr (.inr rfl)))) da_nil)))) (da_cons (do_val (de_ofV (dv_call (ok__law_any t) (hr.mono (by decide)) rfl t.g__law_any t.F__law_any.kp (b__law_any t) (passes_call (takes_of rfl rfl rfl rfl) fun _ _ _ _ h => h) (da_cons (do_var (pe_var (i := 0) rfl (by first | exact .inl rfl | exact .inr (.inl rfl) | exact .inr (.inr rfl)))) (da_cons (do_val (de_frz (dn_lst (da_cons (do_val (de_ofV (dv_call (ok__law_no_seats t) (hr.mono (by decide)) rfl t.g__law_no_seats t.F__law_no_seats.kp (b__law_no_seats t) (passes_call (takes_of rfl rfl rfl rfl) fun _ _ _ _ h => h) (da_cons (do_var (pe_var (i := 0) rfl (by first | exact .inl rfl | exact .inr (.inl rfl) | exact .inr (.inr rfl)))) da_nil)))) (da_cons (do_val (de_op op_addA r_addA (do_val (de_var (pe_var (i := 2) rfl (by first | exact .inl rfl | exact .inr (.inl rfl) | exact .inr (.inr rfl))))) (do_val (de_tup (da_cons (do_val de_int) da_nil))))) da_nil))))) da_nil))))) da_nil))) (dg_tup rfl rfl (dgs_cons (dg_name (pg_name (i := 14) sc__law_is_right.nd rfl (by first | exact .inl rfl | exact .inr rfl))) (dgs_cons (dg_name (pg_name (i := 15) sc__law_is_right.nd rfl (by first | exact .inl rfl | exact .inr rfl))) dgs_nil))))
    (ds_cons (ds_clr [1] (ds_set (i := 16) sc__law_is_right.nd rfl (by first | exact .inl rfl | exact .inr rfl) (de_ofV (dv_call (ok__law_any t) (hr.mono (by decide)) rfl t.g__law_any t.F__law_any.kp (b__law_any t) (passes_call (takes_of rfl rfl rfl rfl) fun _ _ _ _ h => h) (da_cons (do_var (pe_var (i := 0) rfl (by first | exact .inl rfl | exact .inr (.inl rfl) | exact .inr (.inr rfl)))) (da_cons (do_val (de_frz (dn_lst (da_cons (do_val de_non) (da_cons (do_val (de_frz (dn_lst (da_cons (do_val de_int) da_nil)))) (da_cons (do_val (de_tup (da_cons (do_val (de_var (pe_var (i := 1) rfl (by first | exact .inl rfl | exact .inr (.inl rfl) | exact .inr (.inr rfl))))) da_nil))) (da_cons (do_val (de_tup (da_cons (do_val de_int) (da_cons (do_val de_int) da_nil)))) (da_cons (do_val de_dict0) (da_cons (do_val (de_tup (da_cons (do_val de_bl) da_nil))) (da_cons (do_val (de_tup (da_cons (do_val de_str) da_nil))) (da_cons (do_val (de_tup (da_cons (do_val (de_un un_neg r_neg (do_val de_int))) da_nil))) (da_cons (do_val de_int) (da_cons (do_val (de_ofV (dv_call (ok__law_deep t) (hr.mono (by decide)) rfl t.g__law_deep t.F__law_deep.kp (b__law_deep t) (passes_call (takes_of rfl rfl rfl rfl) fun _ _ _ _ h => h) (da_cons (do_var (pe_var (i := 0) rfl (by first | exact .inl rfl | exact .inr (.inl rfl) | exact .inr (.inr rfl)))) (da_cons (do_val de_int) da_nil))))) da_nil))))))))))))) da_nil))))))
    (ds_cons (ds_clr [3, 16] (ds_set (i := 17) sc__law_is_right.nd rfl (by first | exact .inl rfl | exact .inr rfl) (de_frz (dn_lst (da_cons (do_val (dl_said (k := 9) rfl t.g__law_word t.F__law_word (b__law_word t) sc__law_word rfl (by first | exact .inl rfl | exact .inr (.inl rfl) | exact .inr (.inr rfl)) (fun cdv => gives__law_word t _ rfl rfl cdv rfl hr) (tb (t.c__law_is_right, t.P__law_is_right) (List.Mem.head _)) rfl (List.Mem.head _) t.nd (hr.mono (by decide)) (lamS_by (sc := defScope s__law_is_right) (by decide +kernel)) rfl (fun _ _ _ _ _ => rfl) (fun A outer s H E f c hr => (de_ofV (dv_call (ok_both_win t) (hr.mono (by decide)) rfl t.g_both_win t.F_both_win.kp (b_both_win t) (passes_call (takes_of rfl rfl rfl rfl) fun _ _ _ _ h => h) (da_cons (do_val (de_var (pe_var (i := 14) rfl (by first | exact .inl rfl | exact .inr (.inl rfl) | exact .inr (.inr rfl))))) (da_cons (do_val (de_var (pe_var (i := 15) rfl (by first | exact .inl rfl | exact .inr (.inl rfl) | exact .inr (.inr rfl))))) (da_cons (do_val (de_var (pe_var (i := 16) rfl (by first | exact .inl rfl | exact .inr (.inl rfl) | exact .inr (.inr rfl))))) da_nil)))))))) (da_cons (do_val (dl_saidD (k := 9) rfl t.g__law_word t.F__law_word (b__law_word t) sc__law_word rfl (by first | exact .inl rfl | exact .inr (.inl rfl) | exact .inr (.inr rfl)) (fun cdv => gives__law_word t _ rfl rfl cdv rfl hr) (tb (t.c__law_is_right, t.P__law_is_right) (List.Mem.head _)) rfl (List.Mem.head _) t.nd (hr.mono (by decide)) (lamSD_by (sc := defScope s__law_is_right) (x := "of") (by decide +kernel)) (show ("of" : Str) ∉ N__law_is_right by decide) rfl rfl ⟨_, _, rfl⟩ (fun _ _ _ _ _ _ _ _ => ⟨_, rfl, rfl⟩) (fun A outer s H E f c hr => (de_ofV (dv_call (ok_both_win t) (hr.mono (by decide)) rfl t.g_both_win t.F_both_win.kp (b_both_win t) (passes_call (takes_of rfl rfl rfl rfl) fun _ _ _ _ h => h) (da_cons (do_val (de_var (pe_var (i := 2) rfl (by first | exact .inl rfl | exact .inr (.inl rfl) | exact .inr (.inr rfl))))) (da_cons (do_val (de_var (pe_var (i := 15) rfl (by first | exact .inl rfl | exact .inr (.inl rfl) | exact .inr (.inr rfl))))) (da_cons (do_val (de_var (pe_var (i := 16) rfl (by first | exact .inl rfl | exact .inr (.inl rfl) | exact .inr (.inr rfl))))) da_nil)))))))) (da_cons (do_val (dl_said (k := 9) rfl t.g__law_word t.F__law_word (b__law_word t) sc__law_word rfl (by first | exact .inl rfl | exact .inr (.inl rfl) | exact .inr (.inr rfl)) (fun cdv => gives__law_word t _ rfl rfl cdv rfl hr) (tb (t.c__law_is_right, t.P__law_is_right) (List.Mem.head _)) rfl (List.Mem.head _) t.nd (hr.mono (by decide)) (lamS_by (sc := defScope s__law_is_right) (by decide +kernel)) rfl (fun _ _ _ _ _ => rfl) (fun A outer s H E f c hr => (de_ofV (dv_call (ok_both_win t) (hr.mono (by decide)) rfl t.g_both_win t.F_both_win.kp (b_both_win t) (passes_call (takes_of rfl rfl rfl rfl) fun _ _ _ _ h => h) (da_cons (do_val (de_var (pe_var (i := 2) rfl (by first | exact .inl rfl | exact .inr (.inl rfl) | exact .inr (.inr rfl))))) (da_cons (do_val (de_var (pe_var (i := 3) rfl (by first | exact .inl rfl | exact .inr (.inl rfl) | exact .inr (.inr rfl))))) (da_cons (do_val (de_var (pe_var (i := 16) rfl (by first | exact .inl rfl | exact .inr (.inl rfl) | exact .inr (.inr rfl))))) da_nil)))))))) da_nil)))))))
    (ds_cons (ds_clr [14, 15] (ds_for (passes_of rfl) rfl (di_seq rfl (do_val (de_tup (da_cons (do_val (de_fnv rfl t.g_least_both t.w_least_both)) (da_cons (do_val (de_fnv rfl t.g_both_swings t.w_both_swings)) (da_cons (do_val (de_fnv rfl t.g_deadlocks t.w_deadlocks)) da_nil)))))) (dg_name (pg_name (i := 18) sc__law_is_right.nd rfl (by first | exact .inl rfl | exact .inr rfl))) (ds_one (ds_clr [18] (ds_set (i := 17) sc__law_is_right.nd rfl (by first | exact .inl rfl | exact .inr rfl) (de_op op_addA r_addA (do_val (de_var (pe_var (i := 17) rfl (by first | exact .inl rfl | exact .inr (.inl rfl) | exact .inr (.inr rfl))))) (do_val (de_frz (dn_lst (da_cons (do_val (dl_said (k := 9) rfl t.g__law_word t.F__law_word (b__law_word t) sc__law_word rfl (by first | exact .inl rfl | exact .inr (.inl rfl) | exact .inr (.inr rfl)) (fun cdv => gives__law_word t _ rfl rfl cdv rfl hr) (tb (t.c__law_is_right, t.P__law_is_right) (List.Mem.head _)) rfl (List.Mem.head _) t.nd (hr.mono (by decide)) (lamS_by (sc := defScope s__law_is_right) (by decide +kernel)) rfl (fun _ _ _ _ _ => rfl) (fun A outer s H E f c hr => (de_ofV (dv_callV (i := 18) (.cons (cand (ok_least_both t) (hr.mono (by decide)) t.w_least_both t.F_least_both.kp (b_least_both t)) (.cons (cand (ok_both_swings t) (hr.mono (by decide)) t.w_both_swings t.F_both_swings.kp (b_both_swings t)) (.cons (cand (ok_deadlocks t) (hr.mono (by decide)) t.w_deadlocks t.F_deadlocks.kp (b_deadlocks t)) .nil))) rfl (by first | exact .inl rfl | exact .inr (.inl rfl) | exact .inr (.inr rfl)) (passes_call (takes_of rfl rfl rfl rfl) fun _ _ _ _ h => h) (da_cons (do_val (de_var (pe_var (i := 14) rfl (by first | exact .inl rfl | exact .inr (.inl rfl) | exact .inr (.inr rfl))))) (da_cons (do_val (de_var (pe_var (i := 15) rfl (by first | exact .inl rfl | exact .inr (.inl rfl) | exact .inr (.inr rfl))))) da_nil))))))) (da_cons (do_val (dl_saidD (k := 9) rfl t.g__law_word t.F__law_word (b__law_word t) sc__law_word rfl (by first | exact .inl rfl | exact .inr (.inl rfl) | exact .inr (.inr rfl)) (fun cdv => gives__law_word t _ rfl rfl cdv rfl hr) (tb (t.c__law_is_right, t.P__law_is_right) (List.Mem.head _)) rfl (List.Mem.head _) t.nd (hr.mono (by decide)) (lamSD_by (sc := defScope s__law_is_right) (x := "of") (by decide +kernel)) (show ("of" : Str) ∉ N__law_is_right by decide) rfl rfl ⟨_, _, rfl⟩ (fun _ _ _ _ _ _ _ _ => ⟨_, rfl, rfl⟩) (fun A outer s H E f c hr => (de_ofV (dv_callV (i := 18) (.cons (cand (ok_least_both t) (hr.mono (by decide)) t.w_least_both t.F_least_both.kp (b_least_both t)) (.cons (cand (ok_both_swings t) (hr.mono (by decide)) t.w_both_swings t.F_both_swings.kp (b_both_swings t)) (.cons (cand (ok_deadlocks t) (hr.mono (by decide)) t.w_deadlocks t.F_deadlocks.kp (b_deadlocks t)) .nil))) rfl (by first | exact .inl rfl | exact .inr (.inl rfl) | exact .inr (.inr rfl)) (passes_call (takes_of rfl rfl rfl rfl) fun _ _ _ _ h => h) (da_cons (do_val (de_var (pe_var (i := 2) rfl (by first | exact .inl rfl | exact .inr (.inl rfl) | exact .inr (.inr rfl))))) (da_cons (do_val (de_var (pe_var (i := 15) rfl (by first | exact .inl rfl | exact .inr (.inl rfl) | exact .inr (.inr rfl))))) da_nil))))))) da_nil)))))))))))
    (ds_one (ds_ret (de_and (de_cmp (op_eqD hr.units) r_eq (do_val (de_var (pe_var (i := 17) rfl (by first | exact .inl rfl | exact .inr (.inl rfl) | exact .inr (.inr rfl))))) (do_val (de_op op_addA r_addA (do_val (de_frz (dn_lst (da_cons (do_val de_str) (da_cons (do_val de_str) (da_cons (do_val de_str) da_nil)))))) (do_val (de_op op_mulB r_mulB (do_val (de_frz (dn_lst (da_cons (do_val de_str) da_nil)))) (do_val de_int))))) (nomark _)) (de_one (de_cmp (op_eqD hr.units) r_eq (do_val (de_ofV (dv_call (ok_deadlocks t) (hr.mono (by decide)) rfl t.g_deadlocks t.F_deadlocks.kp (b_deadlocks t) (passes_call (takes_of rfl rfl rfl rfl) fun _ _ _ _ h => h) (da_cons (do_val (de_var (pe_var (i := 2) rfl (by first | exact .inl rfl | exact .inr (.inl rfl) | exact .inr (.inr rfl))))) (da_cons (do_val (de_var (pe_var (i := 2) rfl (by first | exact .inl rfl | exact .inr (.inl rfl) | exact .inr (.inr rfl))))) da_nil))))) (do_val de_int) (nomark _))))))))))))))))))))) (by decide)
theorem z__law_is_right_1 (h_hand : List PyData) (a_many : PyData) (u6 : (PyData × PyData) × List PyData) (u10 : PyData) (x11 : PyData) : LcS (tgN 12) (dB (rvE (dCall 3 F__law_do_win (aCons (oVal (dVar 2)) (aCons (oVal (dVar 3)) (aCons (oVal (dVar 12)) aNil)))))) (dVar 12) [12] [.own true u6.2, .dat a_many, .dat u6.1.1, .dat u6.1.2, .dat u10, .no, .no, .no, .no, .no, .no, .no, .no, .no, .no, .no, .no, .no, .no, .no, .no, .no] x11 (((P__law_do_win u6.1.1 u6.1.2 x11 >>= fun v15 => asB v15) >>= fun b16 => if b16 = true then .ok (some x11) else .ok none)) := by
  have h : LcS (tgN 12) (dB (rvE (dCall 3 F__law_do_win (aCons (oVal (dVar 2)) (aCons (oVal (dVar 3)) (aCons (oVal (dVar 12)) aNil)))))) (dVar 12) [12] [.own true u6.2, .dat a_many, .dat u6.1.1, .dat u6.1.2, .dat u10, .no, .no, .no, .no, .no, .no, .no, .no, .no, .no, .no, .no, .no, .no, .no, .no, .no] x11 _ :=
    xlc_step (eg_n rfl) (fun p12 => (xv_dB (xv_rvE (er_call (cl3 (f := F__law_do_win) (P := P__law_do_win) (rv := .dat) t__law_do_win) (ew_val (xv_var rfl) (ew_val (xv_var rfl) (ew_val (xv_var rfl) ew_nil))))))) (fun p12 => (xv_var rfl)) (fun _ => rfl)
  exact h
theorem z__law_is_right_2 (h_hand : List PyData) (a_many : PyData) (u6 : (PyData × PyData) × List PyData) (u10 : PyData) (u19 : PyData) (p21 : PyData) (p39 : PyData) (x48 : PyData) : LcS (tgN 8) (dB (d2 pNe (oVal (dVar 8)) (oVal (dVar 19)))) (dVar 8) [8] [.own true u6.2, .dat a_many, .dat u6.1.1, .dat u6.1.2, .dat u10, .dat u19, .no, .no, .no, .no, .no, .no, .dat p21, .no, .no, .no, .no, .no, .no, .dat p39, .no, .no] x48 (((pNe x48 p39 >>= fun v52 => asB v52) >>= fun b53 => if b53 = true then .ok (some x48) else .ok none)) := by
  have h : LcS (tgN 8) (dB (d2 pNe (oVal (dVar 8)) (oVal (dVar 19)))) (dVar 8) [8] [.own true u6.2, .dat a_many, .dat u6.1.1, .dat u6.1.2, .dat u10, .dat u19, .no, .no, .no, .no, .no, .no, .dat p21, .no, .no, .no, .no, .no, .no, .dat p39, .no, .no] x48 _ :=
    xlc_step (eg_n rfl) (fun p49 => (xv_dB (xv_d2 nx_pNe (xo_val (xv_var rfl)) (xo_val (xv_var rfl)) rs_val rs_val))) (fun p49 => (xv_var rfl)) (fun _ => rfl)
  exact h
theorem z__law_is_right_3 (h_hand : List PyData) (a_many : PyData) (u6 : (PyData × PyData) × List PyData) (u10 : PyData) (u19 : PyData) (p21 : PyData) (x38 : PyData) : LcS (tgN 19) dYes (rvE (dCall 3 F__law_do_win (aCons (oVal (dVar 2)) (aCons (oVal (dVar 3)) (aCons (oVal (dFrz (dLc (itA seq1 (it1 (oVal (dVar 12)))) ([8] : List Nat) (tgN 8) (dB (d2 pNe (oVal (dVar 8)) (oVal (dVar 19)))) (dVar 8)))) aNil))))) [19] [.own true u6.2, .dat a_many, .dat u6.1.1, .dat u6.1.2, .dat u10, .dat u19, .no, .no, .no, .no, .no, .no, .dat p21, .no, .no, .no, .no, .no, .no, .no, .no, .no] x38 (((((seqOf p21 >>= fun v54 => lcR (fun x48 => ((pNe x48 x38 >>= fun v50 => asB v50) >>= fun b51 => if b51 = true then .ok (some x48) else .ok none)) v54) >>= fun v55 => .ok (PyData.list v55)) >>= fun v56 => P__law_do_win u6.1.1 u6.1.2 v56) >>= fun v57 => .ok (some v57))) := by
  have h : LcS (tgN 19) dYes (rvE (dCall 3 F__law_do_win (aCons (oVal (dVar 2)) (aCons (oVal (dVar 3)) (aCons (oVal (dFrz (dLc (itA seq1 (it1 (oVal (dVar 12)))) ([8] : List Nat) (tgN 8) (dB (d2 pNe (oVal (dVar 8)) (oVal (dVar 19)))) (dVar 8)))) aNil))))) [19] [.own true u6.2, .dat a_many, .dat u6.1.1, .dat u6.1.2, .dat u10, .dat u19, .no, .no, .no, .no, .no, .no, .dat p21, .no, .no, .no, .no, .no, .no, .no, .no, .no] x38 _ :=
    xlc_step1 (eg_n rfl) (fun p39 => (xv_rvE (er_call (cl3 (f := F__law_do_win) (P := P__law_do_win) (rv := .dat) t__law_do_win) (ew_val (xv_var rfl) (ew_val (xv_var rfl) (ew_val (xv_dFrz (xv_dLc (w := [.own true u6.2, .dat a_many, .dat u6.1.1, .dat u6.1.2, .dat u10, .dat u19, .no, .no, .no, .no, .no, .no, .dat p21, .no, .no, .no, .no, .no, .no, .dat p39, .no, .no]) (e2 := [.own true u6.2, .dat a_many, .dat u6.1.1, .dat u6.1.2, .dat u10, .dat u19, .no, .no, .no, .no, .no, .no, .dat p21, .no, .no, .no, .no, .no, .no, .dat p39, .no, .no]) _ (ei_seq (xa_val (xv_var rfl) xa_nil) (fun _ => rfl)) rfl rfl rfl rfl (z__law_is_right_2 h_hand a_many u6 u10 u19 p21 p39))) ew_nil)))))) (fun _ => rfl)
  exact h
theorem z__law_is_right_4 (h_hand : List PyData) (a_many : PyData) (u6 : (PyData × PyData) × List PyData) (u10 : PyData) (u19 : PyData) (x20 : PyData) : LcS (tgN 12) (dNot (dB (dA pAny (aCons (oVal (dFrz (dLc (itA seq1 (it1 (oVal (dVar 12)))) ([19] : List Nat) (tgN 19) dYes (rvE (dCall 3 F__law_do_win (aCons (oVal (dVar 2)) (aCons (oVal (dVar 3)) (aCons (oVal (dFrz (dLc (itA seq1 (it1 (oVal (dVar 12)))) ([8] : List Nat) (tgN 8) (dB (d2 pNe (oVal (dVar 8)) (oVal (dVar 19)))) (dVar 8)))) aNil)))))))) aNil)))) (dVar 12) [12] [.own true u6.2, .dat a_many, .dat u6.1.1, .dat u6.1.2, .dat u10, .dat u19, .no, .no, .no, .no, .no, .no, .no, .no, .no, .no, .no, .no, .no, .no, .no, .no] x20 (((((((seqOf x20 >>= fun v58 => lcR (fun x38 => ((((seqOf x20 >>= fun v44 => lcR (fun x40 => ((pNe x40 x38 >>= fun v42 => asB v42) >>= fun b43 => if b43 = true then .ok (some x40) else .ok none)) v44) >>= fun v45 => .ok (PyData.list v45)) >>= fun v46 => P__law_do_win u6.1.1 u6.1.2 v46) >>= fun v47 => .ok (some v47))) v58) >>= fun v59 => .ok (PyData.list v59)) >>= fun v60 => pAny [v60]) >>= fun v61 => asB v61) >>= fun b62 => .ok (!b62)) >>= fun b63 => if b63 = true then .ok (some x20) else .ok none)) := by
  have h : LcS (tgN 12) (dNot (dB (dA pAny (aCons (oVal (dFrz (dLc (itA seq1 (it1 (oVal (dVar 12)))) ([19] : List Nat) (tgN 19) dYes (rvE (dCall 3 F__law_do_win (aCons (oVal (dVar 2)) (aCons (oVal (dVar 3)) (aCons (oVal (dFrz (dLc (itA seq1 (it1 (oVal (dVar 12)))) ([8] : List Nat) (tgN 8) (dB (d2 pNe (oVal (dVar 8)) (oVal (dVar 19)))) (dVar 8)))) aNil)))))))) aNil)))) (dVar 12) [12] [.own true u6.2, .dat a_many, .dat u6.1.1, .dat u6.1.2, .dat u10, .dat u19, .no, .no, .no, .no, .no, .no, .no, .no, .no, .no, .no, .no, .no, .no, .no, .no] x20 _ :=
    xlc_step (eg_n rfl) (fun p21 => (xv_dNot (xv_dB (xv_dA nx_pAny (xa_val (xv_dFrz (xv_dLc (w := [.own true u6.2, .dat a_many, .dat u6.1.1, .dat u6.1.2, .dat u10, .dat u19, .no, .no, .no, .no, .no, .no, .dat p21, .no, .no, .no, .no, .no, .no, .no, .no, .no]) (e2 := [.own true u6.2, .dat a_many, .dat u6.1.1, .dat u6.1.2, .dat u10, .dat u19, .no, .no, .no, .no, .no, .no, .dat p21, .no, .no, .no, .no, .no, .no, .no, .no, .no]) _ (ei_seq (xa_val (xv_var rfl) xa_nil) (fun _ => rfl)) rfl rfl rfl rfl (z__law_is_right_3 h_hand a_many u6 u10 u19 p21))) xa_nil))))) (fun p21 => (xv_var rfl)) (fun _ => rfl)
  exact h
theorem z__law_is_right_5 (h_hand : List PyData) (a_many : PyData) (u6 : (PyData × PyData) × List PyData) (u10 : PyData) (u19 : PyData) (u66 : PyData) (u67 : List PyData) (s69 : List PyData) (p70 : PyData) (p91 : PyData) (x105 : PyData) : LcS (tgN 20) (dB (d2 pNe (oVal (dVar 20)) (oVal (dVar 8)))) (dVar 20) [20] [.own true u6.2, .dat a_many, .dat u6.1.1, .dat u6.1.2, .dat u10, .dat u19, .dat u66, .own false s69, .dat p70, .no, .no, .no, .dat p91, .no, .no, .no, .no, .no, .no, .no, .no, .no] x105 (((pNe x105 p70 >>= fun v109 => asB v109) >>= fun b110 => if b110 = true then .ok (some x105) else .ok none)) := by
  have h : LcS (tgN 20) (dB (d2 pNe (oVal (dVar 20)) (oVal (dVar 8)))) (dVar 20) [20] [.own true u6.2, .dat a_many, .dat u6.1.1, .dat u6.1.2, .dat u10, .dat u19, .dat u66, .own false s69, .dat p70, .no, .no, .no, .dat p91, .no, .no, .no, .no, .no, .no, .no, .no, .no] x105 _ :=
    xlc_step (eg_n rfl) (fun p106 => (xv_dB (xv_d2 nx_pNe (xo_val (xv_var rfl)) (xo_val (xv_var rfl)) rs_val rs_val))) (fun p106 => (xv_var rfl)) (fun _ => rfl)
  exact h
theorem z__law_is_right_6 (h_hand : List PyData) (a_many : PyData) (u6 : (PyData × PyData) × List PyData) (u10 : PyData) (u19 : PyData) (u66 : PyData) (u67 : List PyData) (s69 : List PyData) (p70 : PyData) (x90 : PyData) : LcS (tgN 12) (dAnd (dB (d2 pIn (oVal (dVar 8)) (oVal (dVar 12)))) (dNot (dB (rvE (dCall 3 F__law_do_win (aCons (oVal (dVar 2)) (aCons (oVal (dVar 3)) (aCons (oVal (dFrz (dLc (itA seq1 (it1 (oVal (dVar 12)))) ([20] : List Nat) (tgN 20) (dB (d2 pNe (oVal (dVar 20)) (oVal (dVar 8)))) (dVar 20)))) aNil)))))))) (dVar 12) [12] [.own true u6.2, .dat a_many, .dat u6.1.1, .dat u6.1.2, .dat u10, .dat u19, .dat u66, .own false s69, .dat p70, .no, .no, .no, .no, .no, .no, .no, .no, .no, .no, .no, .no, .no] x90 ((((pIn p70 x90 >>= fun v104 => asB v104) >>= fun b116 => if b116 = true then (((((seqOf x90 >>= fun v111 => lcR (fun x105 => ((pNe x105 p70 >>= fun v107 => asB v107) >>= fun b108 => if b108 = true then .ok (some x105) else .ok none)) v111) >>= fun v112 => .ok (PyData.list v112)) >>= fun v113 => P__law_do_win u6.1.1 u6.1.2 v113) >>= fun v114 => asB v114) >>= fun b115 => .ok (!b115)) else .ok false) >>= fun b117 => if b117 = true then .ok (some x90) else .ok none)) := by
  have h : LcS (tgN 12) (dAnd (dB (d2 pIn (oVal (dVar 8)) (oVal (dVar 12)))) (dNot (dB (rvE (dCall 3 F__law_do_win (aCons (oVal (dVar 2)) (aCons (oVal (dVar 3)) (aCons (oVal (dFrz (dLc (itA seq1 (it1 (oVal (dVar 12)))) ([20] : List Nat) (tgN 20) (dB (d2 pNe (oVal (dVar 20)) (oVal (dVar 8)))) (dVar 20)))) aNil)))))))) (dVar 12) [12] [.own true u6.2, .dat a_many, .dat u6.1.1, .dat u6.1.2, .dat u10, .dat u19, .dat u66, .own false s69, .dat p70, .no, .no, .no, .no, .no, .no, .no, .no, .no, .no, .no, .no, .no] x90 _ :=
    xlc_step (eg_n rfl) (fun p91 => (xv_dAnd (xv_dB (xv_d2 nx_pIn (xo_val (xv_var rfl)) (xo_val (xv_var rfl)) rs_val rs_val)) (xv_dNot (xv_dB (xv_rvE (er_call (cl3 (f := F__law_do_win) (P := P__law_do_win) (rv := .dat) t__law_do_win) (ew_val (xv_var rfl) (ew_val (xv_var rfl) (ew_val (xv_dFrz (xv_dLc (w := [.own true u6.2, .dat a_many, .dat u6.1.1, .dat u6.1.2, .dat u10, .dat u19, .dat u66, .own false s69, .dat p70, .no, .no, .no, .dat p91, .no, .no, .no, .no, .no, .no, .no, .no, .no]) (e2 := [.own true u6.2, .dat a_many, .dat u6.1.1, .dat u6.1.2, .dat u10, .dat u19, .dat u66, .own false s69, .dat p70, .no, .no, .no, .dat p91, .no, .no, .no, .no, .no, .no, .no, .no, .no]) _ (ei_seq (xa_val (xv_var rfl) xa_nil) (fun _ => rfl)) rfl rfl rfl rfl (z__law_is_right_5 h_hand a_many u6 u10 u19 u66 u67 s69 p70 p91))) ew_nil))))))))) (fun p91 => (xv_var rfl)) (fun _ => rfl)
  exact h
theorem z__law_is_right_7 (h_hand : List PyData) (a_many : PyData) (u6 : (PyData × PyData) × List PyData) (u10 : PyData) (u19 : PyData) (u66 : PyData) (u67 : List PyData) (s69 : List PyData) (p70 : PyData) : Js (sSeq (sClr [8] (sAsg (dFrz (dLc (itA seq1 (it1 (oVal (dVar 5)))) ([12] : List Nat) (tgN 12) (dAnd (dB (d2 pIn (oVal (dVar 8)) (oVal (dVar 12)))) (dNot (dB (rvE (dCall 3 F__law_do_win (aCons (oVal (dVar 2)) (aCons (oVal (dVar 3)) (aCons (oVal (dFrz (dLc (itA seq1 (it1 (oVal (dVar 12)))) ([20] : List Nat) (tgN 20) (dB (d2 pNe (oVal (dVar 20)) (oVal (dVar 8)))) (dVar 20)))) aNil)))))))) (dVar 12))) (tgN 9)))
  (sClr [9] (sAppend 7 (dA pLen (aCons (oVal (dVar 9)) aNil))))) [.own true u6.2, .dat a_many, .dat u6.1.1, .dat u6.1.2, .dat u10, .dat u19, .dat u66, .own false s69, .dat p70, .no, .no, .no, .no, .no, .no, .no, .no, .no, .no, .no, .no, .no] ((((seqOf u19 >>= fun v118 => lcR (fun x90 => (((pIn p70 x90 >>= fun v92 => asB v92) >>= fun b102 => if b102 = true then (((((seqOf x90 >>= fun v97 => lcR (fun x93 => ((pNe x93 p70 >>= fun v95 => asB v95) >>= fun b96 => if b96 = true then .ok (some x93) else .ok none)) v97) >>= fun v98 => .ok (PyData.list v98)) >>= fun v99 => P__law_do_win u6.1.1 u6.1.2 v99) >>= fun v100 => asB v100) >>= fun b101 => .ok (!b101)) else .ok false) >>= fun b103 => if b103 = true then .ok (some x90) else .ok none)) v118) >>= fun v119 => .ok (PyData.list v119)) >>= fun u120 =>
    (pLen [u120] >>= fun v121 => appP s69 v121))) (fun (s69 : List PyData) => .next [.own true u6.2, .dat a_many, .dat u6.1.1, .dat u6.1.2, .dat u10, .dat u19, .dat u66, .own false s69, .no, .no, .no, .no, .no, .no, .no, .no, .no, .no, .no, .no, .no, .no]) := by
  have h : Js (sSeq (sClr [8] (sAsg (dFrz (dLc (itA seq1 (it1 (oVal (dVar 5)))) ([12] : List Nat) (tgN 12) (dAnd (dB (d2 pIn (oVal (dVar 8)) (oVal (dVar 12)))) (dNot (dB (rvE (dCall 3 F__law_do_win (aCons (oVal (dVar 2)) (aCons (oVal (dVar 3)) (aCons (oVal (dFrz (dLc (itA seq1 (it1 (oVal (dVar 12)))) ([20] : List Nat) (tgN 20) (dB (d2 pNe (oVal (dVar 20)) (oVal (dVar 8)))) (dVar 20)))) aNil)))))))) (dVar 12))) (tgN 9)))
  (sClr [9] (sAppend 7 (dA pLen (aCons (oVal (dVar 9)) aNil))))) [.own true u6.2, .dat a_many, .dat u6.1.1, .dat u6.1.2, .dat u10, .dat u19, .dat u66, .own false s69, .dat p70, .no, .no, .no, .no, .no, .no, .no, .no, .no, .no, .no, .no, .no] _ (fun (s69 : List PyData) => .next [.own true u6.2, .dat a_many, .dat u6.1.1, .dat u6.1.2, .dat u10, .dat u19, .dat u66, .own false s69, .no, .no, .no, .no, .no, .no, .no, .no, .no, .no, .no, .no, .no, .no]) :=
    (js_seq (E := fun (u120 : PyData) => [.own true u6.2, .dat a_many, .dat u6.1.1, .dat u6.1.2, .dat u10, .dat u19, .dat u66, .own false s69, .no, .dat u120, .no, .no, .no, .no, .no, .no, .no, .no, .no, .no, .no, .no]) (js_same (js_clr (jl_asg (xv_dFrz (xv_dLc (w := [.own true u6.2, .dat a_many, .dat u6.1.1, .dat u6.1.2, .dat u10, .dat u19, .dat u66, .own false s69, .dat p70, .no, .no, .no, .no, .no, .no, .no, .no, .no, .no, .no, .no, .no]) (e2 := [.own true u6.2, .dat a_many, .dat u6.1.1, .dat u6.1.2, .dat u10, .dat u19, .dat u66, .own false s69, .dat p70, .no, .no, .no, .no, .no, .no, .no, .no, .no, .no, .no, .no, .no]) _ (ei_seq (xa_val (xv_var rfl) xa_nil) (fun _ => rfl)) rfl rfl rfl rfl (z__law_is_right_6 h_hand a_many u6 u10 u19 u66 u67 s69 p70))) rfl)) (fun _ => rfl)) fun u120 =>
    (js_same (js_clr (jl_app (xv_dA nx_pLen (xa_val (xv_var rfl) xa_nil)) rfl rfl)) (fun _ => rfl)))
  exact h
theorem z__law_is_right_8 (h_hand : List PyData) (a_many : PyData) (u6 : (PyData × PyData) × List PyData) (u10 : PyData) (u19 : PyData) (u66 : PyData) (u67 : List PyData) (u124 : List PyData) (x125 : PyData) : LcS (tgN 12) (dB (d2 pNe (oVal (rvE (dCall 2 F__law_wins (aCons (oVal (dVar 2)) (aCons (oVal (dVar 12)) aNil))))) (oVal (rvE (dCall 2 F__law_wins (aCons (oVal (dVar 3)) (aCons (oVal (dVar 12)) aNil))))))) (dVar 12) [12] [.own true u6.2, .dat a_many, .dat u6.1.1, .dat u6.1.2, .dat u10, .dat u19, .dat u66, .own false u124, .no, .no, .no, .no, .no, .no, .no, .no, .no, .no, .no, .no, .no, .no] x125 ((((P__law_wins u6.1.1 x125 >>= fun v131 => (P__law_wins u6.1.2 x125 >>= fun v132 => pNe v131 v132)) >>= fun v133 => asB v133) >>= fun b134 => if b134 = true then .ok (some x125) else .ok none)) := by
  have h : LcS (tgN 12) (dB (d2 pNe (oVal (rvE (dCall 2 F__law_wins (aCons (oVal (dVar 2)) (aCons (oVal (dVar 12)) aNil))))) (oVal (rvE (dCall 2 F__law_wins (aCons (oVal (dVar 3)) (aCons (oVal (dVar 12)) aNil))))))) (dVar 12) [12] [.own true u6.2, .dat a_many, .dat u6.1.1, .dat u6.1.2, .dat u10, .dat u19, .dat u66, .own false u124, .no, .no, .no, .no, .no, .no, .no, .no, .no, .no, .no, .no, .no, .no] x125 _ :=
    xlc_step (eg_n rfl) (fun p126 => (xv_dB (xv_d2 nx_pNe (xo_val (xv_rvE (er_call (cl2 (f := F__law_wins) (P := P__law_wins) (rv := .dat) t__law_wins) (ew_val (xv_var rfl) (ew_val (xv_var rfl) ew_nil))))) (xo_val (xv_rvE (er_call (cl2 (f := F__law_wins) (P := P__law_wins) (rv := .dat) t__law_wins) (ew_val (xv_var rfl) (ew_val (xv_var rfl) ew_nil))))) rs_val rs_val))) (fun p126 => (xv_var rfl)) (fun _ => rfl)
  exact h
theorem z__law_is_right_9 (h_hand : List PyData) (a_many : PyData) (u6 : (PyData × PyData) × List PyData) (u10 : PyData) (u19 : PyData) (u66 : PyData) (u67 : List PyData) (u124 : List PyData) (u138 : PyData) (u143 : PyData) (x159 : PyData) (s161 : List PyData) : LcT (tgN 21) dYes (rvE (dCall 2 F__law_any (aCons (oVar 0) (aCons (oVal (dVar 4)) aNil)))) [21] (fun (s_ : List PyData) => [.own true s_, .dat a_many, .dat u6.1.1, .dat u6.1.2, .dat u10, .dat u19, .no, .no, .no, .no, .no, .no, .no, .no, .no, .no, .no, .no, .no, .no, .no, .no]) x159 s161 ((P__law_any s161 u10 >>= fun p163 => .ok ((some p163.1), p163.2))) := by
  have h : LcT (tgN 21) dYes (rvE (dCall 2 F__law_any (aCons (oVar 0) (aCons (oVal (dVar 4)) aNil)))) [21] (fun (s_ : List PyData) => [.own true s_, .dat a_many, .dat u6.1.1, .dat u6.1.2, .dat u10, .dat u19, .no, .no, .no, .no, .no, .no, .no, .no, .no, .no, .no, .no, .no, .no, .no, .no]) x159 s161 _ :=
    lcs_step1 (E' := fun p160 s_ => [.own true s_, .dat a_many, .dat u6.1.1, .dat u6.1.2, .dat u10, .dat u19, .no, .no, .no, .no, .no, .no, .no, .no, .no, .no, .no, .no, .no, .no, .no, .dat p160]) (eg_n rfl) (fun p160 => (es_rvE (ers_callH1 (clh1 (f := F__law_any) (P := P__law_any) (rv := .dat) t__law_any) (fun _ => rfl) (fun _ _ => rfl) (ews_st (es_ev fun s_ => (xv_var rfl)) ews_nil)))) (fun _ _ => rfl)
  exact h
theorem z__law_is_right_10 (h_hand : List PyData) (a_many : PyData) (u6 : (PyData × PyData) × List PyData) (u10 : PyData) (u19 : PyData) (u66 : PyData) (u67 : List PyData) (u124 : List PyData) (u138 : PyData) (u143 : PyData) (s169 : List PyData) (p170 : PyData) (x189 : PyData) : LcS (tgN 8) (dB (d2 pNotIn (oVal (dVar 8)) (oVal (dVar 12)))) (dVar 8) [8] [.own true s169, .dat a_many, .dat u6.1.1, .dat u6.1.2, .dat u10, .dat u19, .no, .no, .no, .no, .no, .no, .dat p170, .no, .no, .no, .no, .no, .no, .no, .no, .no] x189 (((pNotIn x189 p170 >>= fun v193 => asB v193) >>= fun b194 => if b194 = true then .ok (some x189) else .ok none)) := by
  have h : LcS (tgN 8) (dB (d2 pNotIn (oVal (dVar 8)) (oVal (dVar 12)))) (dVar 8) [8] [.own true s169, .dat a_many, .dat u6.1.1, .dat u6.1.2, .dat u10, .dat u19, .no, .no, .no, .no, .no, .no, .dat p170, .no, .no, .no, .no, .no, .no, .no, .no, .no] x189 _ :=
    xlc_step (eg_n rfl) (fun p190 => (xv_dB (xv_d2 nx_pNotIn (xo_val (xv_var rfl)) (xo_val (xv_var rfl)) rs_val rs_val))) (fun p190 => (xv_var rfl)) (fun _ => rfl)
  exact h
theorem z__law_is_right_11 (h_hand : List PyData) (a_many : PyData) (u6 : (PyData × PyData) × List PyData) (u10 : PyData) (u19 : PyData) (u66 : PyData) (u67 : List PyData) (u124 : List PyData) (u138 : PyData) (u143 : PyData) (s169 : List PyData) (p170 : PyData) : Js (sSeq (sAsg (dA pTuple (aCons (oVal (dFrz (dLc (itA rng1 (aCons (oVal (dVar 1)) aNil)) ([8] : List Nat) (tgN 8) (dB (d2 pNotIn (oVal (dVar 8)) (oVal (dVar 12)))) (dVar 8)))) aNil)) (tgN 13))
  (sIf (dOr (dNot (dB (rvE (dCall 2 (F__law_same 8) (aCons (oVal (rvE (dCall 3 F_both_win (aCons (oVal (dVar 2)) (aCons (oVal (dVar 3)) (aCons (oVal (dVar 12)) aNil)))))) (aCons (oVal (d2 pIn (oVal (dVar 12)) (oVal (dVar 5)))) aNil)))))) (dAnd (dB (rvE (dCall 3 F_both_win (aCons (oVal (dVar 2)) (aCons (oVal (dVar 3)) (aCons (oVal (dVar 12)) aNil)))))) (dB (rvE (dCall 3 F_both_win (aCons (oVal (dVar 2)) (aCons (oVal (dVar 3)) (aCons (oVal (dVar 13)) aNil)))))))) (sRet (dC (.bool false))) (sClr [12, 13] sNext))) [.own true s169, .dat a_many, .dat u6.1.1, .dat u6.1.2, .dat u10, .dat u19, .no, .no, .no, .no, .no, .no, .dat p170, .no, .no, .no, .no, .no, .no, .no, .no, .no] (((((rng1 [a_many] >>= fun v195 => lcR (fun x189 => ((pNotIn x189 p170 >>= fun v191 => asB v191) >>= fun b192 => if b192 = true then .ok (some x189) else .ok none)) v195) >>= fun v196 => .ok (PyData.list v196)) >>= fun v197 => pTuple [v197]) >>= fun u198 =>
    (((((P_both_win u6.1.1 u6.1.2 p170 >>= fun v199 => (pIn p170 u19 >>= fun v200 => (P__law_same 8) v199 v200)) >>= fun v201 => asB v201) >>= fun b202 => .ok (!b202)) >>= fun b206 => if b206 = true then .ok true else ((P_both_win u6.1.1 u6.1.2 p170 >>= fun v203 => asB v203) >>= fun b205 => if b205 = true then (P_both_win u6.1.1 u6.1.2 u198 >>= fun v204 => asB v204) else .ok false)) >>= fun b207 => if b207 = true then .ok (.rt ((PyData.bool false), s169)) else .ok (.nx s169)))) (kCtl (fun (s169 : List PyData) => [.own true s169, .dat a_many, .dat u6.1.1, .dat u6.1.2, .dat u10, .dat u19, .no, .no, .no, .no, .no, .no, .no, .no, .no, .no, .no, .no, .no, .no, .no, .no]) (fun (r_ : PyData × List PyData) => .ret (.dat r_.1) [.own true r_.2, .no, .no, .no, .no, .no, .no, .no, .no, .no, .no, .no, .no, .no, .no, .no, .no, .no, .no, .no, .no, .no])) := by
  have h : Js (sSeq (sAsg (dA pTuple (aCons (oVal (dFrz (dLc (itA rng1 (aCons (oVal (dVar 1)) aNil)) ([8] : List Nat) (tgN 8) (dB (d2 pNotIn (oVal (dVar 8)) (oVal (dVar 12)))) (dVar 8)))) aNil)) (tgN 13))
  (sIf (dOr (dNot (dB (rvE (dCall 2 (F__law_same 8) (aCons (oVal (rvE (dCall 3 F_both_win (aCons (oVal (dVar 2)) (aCons (oVal (dVar 3)) (aCons (oVal (dVar 12)) aNil)))))) (aCons (oVal (d2 pIn (oVal (dVar 12)) (oVal (dVar 5)))) aNil)))))) (dAnd (dB (rvE (dCall 3 F_both_win (aCons (oVal (dVar 2)) (aCons (oVal (dVar 3)) (aCons (oVal (dVar 12)) aNil)))))) (dB (rvE (dCall 3 F_both_win (aCons (oVal (dVar 2)) (aCons (oVal (dVar 3)) (aCons (oVal (dVar 13)) aNil)))))))) (sRet (dC (.bool false))) (sClr [12, 13] sNext))) [.own true s169, .dat a_many, .dat u6.1.1, .dat u6.1.2, .dat u10, .dat u19, .no, .no, .no, .no, .no, .no, .dat p170, .no, .no, .no, .no, .no, .no, .no, .no, .no] _ (kCtl (fun (s169 : List PyData) => [.own true s169, .dat a_many, .dat u6.1.1, .dat u6.1.2, .dat u10, .dat u19, .no, .no, .no, .no, .no, .no, .no, .no, .no, .no, .no, .no, .no, .no, .no, .no]) (fun (r_ : PyData × List PyData) => .ret (.dat r_.1) [.own true r_.2, .no, .no, .no, .no, .no, .no, .no, .no, .no, .no, .no, .no, .no, .no, .no, .no, .no, .no, .no, .no, .no])) :=
    (js_seq (E := fun (u198 : PyData) => [.own true s169, .dat a_many, .dat u6.1.1, .dat u6.1.2, .dat u10, .dat u19, .no, .no, .no, .no, .no, .no, .dat p170, .dat u198, .no, .no, .no, .no, .no, .no, .no, .no]) (js_same (jl_asg (xv_dA nx_pTuple (xa_val (xv_dFrz (xv_dLc (w := [.own true s169, .dat a_many, .dat u6.1.1, .dat u6.1.2, .dat u10, .dat u19, .no, .no, .no, .no, .no, .no, .dat p170, .no, .no, .no, .no, .no, .no, .no, .no, .no]) (e2 := [.own true s169, .dat a_many, .dat u6.1.1, .dat u6.1.2, .dat u10, .dat u19, .no, .no, .no, .no, .no, .no, .dat p170, .no, .no, .no, .no, .no, .no, .no, .no, .no]) _ (ei_itA nx_rng1 (xa_val (xv_var rfl) xa_nil) (fun _ => rfl)) rfl rfl rfl rfl (z__law_is_right_10 h_hand a_many u6 u10 u19 u66 u67 u124 u138 u143 s169 p170))) xa_nil)) rfl) (fun _ => rfl)) fun u198 =>
    (js_if (xv_dOr (xv_dNot (xv_dB (xv_rvE (er_call (cl2 (f := (F__law_same 8)) (P := (P__law_same 8)) (rv := .dat) (t__law_same 8)) (ew_val (xv_rvE (er_call (cl3 (f := F_both_win) (P := P_both_win) (rv := .dat) t_both_win) (ew_val (xv_var rfl) (ew_val (xv_var rfl) (ew_val (xv_var rfl) ew_nil))))) (ew_val (xv_d2 nx_pIn (xo_val (xv_var rfl)) (xo_val (xv_var rfl)) rs_val rs_val) ew_nil)))))) (xv_dAnd (xv_dB (xv_rvE (er_call (cl3 (f := F_both_win) (P := P_both_win) (rv := .dat) t_both_win) (ew_val (xv_var rfl) (ew_val (xv_var rfl) (ew_val (xv_var rfl) ew_nil)))))) (xv_dB (xv_rvE (er_call (cl3 (f := F_both_win) (P := P_both_win) (rv := .dat) t_both_win) (ew_val (xv_var rfl) (ew_val (xv_var rfl) (ew_val (xv_var rfl) ew_nil)))))))) (js_map (w := fun u208 => .rt (u208, s169)) (jl_ret xv_c) (fun _ => rfl)) (js_map (w := fun _ => (.nx s169)) (js_clr js_next) (fun _ => rfl))))
  exact h
theorem z__law_is_right_12 (h_hand : List PyData) (a_many : PyData) (u6 : (PyData × PyData) × List PyData) (u10 : PyData) (u19 : PyData) (u66 : PyData) (u67 : List PyData) (u124 : List PyData) (u138 : PyData) (u143 : PyData) (u210 : List PyData) (u221 : (PyData × PyData) × List PyData) (u228 : PyData × List PyData) (u233 : PyData) (s235 : PyData) (p236 : PyData) : Js (sClr [18] (sAsg (d2 pAddA (oVal (dVar 17)) (oVal (dFrz (dLst (aCons (oVal (dSaid okF__law_word exF__law_word (rvE (dCallV 18 2 [("least_both", F_least_both), ("both_swings", F_both_swings), ("deadlocks", F_deadlocks)] (aCons (oVal (dVar 14)) (aCons (oVal (dVar 15)) aNil)))))) (aCons (oVal (dSaid okF__law_word exF__law_word (rvE (dCallV 18 2 [("least_both", F_least_both), ("both_swings", F_both_swings), ("deadlocks", F_deadlocks)] (aCons (oVal (dVar 2)) (aCons (oVal (dVar 15)) aNil)))))) aNil)))))) (tgN 17))) [.own true u228.2, .no, .dat u6.1.1, .no, .no, .no, .no, .no, .no, .no, .no, .no, .no, .no, .dat u221.1.1, .dat u221.1.2, .no, .dat s235, .dat p236, .no, .no, .no] ((((saidP okF__law_word exF__law_word ((fnP p236 [("least_both", fun l => P_least_both (gd l 0) (gd l 1)), ("both_swings", fun l => P_both_swings (gd l 0) (gd l 1)), ("deadlocks", fun l => P_deadlocks (gd l 0) (gd l 1))] >>= fun f244 => f244 [u221.1.1, u221.1.2])) >>= fun v246 => (saidP okF__law_word exF__law_word ((fnP p236 [("least_both", fun l => P_least_both (gd l 0) (gd l 1)), ("both_swings", fun l => P_both_swings (gd l 0) (gd l 1)), ("deadlocks", fun l => P_deadlocks (gd l 0) (gd l 1))] >>= fun f245 => f245 [u6.1.1, u221.1.2])) >>= fun v247 => .ok [v246, v247])) >>= fun v248 => .ok (PyData.list v248)) >>= fun v249 => pAddA s235 v249)) (fun (s235 : PyData) => .next [.own true u228.2, .no, .dat u6.1.1, .no, .no, .no, .no, .no, .no, .no, .no, .no, .no, .no, .dat u221.1.1, .dat u221.1.2, .no, .dat s235, .no, .no, .no, .no]) := by
  have h : Js (sClr [18] (sAsg (d2 pAddA (oVal (dVar 17)) (oVal (dFrz (dLst (aCons (oVal (dSaid okF__law_word exF__law_word (rvE (dCallV 18 2 [("least_both", F_least_both), ("both_swings", F_both_swings), ("deadlocks", F_deadlocks)] (aCons (oVal (dVar 14)) (aCons (oVal (dVar 15)) aNil)))))) (aCons (oVal (dSaid okF__law_word exF__law_word (rvE (dCallV 18 2 [("least_both", F_least_both), ("both_swings", F_both_swings), ("deadlocks", F_deadlocks)] (aCons (oVal (dVar 2)) (aCons (oVal (dVar 15)) aNil)))))) aNil)))))) (tgN 17))) [.own true u228.2, .no, .dat u6.1.1, .no, .no, .no, .no, .no, .no, .no, .no, .no, .no, .no, .dat u221.1.1, .dat u221.1.2, .no, .dat s235, .dat p236, .no, .no, .no] _ (fun (s235 : PyData) => .next [.own true u228.2, .no, .dat u6.1.1, .no, .no, .no, .no, .no, .no, .no, .no, .no, .no, .no, .dat u221.1.1, .dat u221.1.2, .no, .dat s235, .no, .no, .no, .no]) :=
    (js_same (js_clr (jl_asg (xv_d2 nx_pAddA (xo_val (xv_var rfl)) (xo_val (xv_dFrz (xv_dLst (ew_val (xv_said (e1 := [.no, .no, .dat u6.1.1, .no, .no, .no, .no, .no, .no, .no, .no, .no, .no, .no, .dat u221.1.1, .dat u221.1.2, .no, .dat s235, .dat p236, .no, .no, .no]) rfl (xv_rvE (er_callV rfl (.cons (cl2 (f := F_least_both) (P := P_least_both) (rv := .dat) t_least_both) (.cons (cl2 (f := F_both_swings) (P := P_both_swings) (rv := .dat) t_both_swings) (.cons (cl2 (f := F_deadlocks) (P := P_deadlocks) (rv := .dat) t_deadlocks) .nil))) (ew_val (xv_var rfl) (ew_val (xv_var rfl) ew_nil))))) (ew_val (xv_said (e1 := [.no, .no, .dat u6.1.1, .no, .no, .no, .no, .no, .no, .no, .no, .no, .no, .no, .dat u221.1.1, .dat u221.1.2, .no, .dat s235, .dat p236, .no, .no, .no]) rfl (xv_rvE (er_callV rfl (.cons (cl2 (f := F_least_both) (P := P_least_both) (rv := .dat) t_least_both) (.cons (cl2 (f := F_both_swings) (P := P_both_swings) (rv := .dat) t_both_swings) (.cons (cl2 (f := F_deadlocks) (P := P_deadlocks) (rv := .dat) t_deadlocks) .nil))) (ew_val (xv_var rfl) (ew_val (xv_var rfl) ew_nil))))) ew_nil)) (by decide)))) rs_val rs_val) rfl)) (fun _ => rfl))
  exact h
theorem t__law_is_right (h_hand : List PyData) (a_many : PyData) : F__law_is_right [.own true h_hand, .dat a_many] = P__law_is_right h_hand a_many >>= fun c_ => .ok (.dat c_.1, [.own true c_.2, .dat a_many]) := by
  have h : Js B__law_is_right [.own true h_hand, .dat a_many, .no, .no, .no, .no, .no, .no, .no, .no, .no, .no, .no, .no, .no, .no, .no, .no, .no, .no, .no, .no] _ (fun (c_ : PyData × List PyData) => .ret (.dat c_.1) [.own true c_.2, .no, .no, .no, .no, .no, .no, .no, .no, .no, .no, .no, .no, .no, .no, .no, .no, .no, .no, .no, .no, .no]) :=
    (js_seq (E := fun (u6 : (PyData × PyData) × List PyData) => [.own true u6.2, .dat a_many, .dat u6.1.1, .dat u6.1.2, .no, .no, .no, .no, .no, .no, .no, .no, .no, .no, .no, .no, .no, .no, .no, .no, .no, .no]) (js_same (jl_asgTS (E := (fun (s_ : List PyData) => [.own true s_, .dat a_many, .no, .no, .no, .no, .no, .no, .no, .no, .no, .no, .no, .no, .no, .no, .no, .no, .no, .no, .no, .no])) (s := h_hand) (E2 := fun (q_ : PyData × PyData) s_ => [.own true s_, .dat a_many, .dat q_.1, .dat q_.2, .no, .no, .no, .no, .no, .no, .no, .no, .no, .no, .no, .no, .no, .no, .no, .no, .no, .no]) (es_tup (ews_st (es_rvE (ers_callH1 (clh1 (f := F__law_seats) (P := P__law_seats) (rv := .dat) t__law_seats) (fun _ => rfl) (fun _ _ => rfl) (ews_st (es_ev fun s_ => (xv_var rfl)) ews_nil))) (ews_st (es_rvE (ers_callH1 (clh1 (f := F__law_seats) (P := P__law_seats) (rv := .dat) t__law_seats) (fun _ => rfl) (fun _ _ => rfl) (ews_st (es_ev fun s_ => (xv_var rfl)) ews_nil))) ews_nil)) (by decide)) (fun _ _ => (eg_t2 rfl (fun _ => rfl)))) (fun _ => rfl)) fun u6 =>
    (js_seq (E := fun (u10 : PyData) => [.own true u6.2, .dat a_many, .dat u6.1.1, .dat u6.1.2, .dat u10, .no, .no, .no, .no, .no, .no, .no, .no, .no, .no, .no, .no, .no, .no, .no, .no, .no]) (js_same (jl_asg (xv_rvEn (er_call (cl1 (f := F__law_lots) (P := P__law_lots) (rv := .new) t__law_lots) (ew_val (xv_dFrz (xv_d1 nx_rgL1 (xo_val (xv_var rfl)) rs_val)) ew_nil))) rfl) (fun _ => rfl)) fun u10 =>
    (js_seq (E := fun (u19 : PyData) => [.own true u6.2, .dat a_many, .dat u6.1.1, .dat u6.1.2, .dat u10, .dat u19, .no, .no, .no, .no, .no, .no, .no, .no, .no, .no, .no, .no, .no, .no, .no, .no]) (js_same (jl_asg (xv_dFrz (xv_dLc (w := [.own true u6.2, .dat a_many, .dat u6.1.1, .dat u6.1.2, .dat u10, .no, .no, .no, .no, .no, .no, .no, .no, .no, .no, .no, .no, .no, .no, .no, .no, .no]) (e2 := [.own true u6.2, .dat a_many, .dat u6.1.1, .dat u6.1.2, .dat u10, .no, .no, .no, .no, .no, .no, .no, .no, .no, .no, .no, .no, .no, .no, .no, .no, .no]) _ (ei_seq (xa_val (xv_var rfl) xa_nil) (fun _ => rfl)) rfl rfl rfl rfl (z__law_is_right_1 h_hand a_many u6 u10))) rfl) (fun _ => rfl)) fun u19 =>
    (js_seq (E := fun (u66 : PyData) => [.own true u6.2, .dat a_many, .dat u6.1.1, .dat u6.1.2, .dat u10, .dat u19, .dat u66, .no, .no, .no, .no, .no, .no, .no, .no, .no, .no, .no, .no, .no, .no, .no]) (js_same (jl_asg (xv_dFrz (xv_dLc (w := [.own true u6.2, .dat a_many, .dat u6.1.1, .dat u6.1.2, .dat u10, .dat u19, .no, .no, .no, .no, .no, .no, .no, .no, .no, .no, .no, .no, .no, .no, .no, .no]) (e2 := [.own true u6.2, .dat a_many, .dat u6.1.1, .dat u6.1.2, .dat u10, .dat u19, .no, .no, .no, .no, .no, .no, .no, .no, .no, .no, .no, .no, .no, .no, .no, .no]) _ (ei_seq (xa_val (xv_var rfl) xa_nil) (fun _ => rfl)) rfl rfl rfl rfl (z__law_is_right_4 h_hand a_many u6 u10 u19))) rfl) (fun _ => rfl)) fun u66 =>
    (js_seq (E := fun (u67 : List PyData) => [.own true u6.2, .dat a_many, .dat u6.1.1, .dat u6.1.2, .dat u10, .dat u19, .dat u66, .own false u67, .no, .no, .no, .no, .no, .no, .no, .no, .no, .no, .no, .no, .no, .no]) (js_same (jl_own (xv_dLst ew_nil (by decide)) rfl) (fun _ => rfl)) fun u67 =>
    (js_seq (E := fun (u124 : List PyData) => [.own true u6.2, .dat a_many, .dat u6.1.1, .dat u6.1.2, .dat u10, .dat u19, .dat u66, .own false u124, .no, .no, .no, .no, .no, .no, .no, .no, .no, .no, .no, .no, .no, .no]) (js_same (jl_for (E := (fun (s69 : List PyData) => [.own true u6.2, .dat a_many, .dat u6.1.1, .dat u6.1.2, .dat u10, .dat u19, .dat u66, .own false s69, .no, .no, .no, .no, .no, .no, .no, .no, .no, .no, .no, .no, .no, .no])) (s0 := u67) (ei_itA nx_rng1 (xa_val (xv_var rfl) xa_nil) (fun _ => rfl)) (fun x68 s69 => jb_of (E := fun (p70 : PyData) => [.own true u6.2, .dat a_many, .dat u6.1.1, .dat u6.1.2, .dat u10, .dat u19, .dat u66, .own false s69, .dat p70, .no, .no, .no, .no, .no, .no, .no, .no, .no, .no, .no, .no, .no]) (eg_n rfl) (fun p70 => (z__law_is_right_7 h_hand a_many u6 u10 u19 u66 u67) s69 p70))) (fun _ => rfl)) fun u124 =>
    (js_seq (E := fun (u138 : PyData) => [.own true u6.2, .dat a_many, .dat u6.1.1, .dat u6.1.2, .dat u10, .dat u19, .dat u66, .own false u124, .no, .no, .dat u138, .no, .no, .no, .no, .no, .no, .no, .no, .no, .no, .no]) (js_same (jl_asg (xv_dA nx_pLen (xa_val (xv_dFrz (xv_dLc (w := [.own true u6.2, .dat a_many, .dat u6.1.1, .dat u6.1.2, .dat u10, .dat u19, .dat u66, .own false u124, .no, .no, .no, .no, .no, .no, .no, .no, .no, .no, .no, .no, .no, .no]) (e2 := [.own true u6.2, .dat a_many, .dat u6.1.1, .dat u6.1.2, .dat u10, .dat u19, .dat u66, .own false u124, .no, .no, .no, .no, .no, .no, .no, .no, .no, .no, .no, .no, .no, .no]) _ (ei_seq (xa_val (xv_var rfl) xa_nil) (fun _ => rfl)) rfl rfl rfl rfl (z__law_is_right_8 h_hand a_many u6 u10 u19 u66 u67 u124))) xa_nil)) rfl) (fun _ => rfl)) fun u138 =>
    (js_seq (E := fun (u143 : PyData) => [.own true u6.2, .dat a_many, .dat u6.1.1, .dat u6.1.2, .dat u10, .dat u19, .dat u66, .own false u124, .no, .no, .dat u138, .dat u143, .no, .no, .no, .no, .no, .no, .no, .no, .no, .no]) (js_same (jl_asg (xv_dFrz (xv_dLst (ew_val (xv_rvE (er_call (cl2 (f := F_least_both) (P := P_least_both) (rv := .dat) t_least_both) (ew_val (xv_var rfl) (ew_val (xv_var rfl) ew_nil)))) (ew_val (xv_rvE (er_call (cl2 (f := F_both_swings) (P := P_both_swings) (rv := .dat) t_both_swings) (ew_val (xv_var rfl) (ew_val (xv_var rfl) ew_nil)))) (ew_val (xv_rvE (er_call (cl2 (f := F_deadlocks) (P := P_deadlocks) (rv := .dat) t_deadlocks) (ew_val (xv_var rfl) (ew_val (xv_var rfl) ew_nil)))) ew_nil))) (by decide))) rfl) (fun _ => rfl)) fun u143 =>
    (js_ifxk [6, 7, 10, 11] nn_ret (xv_dOr (xv_dNot (xv_dB (xv_rvE (er_call (cl2 (f := (F__law_same 8)) (P := (P__law_same 8)) (rv := .dat) (t__law_same 8)) (ew_val (xv_var rfl) (ew_val (xv_dFrz (xv_dLst (ew_val (xv_var rfl) (ew_val (xv_dA nx_pTuple (xa_own rfl rfl xa_nil)) (ew_val (xv_var rfl) ew_nil))) (by decide))) ew_nil)))))) (xv_dB (xv_d2 nx_pNe (xo_val (xv_dFrz (xv_dLst (ew_val (xv_rvE (er_call (cl2 (f := F_least_both) (P := P_least_both) (rv := .dat) t_least_both) (ew_val (xv_var rfl) (ew_val (xv_var rfl) ew_nil)))) (ew_val (xv_rvE (er_call (cl2 (f := F_both_swings) (P := P_both_swings) (rv := .dat) t_both_swings) (ew_val (xv_var rfl) (ew_val (xv_var rfl) ew_nil)))) (ew_val (xv_rvE (er_call (cl2 (f := F_deadlocks) (P := P_deadlocks) (rv := .dat) t_deadlocks) (ew_val (xv_var rfl) (ew_val (xv_var rfl) ew_nil)))) ew_nil))) (by decide)))) (xo_val (xv_var rfl)) rs_val rs_val))) (js_map (w := fun u157 => (u157, u6.2)) (jl_ret xv_c) (fun _ => rfl)) rfl
    (js_seqC (E := fun (u210 : List PyData) => [.own true u210, .dat a_many, .dat u6.1.1, .dat u6.1.2, .no, .no, .no, .no, .no, .no, .no, .no, .no, .no, .no, .no, .no, .no, .no, .no, .no, .no]) (rr := (fun (r_ : PyData × List PyData) => .ret (.dat r_.1) [.own true r_.2, .no, .no, .no, .no, .no, .no, .no, .no, .no, .no, .no, .no, .no, .no, .no, .no, .no, .no, .no, .no, .no])) (w := fun r262 => r262) (js_same (js_clr (jl_forCS (E := (fun (s_ : List PyData) => [.own true s_, .dat a_many, .dat u6.1.1, .dat u6.1.2, .dat u10, .dat u19, .no, .no, .no, .no, .no, .no, .no, .no, .no, .no, .no, .no, .no, .no, .no, .no])) (L := (fun (s169 : List PyData) => [.own true s169, .dat a_many, .dat u6.1.1, .dat u6.1.2, .dat u10, .dat u19, .no, .no, .no, .no, .no, .no, .no, .no, .no, .no, .no, .no, .no, .no, .no, .no])) (s := u6.2) (rr := (fun (r_ : PyData × List PyData) => .ret (.dat r_.1) [.own true r_.2, .no, .no, .no, .no, .no, .no, .no, .no, .no, .no, .no, .no, .no, .no, .no, .no, .no, .no, .no, .no, .no])) (fun s_ => s_) (fun _ => rfl) (eis_seq (ews_st (es_frz (es_lc (W := (fun (s_ : List PyData) => [.own true s_, .dat a_many, .dat u6.1.1, .dat u6.1.2, .dat u10, .dat u19, .no, .no, .no, .no, .no, .no, .no, .no, .no, .no, .no, .no, .no, .no, .no, .no])) _ (eis_ei fun s_ => (ei_itA nx_rng1 (xa_val xv_c xa_nil) (fun _ => rfl))) (fun _ => rfl) (fun _ => rfl) (fun _ _ => rfl) (z__law_is_right_9 h_hand a_many u6 u10 u19 u66 u67 u124 u138 u143))) ews_nil)) (fun _ => ⟨_, _, rfl⟩) (fun x168 s169 => jb_of (E := fun (p170 : PyData) => [.own true s169, .dat a_many, .dat u6.1.1, .dat u6.1.2, .dat u10, .dat u19, .no, .no, .no, .no, .no, .no, .dat p170, .no, .no, .no, .no, .no, .no, .no, .no, .no]) (eg_n rfl) (fun p170 => (z__law_is_right_11 h_hand a_many u6 u10 u19 u66 u67 u124 u138 u143) s169 p170)))) (fun c => by cases c <;> rfl)) (fun u210 => (js_seq (E := fun (u221 : (PyData × PyData) × List PyData) => [.own true u221.2, .dat a_many, .dat u6.1.1, .dat u6.1.2, .no, .no, .no, .no, .no, .no, .no, .no, .no, .no, .dat u221.1.1, .dat u221.1.2, .no, .no, .no, .no, .no, .no]) (js_same (jl_asgTS (E := (fun (s_ : List PyData) => [.own true s_, .dat a_many, .dat u6.1.1, .dat u6.1.2, .no, .no, .no, .no, .no, .no, .no, .no, .no, .no, .no, .no, .no, .no, .no, .no, .no, .no])) (s := u210) (E2 := fun (q_ : PyData × PyData) s_ => [.own true s_, .dat a_many, .dat u6.1.1, .dat u6.1.2, .no, .no, .no, .no, .no, .no, .no, .no, .no, .no, .dat q_.1, .dat q_.2, .no, .no, .no, .no, .no, .no]) (es_tup (ews_st (es_rvE (ers_callH1 (clh0 (f := F__law_no_seats) (P := P__law_no_seats) (rv := .dat) t__law_no_seats) (fun _ => rfl) (fun _ _ => rfl) ews_nil)) (ews_st (es_rvE (ers_callH1 (clh1 (f := F__law_any) (P := P__law_any) (rv := .dat) t__law_any) (fun _ => rfl) (fun _ _ => rfl) (ews_st (es_frz (es_lst (ews_st (es_rvE (ers_callH1 (clh0 (f := F__law_no_seats) (P := P__law_no_seats) (rv := .dat) t__law_no_seats) (fun _ => rfl) (fun _ _ => rfl) ews_nil)) (ews_st (es_ev fun s_ => (xv_d2 nx_pAddA (xo_val (xv_var rfl)) (xo_val (xv_dTup (ew_val xv_c ew_nil) (by decide))) rs_val rs_val)) ews_nil)) (by decide))) ews_nil))) ews_nil)) (by decide)) (fun _ _ => (eg_t2 rfl (fun _ => rfl)))) (fun _ => rfl)) fun u221 =>
    (js_seq (E := fun (u228 : PyData × List PyData) => [.own true u228.2, .no, .dat u6.1.1, .dat u6.1.2, .no, .no, .no, .no, .no, .no, .no, .no, .no, .no, .dat u221.1.1, .dat u221.1.2, .dat u228.1, .no, .no, .no, .no, .no]) (js_same (js_clr (jl_asgS (E := (fun (s_ : List PyData) => [.own true s_, .dat a_many, .dat u6.1.1, .dat u6.1.2, .no, .no, .no, .no, .no, .no, .no, .no, .no, .no, .dat u221.1.1, .dat u221.1.2, .no, .no, .no, .no, .no, .no])) (s := u221.2) (es_rvE (ers_callH1 (clh1 (f := F__law_any) (P := P__law_any) (rv := .dat) t__law_any) (fun _ => rfl) (fun _ _ => rfl) (ews_st (es_frz (es_lst (ews_st (es_ev fun s_ => xv_c) (ews_st (es_ev fun s_ => (xv_dFrz (xv_dLst (ew_val xv_c ew_nil) (by decide)))) (ews_st (es_ev fun s_ => (xv_dTup (ew_val (xv_var rfl) ew_nil) (by decide))) (ews_st (es_ev fun s_ => (xv_dTup (ew_val xv_c (ew_val xv_c ew_nil)) (by decide))) (ews_st (es_ev fun s_ => xv_c) (ews_st (es_ev fun s_ => (xv_dTup (ew_val xv_c ew_nil) (by decide))) (ews_st (es_ev fun s_ => (xv_dTup (ew_val xv_c ew_nil) (by decide))) (ews_st (es_ev fun s_ => (xv_dTup (ew_val (xv_d1 nx_pNeg (xo_val xv_c) rs_val) ew_nil) (by decide))) (ews_st (es_ev fun s_ => xv_c) (ews_st (es_rvE (ers_callH1 (clh1 (f := F__law_deep) (P := P__law_deep) (rv := .dat) t__law_deep) (fun _ => rfl) (fun _ _ => rfl) (ews_st (es_ev fun s_ => xv_c) ews_nil))) ews_nil)))))))))) (by decide))) ews_nil))) (fun _ => rfl))) (fun _ => rfl)) fun u228 =>
    (js_seq (E := fun (u233 : PyData) => [.own true u228.2, .no, .dat u6.1.1, .no, .no, .no, .no, .no, .no, .no, .no, .no, .no, .no, .dat u221.1.1, .dat u221.1.2, .no, .dat u233, .no, .no, .no, .no]) (js_same (js_clr (jl_asg (xv_dFrz (xv_dLst (ew_val (xv_said (e1 := [.no, .no, .dat u6.1.1, .dat u6.1.2, .no, .no, .no, .no, .no, .no, .no, .no, .no, .no, .dat u221.1.1, .dat u221.1.2, .dat u228.1, .no, .no, .no, .no, .no]) rfl (xv_rvE (er_call (cl3 (f := F_both_win) (P := P_both_win) (rv := .dat) t_both_win) (ew_val (xv_var rfl) (ew_val (xv_var rfl) (ew_val (xv_var rfl) ew_nil)))))) (ew_val (xv_said (e1 := [.no, .no, .dat u6.1.1, .dat u6.1.2, .no, .no, .no, .no, .no, .no, .no, .no, .no, .no, .dat u221.1.1, .dat u221.1.2, .dat u228.1, .no, .no, .no, .no, .no]) rfl (xv_rvE (er_call (cl3 (f := F_both_win) (P := P_both_win) (rv := .dat) t_both_win) (ew_val (xv_var rfl) (ew_val (xv_var rfl) (ew_val (xv_var rfl) ew_nil)))))) (ew_val (xv_said (e1 := [.no, .no, .dat u6.1.1, .dat u6.1.2, .no, .no, .no, .no, .no, .no, .no, .no, .no, .no, .dat u221.1.1, .dat u221.1.2, .dat u228.1, .no, .no, .no, .no, .no]) rfl (xv_rvE (er_call (cl3 (f := F_both_win) (P := P_both_win) (rv := .dat) t_both_win) (ew_val (xv_var rfl) (ew_val (xv_var rfl) (ew_val (xv_var rfl) ew_nil)))))) ew_nil))) (by decide))) rfl)) (fun _ => rfl)) fun u233 =>
    (js_seq (E := fun (u252 : PyData) => [.own true u228.2, .no, .dat u6.1.1, .no, .no, .no, .no, .no, .no, .no, .no, .no, .no, .no, .no, .no, .no, .dat u252, .no, .no, .no, .no]) (js_same (js_clr (jl_for (E := (fun (s235 : PyData) => [.own true u228.2, .no, .dat u6.1.1, .no, .no, .no, .no, .no, .no, .no, .no, .no, .no, .no, .dat u221.1.1, .dat u221.1.2, .no, .dat s235, .no, .no, .no, .no])) (s0 := u233) (ei_seq (xa_val (xv_dTup (ew_val xv_c (ew_val xv_c (ew_val xv_c ew_nil))) (by decide)) xa_nil) (fun _ => rfl)) (fun x234 s235 => jb_of (E := fun (p236 : PyData) => [.own true u228.2, .no, .dat u6.1.1, .no, .no, .no, .no, .no, .no, .no, .no, .no, .no, .no, .dat u221.1.1, .dat u221.1.2, .no, .dat s235, .dat p236, .no, .no, .no]) (eg_n rfl) (fun p236 => (z__law_is_right_12 h_hand a_many u6 u10 u19 u66 u67 u124 u138 u143 u210 u221 u228 u233) s235 p236)))) (fun _ => rfl)) fun u252 =>
    (js_map (w := fun u260 => (u260, u228.2)) (jl_ret (xv_dAndV (xv_d2 nx_pEq (xo_val (xv_var rfl)) (xo_val (xv_d2 nx_pAddA (xo_val (xv_dFrz (xv_dLst (ew_val xv_c (ew_val xv_c (ew_val xv_c ew_nil))) (by decide)))) (xo_val (xv_d2 nx_pMulA (xo_val (xv_dFrz (xv_dLst (ew_val xv_c ew_nil) (by decide)))) (xo_val xv_c) rs_val rs_val)) rs_val rs_val)) rs_val rs_val) (xv_d2 nx_pEq (xo_val (xv_rvE (er_call (cl2 (f := F_deadlocks) (P := P_deadlocks) (rv := .dat) t_deadlocks) (ew_val (xv_var rfl) (ew_val (xv_var rfl) ew_nil))))) (xo_val xv_c) rs_val rs_val))) (fun _ => rfl))))))) (fun _ => rfl) (fun _ => ⟨_, _, rfl⟩)))))))))))
  exact fn_js rfl h (fun c => rfl)
/-! ### law -/
abbrev s_law : Stmt := top 36
abbrev N_law : List Str := ["script", "hand", "one", "other", "answer", "lap"]
theorem sc_law : FnScope N_law ["script"] (defScope s_law) := ⟨rfl, rfl, rfl, by decide +kernel, rfl, by decide +kernel, by decide +kernel⟩
theorem b_law (t : Tx K mg) : Binds K t.d_law ["script"] [] := t.F_law.binds (ps := ["script"]) fun _ _ _ _ _ _ us hl => match us, hl with | [_], _ => rfl
def B_law : SemS := (sSeq (sClr [0] (sOwn (rvN (dCall 1 F__law_hand (aCons (oVal (dVar 0)) aNil))) 1))
  (sSeq (sAsg (dTup (aCons (oVal (dTup (aCons (oVal (dC (.int 3))) (aCons (oVal (dC (.int 2))) (aCons (oVal (dC (.int 2))) aNil))))) (aCons (oVal (dTup (aCons (oVal (dC (.int 1))) (aCons (oVal (dC (.int 4))) (aCons (oVal (dC (.int 1))) aNil))))) aNil))) (tgT 2 (tgCons (tgN 2) (tgCons (tgN 3) tgNil))))
  (sSeq (sClr [2, 3] (sAsg (dFrz (dLst (aCons (oVal (rvE (dCall 3 F_both_win (aCons (oVal (dVar 2)) (aCons (oVal (dVar 3)) (aCons (oVal (dTup (aCons (oVal (dC (.int 1))) aNil))) aNil)))))) (aCons (oVal (rvE (dCall 3 F_both_win (aCons (oVal (dVar 2)) (aCons (oVal (dVar 3)) (aCons (oVal (dTup (aCons (oVal (dC (.int 0))) (aCons (oVal (dC (.int 1))) aNil)))) aNil)))))) (aCons (oVal (rvE (dCall 2 F_least_both (aCons (oVal (dVar 2)) (aCons (oVal (dVar 3)) aNil))))) (aCons (oVal (rvE (dCall 2 F_both_swings (aCons (oVal (dVar 2)) (aCons (oVal (dVar 3)) aNil))))) (aCons (oVal (rvE (dCall 2 F_deadlocks (aCons (oVal (dVar 2)) (aCons (oVal (dVar 3)) aNil))))) (aCons (oVal (rvE (dCall 3 F_both_win (aCons (oVal (dVar 2)) (aCons (oVal (dVar 3)) (aCons (oVal (dTup aNil)) aNil)))))) aNil)))))))) (tgN 4)))
  (sSeq (sIf (dNot (dB (rvE (dCall 2 (F__law_same 8) (aCons (oVal (dVar 4)) (aCons (oVal (dFrz (dLst (aCons (oVal (dC (.bool false))) (aCons (oVal (dC (.bool true))) (aCons (oVal (dFrz (dLst (aCons (oVal (dTup (aCons (oVal (dC (.int 0))) (aCons (oVal (dC (.int 1))) aNil)))) (aCons (oVal (dTup (aCons (oVal (dC (.int 1))) (aCons (oVal (dC (.int 2))) aNil)))) aNil))))) (aCons (oVal (dTup (aCons (oVal (dC (.int 1))) (aCons (oVal (dC (.int 3))) (aCons (oVal (dC (.int 1))) aNil))))) (aCons (oVal (dC (.int 2))) (aCons (oVal (dC (.bool false))) aNil))))))))) aNil)))))) (sRet (dC (.bool false))) (sClr [4] sNext))
  (sRet (dA pAll (aCons (oVal (dFrz (dLc (itA rng1 (aCons (oVal (dC (.int 6))) aNil)) ([5] : List Nat) (tgN 5) dYes (rvE (dCall 2 F__law_is_right (aCons (oVar 1) (aCons (oVal (d2 pAddA (oVal (dC (.int 1))) (oVal (rvE (dCall 2 F__law_draw (aCons (oVar 1) (aCons (oVal (dC (.int 7))) aNil))))))) aNil))))))) aNil)))))))
def F_law : Fn := runI N_law.length B_law
theorem ok_law (t : Tx K mg) (tb : ∀ p ∈ t.cs, LamX.TabB base mg p.1 p.2) : FnOk P w K mg base (L2.CX P w) 13 t.a_law t.d_law ["script"] (spD K t.T t.ca 1 F_law) :=
  fn_I (fn_D (k := 12) t.F_law sc_law (by decide) fun cdv A outer s H E hr =>
    (ds_cons (ds_clr [0] (ds_own (i := 1) sc_law.nd rfl (by first | exact .inl rfl | exact .inr rfl) (dn_ofV (dv_call (ok__law_hand t) (hr.mono (by decide)) rfl t.g__law_hand t.F__law_hand.kp (b__law_hand t) (passes_call (takes_of rfl rfl rfl rfl) fun _ _ _ _ h => h) (da_cons (do_val (de_var (pe_var (i := 0) rfl (by first | exact .inl rfl | exact .inr (.inl rfl) | exact .inr (.inr rfl))))) da_nil)))))
    (ds_cons (ds_asg (de_tup (da_cons (do_val (de_tup (da_cons (do_val de_int) (da_cons (do_val de_int) (da_cons (do_val de_int) da_nil))))) (da_cons (do_val (de_tup (da_cons (do_val de_int) (da_cons (do_val de_int) (da_cons (do_val de_int) da_nil))))) da_nil))) (dg_tup rfl rfl (dgs_cons (dg_name (pg_name (i := 2) sc_law.nd rfl (by first | exact .inl rfl | exact .inr rfl))) (dgs_cons (dg_name (pg_name (i := 3) sc_law.nd rfl (by first | exact .inl rfl | exact .inr rfl))) dgs_nil))))
    (ds_cons (ds_clr [2, 3] (ds_set (i := 4) sc_law.nd rfl (by first | exact .inl rfl | exact .inr rfl) (de_frz (dn_lst (da_cons (do_val (de_ofV (dv_call (ok_both_win t) (hr.mono (by decide)) rfl t.g_both_win t.F_both_win.kp (b_both_win t) (passes_call (takes_of rfl rfl rfl rfl) fun _ _ _ _ h => h) (da_cons (do_val (de_var (pe_var (i := 2) rfl (by first | exact .inl rfl | exact .inr (.inl rfl) | exact .inr (.inr rfl))))) (da_cons (do_val (de_var (pe_var (i := 3) rfl (by first | exact .inl rfl | exact .inr (.inl rfl) | exact .inr (.inr rfl))))) (da_cons (do_val (de_tup (da_cons (do_val de_int) da_nil))) da_nil)))))) (da_cons (do_val (de_ofV (dv_call (ok_both_win t) (hr.mono (by decide)) rfl t.g_both_win t.F_both_win.kp (b_both_win t) (passes_call (takes_of rfl rfl rfl rfl) fun _ _ _ _ h => h) (da_cons (do_val (de_var (pe_var (i := 2) rfl (by first | exact .inl rfl | exact .inr (.inl rfl) | exact .inr (.inr rfl))))) (da_cons (do_val (de_var (pe_var (i := 3) rfl (by first | exact .inl rfl | exact .inr (.inl rfl) | exact .inr (.inr rfl))))) (da_cons (do_val (de_tup (da_cons (do_val de_int) (da_cons (do_val de_int) da_nil)))) da_nil)))))) (da_cons (do_val (de_ofV (dv_call (ok_least_both t) (hr.mono (by decide)) rfl t.g_least_both t.F_least_both.kp (b_least_both t) (passes_call (takes_of rfl rfl rfl rfl) fun _ _ _ _ h => h) (da_cons (do_val (de_var (pe_var (i := 2) rfl (by first | exact .inl rfl | exact .inr (.inl rfl) | exact .inr (.inr rfl))))) (da_cons (do_val (de_var (pe_var (i := 3) rfl (by first | exact .inl rfl | exact .inr (.inl rfl) | exact .inr (.inr rfl))))) da_nil))))) (da_cons (do_val (de_ofV (dv_call (ok_both_swings t) (hr.mono (by decide)) rfl t.g_both_swings t.F_both_swings.kp (b_both_swings t) (passes_call (takes_of rfl rfl rfl rfl) fun _ _ _ _ h => h) (da_cons (do_val (de_var (pe_var (i := 2) rfl (by first | exact .inl rfl | exact .inr (.inl rfl) | exact .inr (.inr rfl))))) (da_cons (do_val (de_var (pe_var (i := 3) rfl (by first | exact .inl rfl | exact .inr (.inl rfl) | exact .inr (.inr rfl))))) da_nil))))) (da_cons (do_val (de_ofV (dv_call (ok_deadlocks t) (hr.mono (by decide)) rfl t.g_deadlocks t.F_deadlocks.kp (b_deadlocks t) (passes_call (takes_of rfl rfl rfl rfl) fun _ _ _ _ h => h) (da_cons (do_val (de_var (pe_var (i := 2) rfl (by first | exact .inl rfl | exact .inr (.inl rfl) | exact .inr (.inr rfl))))) (da_cons (do_val (de_var (pe_var (i := 3) rfl (by first | exact .inl rfl | exact .inr (.inl rfl) | exact .inr (.inr rfl))))) da_nil))))) (da_cons (do_val (de_ofV (dv_call (ok_both_win t) (hr.mono (by decide)) rfl t.g_both_win t.F_both_win.kp (b_both_win t) (passes_call (takes_of rfl rfl rfl rfl) fun _ _ _ _ h => h) (da_cons (do_val (de_var (pe_var (i := 2) rfl (by first | exact .inl rfl | exact .inr (.inl rfl) | exact .inr (.inr rfl))))) (da_cons (do_val (de_var (pe_var (i := 3) rfl (by first | exact .inl rfl | exact .inr (.inl rfl) | exact .inr (.inr rfl))))) (da_cons (do_val (de_tup da_nil)) da_nil)))))) da_nil))))))))))
    (ds_cons (ds_if (dt_not (dt_val (de_ofV (dv_call (ok__law_same t 8) (hr.mono (by decide)) rfl t.g__law_same t.F__law_same.kp (b__law_same t) (passes_call (takes_of rfl rfl rfl rfl) fun _ _ _ _ h => h) (da_cons (do_val (de_var (pe_var (i := 4) rfl (by first | exact .inl rfl | exact .inr (.inl rfl) | exact .inr (.inr rfl))))) (da_cons (do_val (de_frz (dn_lst (da_cons (do_val de_bl) (da_cons (do_val de_bl) (da_cons (do_val (de_frz (dn_lst (da_cons (do_val (de_tup (da_cons (do_val de_int) (da_cons (do_val de_int) da_nil)))) (da_cons (do_val (de_tup (da_cons (do_val de_int) (da_cons (do_val de_int) da_nil)))) da_nil))))) (da_cons (do_val (de_tup (da_cons (do_val de_int) (da_cons (do_val de_int) (da_cons (do_val de_int) da_nil))))) (da_cons (do_val de_int) (da_cons (do_val de_bl) da_nil))))))))) da_nil)))))) (ds_one (ds_ret de_bl)) (dss_clr [4] ds_nil))
    (ds_one (ds_ret (de_callB (cr_all rfl) r_all rfl t.n_all rfl (da_cons (do_val (de_frz (dn_lc (own := [("lap", 5)]) rfl sc_law.nd (di_range1 rfl t.n_range (da_cons (do_val de_int) da_nil)) (blkOk_by (sc := defScope s_law) (N := N_law) (by decide +kernel)) (fun _ _ _ _ _ => (dg_name (pg_name (i := 5) sc_law.nd rfl (by first | exact .inl rfl | exact .inr rfl)))) (fun _ _ _ _ _ => dts_nil) (fun _ _ _ _ _ => (de_ofV (dv_call (ok__law_is_right t tb) (hr.mono (by decide)) rfl t.g__law_is_right t.F__law_is_right.kp (b__law_is_right t) passL (da_cons (do_var (pe_var (i := 1) rfl (by first | exact .inl rfl | exact .inr (.inl rfl) | exact .inr (.inr rfl)))) (da_cons (do_val (de_op op_addA r_addA (do_val de_int) (do_val (de_ofV (dv_call (ok__law_draw t) (hr.mono (by decide)) rfl t.g__law_draw t.F__law_draw.kp (b__law_draw t) passL (da_cons (do_var (pe_var (i := 1) rfl (by first | exact .inl rfl | exact .inr (.inl rfl) | exact .inr (.inr rfl)))) (da_cons (do_val de_int) da_nil))))))) da_nil))))) (by decide)))) da_nil))))))))) (by decide)
theorem z_law_1 (a_script : PyData) (u1 : List PyData) (u4 : PyData × PyData) (u12 : PyData) (x17 : PyData) (s19 : List PyData) : LcT (tgN 5) dYes (rvE (dCall 2 F__law_is_right (aCons (oVar 1) (aCons (oVal (d2 pAddA (oVal (dC (.int 1))) (oVal (rvE (dCall 2 F__law_draw (aCons (oVar 1) (aCons (oVal (dC (.int 7))) aNil))))))) aNil)))) [5] (fun (s_ : List PyData) => [.no, .own false s_, .no, .no, .no, .no]) x17 s19 ((((P__law_draw s19 (PyData.int 7) >>= fun p24 => (pAddA (PyData.int 1) p24.1 >>= fun z25 => .ok (z25, p24.2))) >>= fun p26 => P__law_is_right p26.2 p26.1) >>= fun p27 => .ok ((some p27.1), p27.2))) := by
  have h : LcT (tgN 5) dYes (rvE (dCall 2 F__law_is_right (aCons (oVar 1) (aCons (oVal (d2 pAddA (oVal (dC (.int 1))) (oVal (rvE (dCall 2 F__law_draw (aCons (oVar 1) (aCons (oVal (dC (.int 7))) aNil))))))) aNil)))) [5] (fun (s_ : List PyData) => [.no, .own false s_, .no, .no, .no, .no]) x17 s19 _ :=
    lcs_step1 (E' := fun p18 s_ => [.no, .own false s_, .no, .no, .no, .dat p18]) (eg_n rfl) (fun p18 => (es_rvE (ers_callH1 (clh1 (f := F__law_is_right) (P := P__law_is_right) (rv := .dat) t__law_is_right) (fun _ => rfl) (fun _ _ => rfl) (ews_st (es_d2 nx_pAddA (eso_val (es_ev fun s_ => xv_c)) (eso_val (es_rvE (ers_callH1 (clh1 (f := F__law_draw) (P := P__law_draw) (rv := .dat) t__law_draw) (fun _ => rfl) (fun _ _ => rfl) (ews_st (es_ev fun s_ => xv_c) ews_nil)))) rss_val rss_val) ews_nil)))) (fun _ _ => rfl)
  exact h
theorem t_law (a_script : PyData) : F_law [.dat a_script] = P_law a_script >>= fun c_ => .ok (.dat c_, [.dat a_script]) := by
  have h : Js B_law [.dat a_script, .no, .no, .no, .no, .no] _ (fun (c_ : PyData) => .ret (.dat c_) [.no, .no, .no, .no, .no, .no]) :=
    (js_seq (E := fun (u1 : List PyData) => [.no, .own false u1, .no, .no, .no, .no]) (js_same (js_clr (jl_own (xv_rvN (er_call (cl1 (f := F__law_hand) (P := P__law_hand) (rv := .new) t__law_hand) (ew_val (xv_var rfl) ew_nil))) rfl)) (fun _ => rfl)) fun u1 =>
    (js_seq (E := fun (u4 : PyData × PyData) => [.no, .own false u1, .dat u4.1, .dat u4.2, .no, .no]) (js_same (jl_asgT (xv_dTup (ew_val (xv_dTup (ew_val xv_c (ew_val xv_c (ew_val xv_c ew_nil))) (by decide)) (ew_val (xv_dTup (ew_val xv_c (ew_val xv_c (ew_val xv_c ew_nil))) (by decide)) ew_nil)) (by decide)) (fun _ => (eg_t2 rfl (fun _ => rfl)))) (fun _ => rfl)) fun u4 =>
    (js_seq (E := fun (u12 : PyData) => [.no, .own false u1, .no, .no, .dat u12, .no]) (js_same (js_clr (jl_asg (xv_dFrz (xv_dLst (ew_val (xv_rvE (er_call (cl3 (f := F_both_win) (P := P_both_win) (rv := .dat) t_both_win) (ew_val (xv_var rfl) (ew_val (xv_var rfl) (ew_val (xv_dTup (ew_val xv_c ew_nil) (by decide)) ew_nil))))) (ew_val (xv_rvE (er_call (cl3 (f := F_both_win) (P := P_both_win) (rv := .dat) t_both_win) (ew_val (xv_var rfl) (ew_val (xv_var rfl) (ew_val (xv_dTup (ew_val xv_c (ew_val xv_c ew_nil)) (by decide)) ew_nil))))) (ew_val (xv_rvE (er_call (cl2 (f := F_least_both) (P := P_least_both) (rv := .dat) t_least_both) (ew_val (xv_var rfl) (ew_val (xv_var rfl) ew_nil)))) (ew_val (xv_rvE (er_call (cl2 (f := F_both_swings) (P := P_both_swings) (rv := .dat) t_both_swings) (ew_val (xv_var rfl) (ew_val (xv_var rfl) ew_nil)))) (ew_val (xv_rvE (er_call (cl2 (f := F_deadlocks) (P := P_deadlocks) (rv := .dat) t_deadlocks) (ew_val (xv_var rfl) (ew_val (xv_var rfl) ew_nil)))) (ew_val (xv_rvE (er_call (cl3 (f := F_both_win) (P := P_both_win) (rv := .dat) t_both_win) (ew_val (xv_var rfl) (ew_val (xv_var rfl) (ew_val (xv_dTup ew_nil (by decide)) ew_nil))))) ew_nil)))))) (by decide))) rfl)) (fun _ => rfl)) fun u12 =>
    (js_ifxk [4] nn_ret (xv_dNot (xv_dB (xv_rvE (er_call (cl2 (f := (F__law_same 8)) (P := (P__law_same 8)) (rv := .dat) (t__law_same 8)) (ew_val (xv_var rfl) (ew_val (xv_dFrz (xv_dLst (ew_val xv_c (ew_val xv_c (ew_val (xv_dFrz (xv_dLst (ew_val (xv_dTup (ew_val xv_c (ew_val xv_c ew_nil)) (by decide)) (ew_val (xv_dTup (ew_val xv_c (ew_val xv_c ew_nil)) (by decide)) ew_nil)) (by decide))) (ew_val (xv_dTup (ew_val xv_c (ew_val xv_c (ew_val xv_c ew_nil))) (by decide)) (ew_val xv_c (ew_val xv_c ew_nil)))))) (by decide))) ew_nil)))))) (js_same (jl_ret xv_c) (fun _ => rfl)) rfl
    (js_map (w := fun u32 => u32.1) (jl_retS (E := (fun (s_ : List PyData) => [.no, .own false s_, .no, .no, .no, .no])) (s := u1) (es_dA nx_pAll (eas_st (es_frz (es_lc (W := (fun (s_ : List PyData) => [.no, .own false s_, .no, .no, .no, .no])) _ (eis_ei fun s_ => (ei_itA nx_rng1 (xa_val xv_c xa_nil) (fun _ => rfl))) (fun _ => rfl) (fun _ => rfl) (fun _ _ => rfl) (z_law_1 a_script u1 u4 u12))) eas_nil))) (fun _ => rfl))))))
  exact fn_js rfl h (fun c => rfl)
end
end G
end
section
/-! K83A: the hand, what a lot is heard by. -/
namespace G
open PySem PySem.Spec PD L2 Evl
/-- the hand that draws -/
def Hand (l : List PyData) : Prop := ∃ (cells : List Int) (at_ big mix turn : Int), l = [.list (cells.map PyData.int), .int at_, .int big, .int mix, .int turn] ∧ 0 ≤ at_
section
variable {α : Type} {a b c d e : α}
theorem at50 : atI [a, b, c, d, e] 0 = some a := rfl
theorem at51 : atI [a, b, c, d, e] 1 = some b := rfl
theorem at52 : atI [a, b, c, d, e] 2 = some c := rfl
theorem at53 : atI [a, b, c, d, e] 3 = some d := rfl
theorem at54 : atI [a, b, c, d, e] 4 = some e := rfl
end
theorem ix51 : ixN 5 1 = some 1 := rfl
theorem ix52 : ixN 5 2 = some 2 := rfl
theorem ix53 : ixN 5 3 = some 3 := rfl
theorem ix54 : ixN 5 4 = some 4 := rfl
theorem f_draw {h : List PyData} (H : Hand h) {n : Int} (hn : 0 < n) (hn2 : n < 1000000000000000000000000000000) : ∃ d h', P__law_draw h (.int n) = .ok (.int d, h') ∧ Hand h' ∧ 0 ≤ d ∧ d < n := by
  have n8 : n.natAbs < 2 ^ 8000 := lt8000 (m := 100) (by decide) (Nat.lt_trans (show n.natAbs < 1000000000000000000000000000000 by omega) (by decide))
  obtain ⟨cells, at_, big, mix, turn, rfl, h0⟩ := H
  have fin : ∀ {r : R (PyData × List PyData)} {x : Int} {ce : List Int} {a b c d : Int}, r = R.ok (PyData.int (x % n), [PyData.list (ce.map PyData.int), .int a, .int b, .int c, .int d]) → 0 ≤ a → ∃ d h', r = .ok (.int d, h') ∧ Hand h' ∧ 0 ≤ d ∧ d < n :=
    fun e ha => ⟨_, _, e, ⟨_, _, _, _, _, rfl, ha⟩, Int.emod_nonneg _ (by omega), Int.emod_lt_of_pos _ hn⟩
  by_cases c1 : big = 0 ∧ at_ < cells.length
  · obtain ⟨b0, al⟩ := c1
    obtain ⟨j, hj⟩ : ∃ j : Nat, at_ = j := ⟨at_.toNat, by omega⟩
    have jl : j < cells.length := by omega
    have cj : atI (cells.map PyData.int) at_ = some (.int cells[j]) := by rw [hj]; exact atI_nat' (by simp [jl])
    generalize cells[j] = c at *
    by_cases c2 : (1000000000000000000 : Int) ≤ c
    · have cp : 0 < c := by omega
      exact fin (by simp [P__law_draw, setIxP, ixR, pIx, pEq, pLt, pGe, pGt, pLen, pInt, pAddA, pPow, plainD, nd, SeqAt.shaped, PyData.canLay0, PyData.depth, PyData.eqv, pMod_ok, pFdiv_ok, pMulA_r, pMulA_l, pFdiv_s, pMulA_m, at50, at51, at52, at53, at54, ix51, ix52, ix53, ix54, b0, al, cj, c2, cp, hn, n8]; exact ⟨rfl, rfl, rfl, rfl, rfl, rfl⟩) (by omega)
    · exact fin (by simp [P__law_draw, setIxP, ixR, pIx, pEq, pLt, pGe, pGt, pLen, pInt, pAddA, pPow, plainD, nd, SeqAt.shaped, PyData.canLay0, PyData.depth, PyData.eqv, pMod_ok, pFdiv_ok, pMulA_r, pMulA_l, pFdiv_s, pMulA_m, at50, at51, at52, at53, at54, ix51, ix52, ix53, ix54, b0, al, cj, c2, hn, n8]; exact ⟨rfl, rfl, rfl, rfl, rfl, rfl⟩) (by omega)
  · have c2 : big = 0 → ¬ at_ < cells.length := fun a b => c1 ⟨a, b⟩
    by_cases b0 : big = 0
    · have al := c2 b0
      exact fin (by simp [P__law_draw, setIxP, ixR, pIx, pEq, pLt, pGe, pGt, pLen, pInt, pAddA, pPow, plainD, nd, SeqAt.shaped, PyData.canLay0, PyData.depth, PyData.eqv, pMod_ok, pFdiv_ok, pMulA_r, pMulA_l, pFdiv_s, pMulA_m, at50, at51, at52, at53, at54, ix51, ix52, ix53, ix54, b0, al, hn, n8]; exact ⟨rfl, rfl, rfl, rfl, rfl, rfl⟩) (by omega)
    · by_cases b1 : 0 < big
      · exact fin (by simp [P__law_draw, setIxP, ixR, pIx, pEq, pLt, pGe, pGt, pLen, pInt, pAddA, pPow, plainD, nd, SeqAt.shaped, PyData.canLay0, PyData.depth, PyData.eqv, pMod_ok, pFdiv_ok, pMulA_r, pMulA_l, pFdiv_s, pMulA_m, at50, at51, at52, at53, at54, ix51, ix52, ix53, ix54, b0, b1, hn, n8]; exact ⟨rfl, rfl, rfl, rfl, rfl, rfl⟩) (by omega)
      · exact fin (by simp [P__law_draw, setIxP, ixR, pIx, pEq, pLt, pGe, pGt, pLen, pInt, pAddA, pPow, plainD, nd, SeqAt.shaped, PyData.canLay0, PyData.depth, PyData.eqv, pMod_ok, pFdiv_ok, pMulA_r, pMulA_l, pFdiv_s, pMulA_m, at50, at51, at52, at53, at54, ix51, ix52, ix53, ix54, b0, b1, hn, n8]; exact ⟨rfl, rfl, rfl, rfl, rfl, rfl⟩) (by omega)
/-- one of some -/
theorem f_any {h : List PyData} (H : Hand h) (xs : List PyData) (hx : xs ≠ []) (hl : xs.length ≤ 100000) : ∃ x h', P__law_any h (.list xs) = .ok (x, h') ∧ Hand h' ∧ x ∈ xs := by
  have hp : 0 < xs.length := List.length_pos_iff.mpr hx
  obtain ⟨d, h', e, H', d0, d1⟩ := f_draw H (n := (xs.length : Nat)) (by omega) (by omega)
  obtain ⟨j, rfl⟩ : ∃ j : Nat, d = j := ⟨d.toNat, by omega⟩
  have jl : j < xs.length := by omega
  refine ⟨xs[j], h', ?_, H', List.getElem_mem jl⟩
  unfold P__law_any
  simp only [pLen_list, R.bind_ok, e, pIx_list (atI_nat' (List.getElem?_eq_getElem jl))]
/-- the hand at first -/
theorem f_hand (ns : List Int) : ∃ h, P__law_hand (lI' ns) = .ok h ∧ Hand h := by
  have e : cutP (lI' ns) none (some 63) = .ok (lI' (ns.take 63)) := by
    show R.ok (PyData.list (cutD _ none (some 63))) = _
    congr 2
    unfold cutD
    rw [List.map_take]
    have e0 : HT.sIx (ns.map PyData.int).length 0 none = 0 := rfl
    have e1 : HT.sIx (ns.map PyData.int).length (ns.map PyData.int).length (some 63) = min (ns.map PyData.int).length 63 := by
      simp [HT.sIx]
      omega
    rw [e0, e1, List.drop_zero, Nat.sub_zero]
    rcases Nat.le_total (ns.map PyData.int).length 63 with h | h
    · rw [Nat.min_eq_left h, List.take_of_length_le (Nat.le_refl _), List.take_of_length_le h]
    · rw [Nat.min_eq_right h]
  have l63 : (ns.take 63).length ≤ 63 := by rw [List.length_take]; omega
  refine ⟨[lI' ((ns.take 63).map fun n => if n < 0 then -n else n), .int 0, .int 0, .int (1823 + 61 * ((ns.take 63).length : Nat)), .int 0], ?_, ⟨_, _, _, _, _, rfl, Int.le_refl _⟩⟩
  unfold P__law_hand
  simp only [asPart, R.bind_ok, e, seqOf_list]
  rw [lcR_map PyData.int (fun n => .int (if n < 0 then -n else n)) (by omega) (fun n _ => rfl)]
  simp only [R.bind_ok, pLen_list, List.length_map]
  rw [pMulA_l (by decide)]
  simp only [R.bind_ok, pAddA_int, lI', List.map_map]
  rfl
end G
end
section
/-! K83B: who has more. -/
namespace G
open PySem PySem.Spec PD L2 Evl
abbrev tL (l : List Int) : PyData := .tuple (l.map PyData.int)
def Lot (d : PyData) (lot : List Int) : Prop := d = .tuple (lot.map PyData.int) ∨ d = .list (lot.map PyData.int)
theorem seq_lot {d : PyData} {lot : List Int} (h : Lot d lot) : seqOf d = .ok (lot.map PyData.int) := by rcases h with rfl | rfl <;> rfl
def seatAt (ss : List Int) (x : Int) : Int := (ss[x.toNat]?).getD 0
/-- whether the lot has more than half -/
def moreB (ss lot : List Int) : Bool := decide (ss.sum < 2 * (lot.map (seatAt ss)).sum)
theorem ix_seat {ss : List Int} {x : Int} (h : 0 ≤ x ∧ x < ss.length) : pIx (tL ss) (.int x) = .ok (.int (seatAt ss x)) := by
  obtain ⟨k, rfl⟩ : ∃ k : Nat, x = k := ⟨x.toNat, by omega⟩
  have hk : k < ss.length := by omega
  refine pIx_tuple (atI_nat' ?_)
  unfold seatAt
  rw [List.getElem?_map, Int.toNat_natCast, List.getElem?_eq_getElem hk]
  rfl
theorem pSum_tup (ns : List Int) : pSum [tL ns] = .ok (.int ns.sum) := by
  show (R.get (intsD (ns.map PyData.int)) >>= fun ns => R.ok (PyData.int ns.sum)) = _
  rw [intsD_map]
  rfl
theorem f_more {ss lot : List Int} {d : PyData} (h : Lot d lot) (hl : lot.length ≤ 100000) (hi : ∀ x ∈ lot, 0 ≤ x ∧ x < ss.length) : P_has_more (tL ss) d = .ok (.bool (moreB ss lot)) := by
  unfold P_has_more
  rw [seq_lot h]
  simp only [bok]
  rw [lcR_map PyData.int (fun x => .int (seatAt ss x)) hl (fun x hx => by rw [ix_seat (hi x hx), bok])]
  have e : (lot.map fun x => PyData.int (seatAt ss x)) = (lot.map (seatAt ss)).map PyData.int := by rw [List.map_map]; rfl
  rw [e]
  simp only [bok]
  rw [pSum_ints, bok, pMulA_l (by decide), bok, pSum_tup, bok, pGt_int]
  rfl
theorem f_wins {ss lot : List Int} {d : PyData} (h : Lot d lot) (hl : lot.length ≤ 100000) (hi : ∀ x ∈ lot, 0 ≤ x ∧ x < ss.length) : P__law_wins (tL ss) d = .ok (.bool (moreB ss lot)) := f_more h hl hi
end G
end
section
/-! K83C: all lots. -/
namespace G
open PySem PySem.Spec PD L2 Evl
def nxL (l : List Int) : Int := match l.getLast? with
  | some x => x + 1
  | none => 0
/-- a, .., n - 1 -/
def rgF (a : Int) (n : Nat) : List Int := (List.range ((n : Int) - a).toNat).map fun (k : Nat) => a + (k : Int)
/-- the lots of so many, ascending -/
def lotsN (n : Nat) : Nat → List (List Int)
  | 0 => [[]]
  | k + 1 => (lotsN n k).flatMap fun l => (rgF (nxL l) n).map fun x => l ++ [x]
/-- all lots, as the law comes to them -/
def foundN : Nat → List (List Int)
  | 0 => [[]]
  | m + 1 => foundN m ++ (foundN m).map fun l => l ++ [(m : Int)]
/-- all lots, shorter ones first, then ascending -/
def everyN (n : Nat) : List (List Int) := (List.range (n + 1)).flatMap (lotsN n)
theorem mem_rgF {a x : Int} {n : Nat} (h : x ∈ rgF a n) : a ≤ x ∧ x < n := by
  unfold rgF at h
  obtain ⟨k, hk, rfl⟩ := List.mem_map.mp h
  have := List.mem_range.mp hk
  omega
theorem length_rgF (a : Int) (n : Nat) : (rgF a n).length = ((n : Int) - a).toNat := by unfold rgF; rw [List.length_map, List.length_range]
/-- what a lot of so many is -/
theorem lots_are (n : Nat) : ∀ (k : Nat) (l : List Int), l ∈ lotsN n k → l.length = k ∧ (∀ x ∈ l, 0 ≤ x ∧ x < n) ∧ l.Pairwise (· < ·) ∧ 0 ≤ nxL l ∧ ∀ x ∈ l, x < nxL l
  | 0, l, h => by
    have : l = [] := by simpa [lotsN] using h
    subst this
    simp [nxL]
  | k + 1, l, h => by
    unfold lotsN at h
    obtain ⟨l0, h0, h1⟩ := List.mem_flatMap.mp h
    obtain ⟨x, hx, rfl⟩ := List.mem_map.mp h1
    obtain ⟨a1, a2, a3, a4, a5⟩ := lots_are n k l0 h0
    obtain ⟨b1, b2⟩ := mem_rgF hx
    have e : nxL (l0 ++ [x]) = x + 1 := by unfold nxL; rw [List.getLast?_append]; rfl
    refine ⟨by rw [List.length_append, a1]; rfl, fun y hy => ?_, ?_, by rw [e]; omega, fun y hy => ?_⟩
    · rcases List.mem_append.mp hy with hy | hy
      · exact a2 y hy
      · rw [List.mem_singleton.mp hy]
        omega
    · refine List.pairwise_append.mpr ⟨a3, List.pairwise_singleton _ _, fun y hy z hz => ?_⟩
      rw [List.mem_singleton.mp hz]
      have := a5 y hy
      omega
    · rw [e]
      rcases List.mem_append.mp hy with hy | hy
      · have := a5 y hy
        omega
      · rw [List.mem_singleton.mp hy]
        omega
theorem lots_few : ∀ n : Fin 8, ∀ k : Fin 9, (lotsN n.val k.val).length ≤ 64 := by decide +kernel
theorem rng2_ok {a : Int} {n : Nat} (h : 0 ≤ a) (h2 : a < 4611686018427387904) (h3 : n < 4611686018427387904) : rng2 [.int a, .int (n : Int)] = .ok ((rgF a n).map PyData.int) := by
  show in62 a (in62 (n : Int) (R.ok (numsFrom a ((n : Int) - a).toNat))) = _
  unfold in62
  rw [if_pos (by omega), if_pos (by omega)]
  unfold numsFrom rgF
  rw [List.map_map]
  rfl
theorem last_ix {ds : List PyData} {d : PyData} (h : ds.getLast? = some d) : atI ds (-1) = some d := by
  have hl : 0 < ds.length := by
    cases ds with
    | nil => cases h
    | cons => simp
  unfold atI ixN
  rw [if_neg (by omega), if_pos (by omega)]
  show ds[((-1 : Int) + ds.length).toNat]? = some d
  rw [← h, List.getLast?_eq_getElem?]
  congr 1
  omega
/-- one more in each lot -/
theorem next_lots {n i : Nat} (hn : n ≤ 7) (hi : i ≤ 7) : (seqOf (PyData.list ((lotsN n i).map tL)) >>= fun v17 => lcR2 (fun x5 => (((((pLen [x5] >>= fun v9 => pGt v9 (PyData.int 0)) >>= fun v10 => asB v10) >>= fun b13 => if b13 = true then ((pNeg (PyData.int 1) >>= fun v11 => pIx x5 v11) >>= fun v12 => pAddA v12 (PyData.int 1)) else .ok (PyData.int 0)) >>= fun v14 => rng2 [v14, PyData.int (n : Int)]) >>= fun v16 => lc20 (fun x7 => (pAddA x5 (PyData.tuple [x7]) >>= fun v15 => .ok (some v15))) v16)) v17) = .ok ((lotsN n (i + 1)).map tL) := by
  rw [seqOf_list, bok, lcR2_flat tL tL (fun l => (rgF (nxL l) n).map fun x => l ++ [x]) (Nat.le_trans (lots_few ⟨n, by omega⟩ ⟨i, by omega⟩) (by decide)) (fun l hl => ?_)]
  · rfl
  obtain ⟨a1, a2, a3, a4, a5⟩ := lots_are n i l hl
  have e : ((((pLen [tL l] >>= fun v9 => pGt v9 (PyData.int 0)) >>= fun v10 => asB v10) >>= fun b13 => if b13 = true then ((pNeg (PyData.int 1) >>= fun v11 => pIx (tL l) v11) >>= fun v12 => pAddA v12 (PyData.int 1)) else R.ok (PyData.int 0)) : R PyData) = .ok (.int (nxL l)) := by
    simp only [pLen_tuple, bok, pGt_int, asB_bool, pNeg_int, List.length_map]
    cases hg : l.getLast? with
    | none =>
      have : l = [] := List.getLast?_eq_none_iff.mp hg
      subst this
      rfl
    | some y =>
      have hp : 0 < l.length := by
        cases l with
        | nil => cases hg
        | cons => simp
      rw [if_pos (by simpa using hp), pIx_tuple (last_ix (d := .int y) (by rw [List.getLast?_map, hg]; rfl))]
      simp only [bok, pAddA_int]
      unfold nxL
      rw [hg]
  rw [e]
  have nl : nxL l ≤ n := by
    unfold nxL
    cases hg : l.getLast? with
    | none => simp
    | some y =>
      have := a2 y (List.mem_of_getLast? hg)
      show y + 1 ≤ n
      omega
  rw [bok, rng2_ok a4 (by omega) (by omega), bok]
  rw [lc20_map PyData.int (fun x => tL (l ++ [x])) (by rw [length_rgF]; omega) (fun x _ => ?_)]
  · rw [List.map_map]
    rfl
  · rw [pAddA_tuple (by rw [List.length_map, a1]; simp; omega)]
    simp [tL]
end G
end
section
/-! K83D: all lots of the package. -/
namespace G
open PySem PySem.Spec PD L2 Evl
def upto (n i : Nat) : List (List Int) := (List.range (i + 1)).flatMap (lotsN n)
theorem upto_succ (n i : Nat) : upto n (i + 1) = upto n i ++ lotsN n (i + 1) := by
  unfold upto
  rw [List.range_succ (n := i + 1), List.flatMap_append]
  simp
theorem upto_few : ∀ n : Fin 8, ∀ i : Fin 9, (upto n.val i.val).length ≤ 200 := by decide +kernel
def allStep (n : Nat) : PyData → PyData × PyData → R (PyData × PyData) := fun x2 s3 => (((seqOf s3.2 >>= fun v17 => lcR2 (fun x5 => (((((pLen [x5] >>= fun v9 => pGt v9 (PyData.int 0)) >>= fun v10 => asB v10) >>= fun b13 => if b13 = true then ((pNeg (PyData.int 1) >>= fun v11 => pIx x5 v11) >>= fun v12 => pAddA v12 (PyData.int 1)) else .ok (PyData.int 0)) >>= fun v14 => rng2 [v14, PyData.int (n : Int)]) >>= fun v16 => lc20 (fun x7 => (pAddA x5 (PyData.tuple [x7]) >>= fun v15 => .ok (some v15))) v16)) v17) >>= fun v18 => .ok (PyData.list v18)) >>= fun u19 =>
    (pAddA s3.1 u19 >>= fun u20 => .ok (u20, u19)))
theorem f_all {n : Nat} (hn : n ≤ 7) : P_all_lots (.int n) = .ok (.list ((upto n n).map tL)) := by
  unfold P_all_lots
  rw [rng1_ok (by omega)]
  simp only [bok]
  obtain ⟨s', h1, h2⟩ := forP_inv (step := allStep n) (fun i s => i ≤ n → s = (.list ((upto n i).map tL), .list ((lotsN n i).map tL))) (xs := (rgI n).map PyData.int) (fun i x hx s hs => by
    have ik : i < n := by
      have := (List.getElem?_eq_some_iff.mp hx).1
      rwa [List.length_map, length_rgI] at this
    refine ⟨_, ?_, fun _ => rfl⟩
    rw [hs (by omega)]
    unfold allStep
    have l1 := upto_few ⟨n, by omega⟩ ⟨i, by omega⟩
    have l2 := lots_few ⟨n, by omega⟩ ⟨i + 1, by omega⟩
    simp only at l1 l2
    rw [next_lots hn (by omega), bok, bok, pAddA_list (by rw [List.length_map, List.length_map]; omega), bok, upto_succ, List.map_append]) (.list [.tuple []], .list [.tuple []]) (fun _ => rfl)
  show (forP (allStep n) ((rgI n).map PyData.int) (.list [.tuple []], .list [.tuple []]) >>= fun u47 => R.ok u47.1) = _
  rw [h1, bok, h2 (by rw [List.length_map, length_rgI]; exact Nat.le_refl _), List.length_map, length_rgI]
end G
end
section
/-! K83E: the law's own lots. -/
namespace G
open PySem PySem.Spec PD L2 Evl
theorem found_len : ∀ m, (foundN m).length = 2 ^ m
  | 0 => rfl
  | m + 1 => by unfold foundN; rw [List.length_append, List.length_map, found_len m, Nat.pow_succ]; omega
theorem found_short : ∀ m, ∀ l ∈ foundN m, l.length ≤ m
  | 0, l, h => by have : l = [] := by simpa [foundN] using h
                  rw [this]; simp
  | m + 1, l, h => by
    unfold foundN at h
    rcases List.mem_append.mp h with h | h
    · have := found_short m l h
      omega
    · obtain ⟨l0, h0, rfl⟩ := List.mem_map.mp h
      have := found_short m l0 h0
      simp
      exact this
abbrev pL (l : List Int) : PyData := .tuple [.int (l.length : Nat), tL l]
def ltK (a b : List Int) : Bool := if a.length = b.length then decide (a < b) else decide (a.length < b.length)
theorem alike_ints' (xs ys : List Int) : PySem.W.alikeAll (xs.map .int) (ys.map .int) = true := PySem.W.alike_ints xs ys
theorem alike_pL (a b : List Int) : PySem.W.alike (pL a) (pL b) = true := by
  simp [PySem.W.alike, PySem.W.alikeAll, PySem.W.alike_ints]
theorem depth_pL (a : List Int) : (pL a).depth ≤ 40 := by
  simp [PyData.depth, PyData.depthAll, PySem.W.depth_ints]
theorem nd_pL (ls : List (List Int)) : nd.ndAll (ls.map pL) = true := by
  induction ls with
  | nil => rfl
  | cons l ls ih =>
    simp [nd.ndAll, nd, nd_ints]
    simpa using ih
theorem sorts_pL (ls : List (List Int)) : sortsD (ls.map pL) = true := by
  unfold sortsD
  rw [nd_pL, Bool.true_and, Bool.and_eq_true]
  refine ⟨?_, ?_⟩
  · rw [List.all_eq_true]
    intro d hd
    obtain ⟨l, _, rfl⟩ := List.mem_map.mp hd
    rfl
  · rw [List.all_eq_true]
    intro d hd
    obtain ⟨l, _, rfl⟩ := List.mem_map.mp hd
    rw [List.all_eq_true]
    intro d' hd'
    obtain ⟨l', _, rfl⟩ := List.mem_map.mp hd'
    rw [alike_pL, Bool.true_and]
    exact decide_eq_true (depth_pL l)
theorem lt_pL (a b : List Int) : PySem.W.dataLt (pL a) (pL b) = ltK a b := by
  rw [PySem.W.dataLt_pair (by simp [PySem.W.alike]) (by simp [PySem.W.alike, PySem.W.alike_ints])]
  unfold ltK
  have e1 : PyData.eqv (.int (a.length : Nat)) (.int (b.length : Nat)) = decide (a.length = b.length) := by
    simp [PyData.eqv, beq_int]
    omega
  rw [e1]
  by_cases z : a.length = b.length
  · rw [if_pos (by simpa using z), if_pos z, PySem.W.dataLt_tuple]
    have e3 : PyProof.Rows.lexLt PyProof.Rows.itemOrd (PySem.W.keyToksAll (a.map PyData.int)) (PySem.W.keyToksAll (b.map PyData.int)) = decide (a < b) := PySem.W.dataLt_ints a b
    rw [e3]
    by_cases y : PyData.eqv (tL a) (tL b) = true
    · rw [if_pos y]
      have : PySem.W.keyToks (tL a) = PySem.W.keyToks (tL b) := (PySem.W.toks_eqv _ _ (by simp [PySem.W.alike, PySem.W.alike_ints])).1 y
      have e4 : PySem.W.dataLt (tL a) (tL b) = false := by
        unfold PySem.W.dataLt
        rw [this]
        exact PyProof.Rows.lex_irrefl _
      rw [PySem.W.dataLt_tuple, e3] at e4
      exact e4.symm
    · rw [if_neg y]
  · rw [if_neg (by simpa using z), if_neg z, PySem.W.dataLt_int]
    simp
/-- the law's order is that of ltK -/
theorem srt_pL {ls ms : List (List Int)} (hp : ls.Perm ms) (hs : ms.Pairwise fun a b => ltK a b = true ∧ ltK b a = false) : srtD (ls.map pL) = ms.map pL := by
  unfold srtD
  have le : ∀ a b : List Int, PySem.W.dataLe false id (pL a) (pL b) = !ltK b a := fun a b => by
    rw [PySem.W.dataLe_eq]
    show (!PySem.W.dataLt (pL b) (pL a)) = _
    rw [lt_pL]
  refine List.Perm.eq_of_pairwise (le := fun a b => PySem.W.dataLe false id a b = true) (fun a b ha hb h1 h2 => ?_) (PySem.W.sort_pairwise (PySem.W.sortLe_total _ _ _) _) ?_ ((List.mergeSort_perm _ _).trans (hp.map pL))
  · obtain ⟨x, hx, rfl⟩ := List.mem_map.mp ((List.mergeSort_perm _ _).mem_iff.mp ha)
    obtain ⟨y, hy, rfl⟩ := List.mem_map.mp hb
    rw [le] at h1 h2
    have hx := hp.mem_iff.mp hx
    by_cases z : x = y
    · rw [z]
    · exfalso
      have key : ∀ {l : List (List Int)}, (l.Pairwise fun a b => ltK a b = true ∧ ltK b a = false) → x ∈ l → y ∈ l → ltK x y = true ∨ ltK y x = true := by
        intro l hl hx' hy'
        have hx := hx'
        have hy := hy'
        clear hx' hy'
        revert hx hy
        induction l with
        | nil => intro hx; cases hx
        | cons c l ih =>
          intro hx1 hy1
          obtain ⟨p1, p2⟩ := List.pairwise_cons.mp hl
          rcases List.mem_cons.mp hx1 with ex | hx2
          · rcases List.mem_cons.mp hy1 with ey | hy2
            · exact absurd (ex.trans ey.symm) z
            · rw [ex]
              exact .inl (p1 y hy2).1
          · rcases List.mem_cons.mp hy1 with ey | hy2
            · rw [ey]
              exact .inr (p1 x hx2).1
            · exact ih p2 hx2 hy2
      rcases key hs hx hy with k | k
      · rw [k] at h2
        cases h2
      · rw [k] at h1
        cases h1
  · refine List.pairwise_map.mpr (hs.imp fun {a b} h => ?_)
    show PySem.W.dataLe false id (pL a) (pL b) = true
    rw [le, h.2]
    rfl
theorem perm_tab : ∀ n : Fin 8, (foundN n.val).isPerm (everyN n.val) = true := by decide +kernel
def pwB : List (List Int) → Bool
  | [] => true
  | a :: l => (l.all fun b => ltK a b && !ltK b a) && pwB l
theorem pw_of : ∀ {l : List (List Int)}, pwB l = true → l.Pairwise fun a b => ltK a b = true ∧ ltK b a = false
  | [], _ => .nil
  | a :: l, h => by
    unfold pwB at h
    rw [Bool.and_eq_true, List.all_eq_true] at h
    refine List.pairwise_cons.mpr ⟨fun b hb => ?_, pw_of h.2⟩
    have := h.1 b hb
    rw [Bool.and_eq_true, Bool.not_eq_true'] at this
    exact this
theorem pw_tab : ∀ n : Fin 8, pwB (everyN n.val) = true := by decide +kernel
theorem f_llots {n : Nat} (h1 : 0 < n) (hn : n ≤ 7) : P__law_lots (.list ((rgI n).map PyData.int)) = .ok ((everyN n).map tL) := by
  unfold P__law_lots
  rw [seqOf_list]
  simp only [bok]
  have pw6 : ∀ i, i ≤ n → 2 ^ i ≤ 128 := fun i hi => Nat.pow_le_pow_right (n := 2) (by decide) (show i ≤ 7 by omega)
  obtain ⟨s', e1, e2⟩ := forP_inv (step := fun x2 s3 => (((seqOf s3 >>= fun v8 => lcR (fun x5 => (pAddA x5 (PyData.tuple [x2]) >>= fun v7 => .ok (some v7))) v8) >>= fun v9 => .ok (PyData.list v9)) >>= fun v10 => pAddA s3 v10))
    (fun i s => i ≤ n → s = .list ((foundN i).map tL)) (xs := (rgI n).map PyData.int) (fun i x hx s hs => by
      have ik : i < n := by
        have := (List.getElem?_eq_some_iff.mp hx).1
        rwa [List.length_map, length_rgI] at this
      have ex : x = .int (i : Nat) := by
        unfold rgI at hx
        rw [List.map_map, List.getElem?_map, List.getElem?_range ik] at hx
        exact (Option.some.inj hx).symm
      subst ex
      refine ⟨_, ?_, fun _ => rfl⟩
      rw [hs (by omega)]
      have l1 := found_len i
      have l2 := pw6 i (by omega)
      simp only [seqOf_list, bok]
      rw [lcR_map tL (fun l => tL (l ++ [(i : Int)])) (by omega) (fun l hl => by
        have := found_short i l hl
        rw [pAddA_tuple (by rw [List.length_map]; simp; omega)]
        simp [tL])]
      simp only [bok]
      rw [pAddA_list (by rw [List.length_map, List.length_map]; omega)]
      have ef : foundN (i + 1) = foundN i ++ (foundN i).map fun l => l ++ [(i : Int)] := rfl
      rw [ef, List.map_append, List.map_map]
      rfl) (.list [.tuple []]) (fun _ => rfl)
  rw [e1]
  rw [e2 (by rw [List.length_map, length_rgI]; exact Nat.le_refl _), List.length_map, length_rgI]
  have l1 := found_len n
  have l2 := pw6 n (Nat.le_refl _)
  simp only [bok, seqOf_list]
  rw [lcR_map tL pL (by omega) (fun l _ => by simp only [pLen_tuple, bok, List.length_map])]
  simp only [bok]
  have e3 : pSrt [.list ((foundN n).map pL)] = .ok ((everyN n).map pL) := by
    have hne : intsD ((foundN n).map pL) = none := by
      cases hf : foundN n with
      | nil => rw [hf] at l1; have := Nat.pow_pos (n := n) (show 0 < 2 by decide); simp at l1; omega
      | cons l ls => rfl
    show (match intsD ((foundN n).map pL) with
      | some ns => R.ok ((srtI ns).map PyData.int)
      | none => if sortsD ((foundN n).map pL) = true then R.ok (srtD ((foundN n).map pL)) else .bad) = _
    rw [hne]
    show (if sortsD ((foundN n).map pL) = true then R.ok (srtD ((foundN n).map pL)) else .bad) = _
    rw [if_pos (sorts_pL _), srt_pL (List.isPerm_iff.mp (perm_tab ⟨n, by omega⟩)) (pw_of (pw_tab ⟨n, by omega⟩))]
  rw [e3]
  simp only [bok, seqOf_list]
  have l3 : (everyN n).length = (foundN n).length := (List.isPerm_iff.mp (perm_tab ⟨n, by omega⟩)).length_eq.symm
  rw [lcR_map pL tL (by omega) (fun l _ => by simp only [un2_pair, bok])]
end G
end
section
/-! K83F: without one; both chambers. -/
namespace G
open PySem PySem.Spec PD L2 Evl
def outL (l : List Int) (x : Int) : List Int := l.filter fun y => !decide (y = x)
theorem f_without {l : List Int} (hl : l.length ≤ 100000) (x : Int) : P_without (tL l) (.int x) = .ok (tL (outL l x)) := by
  unfold P_without
  rw [seqOf_tuple, bok, lcR_filter PyData.int (fun y => !decide (y = x)) PyData.int hl (fun y _ => by
    rw [pNe_int, bok, asB_bool, bok]
    split <;> rfl), bok, bok]
  rfl
def bothB (one other lot : List Int) : Bool := moreB one lot && moreB other lot
theorem f_both {one other lot : List Int} {d : PyData} (h : Lot d lot) (hl : lot.length ≤ 100000) (he : other.length = one.length) (hi : ∀ x ∈ lot, 0 ≤ x ∧ x < one.length) : P_has_both (tL one) (tL other) d = .ok (.bool (bothB one other lot)) := by
  unfold P_has_both
  rw [f_more h hl hi, f_more h hl (by rw [he]; exact hi), bok, asB_bool, bok]
  unfold bothB
  cases moreB one lot <;> rfl
end G
end
section
/-! K83G: what is a lot. -/
namespace G
open PySem PySem.Spec PD L2 Evl
/-! lots -/
def risB (ns : List Int) : Bool := (ns.zip (ns.drop 1)).all fun p => decide (p.1 < p.2)
def lotB (n : Int) (ns : List Int) : Bool := risB ns && ns.all fun x => decide (0 ≤ x) && decide (x < n)
theorem f_isint (x : Int) : P_is_int (.int x) = .ok (.bool true) := by
  unfold P_is_int
  rw [isD_int (d := .int x) rfl, isD_bool (d := .int x) rfl]
  rfl
theorem f_within (x a b : Int) : P_is_within (.int x) (.int a) (.int b) = .ok (.bool (decide (a ≤ x) && decide (x ≤ b))) := by
  unfold P_is_within
  simp only [f_isint, R.bind_ok, asB_bool, if_true, pLe_int]
  cases decide (a ≤ x) <;> rfl
theorem cut1 (ds : List PyData) : cutP (.tuple ds) (some 1) none = .ok (.tuple (ds.drop 1)) := by
  show R.ok (PyData.tuple (cutD ds (some 1) none)) = _
  congr 2
  unfold cutD
  have e1 : HT.sIx ds.length ds.length none = ds.length := rfl
  have e0 : HT.sIx ds.length 0 (some 1) = min ds.length 1 := by
    simp [HT.sIx]
    omega
  rw [e0, e1]
  rcases Nat.lt_or_ge ds.length 1 with h | h
  · have : ds = [] := List.length_eq_zero_iff.mp (by omega)
    rw [this]
    rfl
  · rw [Nat.min_eq_right h, List.take_of_length_le (by rw [List.length_drop]; omega)]
theorem all_true {α : Type} (xs : List α) (p : α → Bool) : (xs.map p).all id = xs.all p := by rw [List.all_map]; rfl
theorem f_rising {ns : List Int} (hl : ns.length ≤ 100000) : P_is_rising (.tuple (ns.map PyData.int)) = .ok (.bool (risB ns)) := by
  unfold P_is_rising
  rw [isD_tuple (d := .tuple (ns.map PyData.int)) rfl]
  simp only [isTupB, R.bind_ok, asB_bool, Bool.not_true, Bool.false_eq_true, if_false, seqOf_tuple]
  rw [lcR_map PyData.int (fun _ => .bool true) hl (fun x _ => by simp only [f_isint, R.bind_ok])]
  have e : (ns.map fun _ => PyData.bool true) = (ns.map fun _ => true).map PyData.bool := by rw [List.map_map]; rfl
  rw [e]
  simp only [R.bind_ok, pAll_bools, all_true, asB_bool, asPart, cut1, zip2, seqOf_tuple]
  have e2 : (ns.all fun _ => true) = true := by simp
  rw [e2]
  simp only [Bool.not_true, Bool.false_eq_true, if_false]
  rw [← List.map_drop, zip_ints]
  rw [lcR_map qZ (fun p => .bool (decide (p.1 < p.2))) (by rw [List.length_zip]; omega) (fun p _ => by simp only [un2_pair, R.bind_ok, pLt_int])]
  have e3 : ((ns.zip (ns.drop 1)).map fun p => PyData.bool (decide (p.1 < p.2))) = ((ns.zip (ns.drop 1)).map fun p => decide (p.1 < p.2)).map PyData.bool := by rw [List.map_map]; rfl
  rw [e3]
  simp only [R.bind_ok, pAll_bools, all_true]
  rfl
theorem f_lot (n : Int) {ns : List Int} (hl : ns.length ≤ 100000) : P_is_lot (.int n) (.tuple (ns.map PyData.int)) = .ok (.bool (lotB n ns)) := by
  unfold P_is_lot lotB
  rw [f_rising hl]
  simp only [R.bind_ok, asB_bool, seqOf_tuple]
  cases risB ns with
  | false => rfl
  | true =>
    simp only [if_true, Bool.true_and]
    rw [lcR_map PyData.int (fun x => .bool (decide (0 ≤ x) && decide (x < n))) hl (fun x _ => by
      simp only [pLe_int, R.bind_ok, asB_bool, pLt_int]
      cases decide (0 ≤ x) <;> rfl)]
    have e : (ns.map fun x => PyData.bool (decide (0 ≤ x) && decide (x < n))) = (ns.map fun x => decide (0 ≤ x) && decide (x < n)).map PyData.bool := by rw [List.map_map]; rfl
    rw [e]
    simp only [R.bind_ok, pAll_bools, all_true]
/-- no tuple is no lot -/
theorem f_lot_no (n : Int) {d : PyData} (h1 : plainK d = true) (h2 : isTupB d = false) : P_is_lot (.int n) d = .ok (.bool false) := by
  unfold P_is_lot P_is_rising
  rw [isD_tuple h1, h2]
  rfl
theorem ris_of {ns : List Int} (h : ns.Pairwise (· < ·)) : risB ns = true := by
  unfold risB
  rw [List.all_eq_true]
  rintro ⟨a, b⟩ hm
  obtain ⟨i, hi, e⟩ := List.getElem_of_mem hm
  rw [List.getElem_zip] at e
  cases e
  rw [List.length_zip, List.length_drop] at hi
  simp only [decide_eq_true_eq, List.getElem_drop]
  exact List.pairwise_iff_getElem.mp h i (1 + i) (by omega) (by omega) (by omega)
theorem lot_of {n : Int} {ns : List Int} (h : ns.Pairwise (· < ·)) (h2 : ∀ x ∈ ns, 0 ≤ x ∧ x < n) : lotB n ns = true := by
  unfold lotB
  rw [ris_of h, Bool.true_and, List.all_eq_true]
  intro x hx
  have := h2 x hx
  simp [this.1, this.2]
end G
end
section
/-! K83H: the lots that win in both; swings; deadlocks. -/
namespace G
open PySem PySem.Spec PD L2 Evl
theorem every_mem {n : Nat} (hn : n ≤ 7) {l : List Int} (h : l ∈ everyN n) : l.length ≤ 7 ∧ (∀ x ∈ l, 0 ≤ x ∧ x < n) ∧ l.Pairwise (· < ·) := by
  unfold everyN at h
  obtain ⟨k, hk, h⟩ := List.mem_flatMap.mp h
  have := List.mem_range.mp hk
  obtain ⟨a, b, c, _⟩ := lots_are n k l h
  exact ⟨by omega, b, c⟩
theorem every_few {n : Nat} (hn : n ≤ 7) : (everyN n).length ≤ 200 := upto_few ⟨n, by omega⟩ ⟨n, by omega⟩
theorem nodup_of {l : List Int} (h : l.Pairwise (· < ·)) : l.Nodup := h.imp fun {a b} h => by omega
/-- two chambers -/
structure Two (n : Nat) (one other : List Int) : Prop where
  pos : 0 < n
  top : n ≤ 7
  l1 : one.length = n
  l2 : other.length = n
  check : P_check_two (tL one) (tL other) = .ok ()
theorem out_len {l : List Int} (x : Int) : (outL l x).length ≤ l.length := by unfold outL; exact List.length_filter_le _ _
theorem out_mem {l : List Int} {x y : Int} (h : y ∈ outL l x) : y ∈ l := by unfold outL at h; exact (List.mem_filter.mp h).1
section
variable {n : Nat} {one other : List Int}
theorem Two.both (T : Two n one other) {l : List Int} {d : PyData} (hd : Lot d l) (hl : l.length ≤ 7) (hi : ∀ x ∈ l, 0 ≤ x ∧ x < n) : P_has_both (tL one) (tL other) d = .ok (.bool (bothB one other l)) :=
  f_both hd (by omega) (by rw [T.l1, T.l2]) (by rw [T.l1]; exact hi)
theorem Two.outb (T : Two n one other) {l : List Int} (hl : l.length ≤ 7) (hi : ∀ x ∈ l, 0 ≤ x ∧ x < n) (x : Int) : (P_without (tL l) (.int x) >>= fun v => P_has_both (tL one) (tL other) v) = .ok (.bool (bothB one other (outL l x))) := by
  rw [f_without (by omega), bok]
  exact T.both (.inl rfl) (Nat.le_trans (out_len x) hl) fun y hy => hi y (out_mem hy)
def leastB (one other l : List Int) : Bool := bothB one other l && !l.any fun x => bothB one other (outL l x)
theorem f_least (T : Two n one other) : P_least_both (tL one) (tL other) = .ok (.list (((everyN n).filter (leastB one other)).map tL)) := by
  unfold P_least_both
  rw [T.check, bok, bok, pLen_tuple, List.length_map, T.l1, bok, f_all T.top, bok, seqOf_list, bok]
  refine bindL (forP_pre tL (fun pre => ((pre.filter (leastB one other)).map tL : List PyData)) (xs := everyN n) rfl rfl fun pre x post e => ?_) rfl
  have hx : x ∈ everyN n := by rw [e]; exact List.mem_append.mpr (.inr List.mem_cons_self)
  obtain ⟨a, b, c⟩ := every_mem T.top hx
  have lp : pre.length ≤ 200 := by
    have := every_few T.top
    rw [e, List.length_append] at this
    omega
  rw [T.both (.inl rfl) a b, bok, asB_bool, bok, List.filter_append, List.filter_cons, List.filter_nil]
  unfold leastB
  cases hb : bothB one other x with
  | false => simp [bok]
  | true =>
    rw [if_pos rfl, seqOf_tuple, bok, lcR_map PyData.int (fun y => .bool (bothB one other (outL x y))) (by omega) (fun y _ => by rw [T.outb a b, bok]), bok, bok, pAny_map, bok, asB_bool, bok, bok]
    cases x.any fun y => bothB one other (outL x y) with
    | true => simp
    | false =>
      simp only [Bool.not_false, Bool.and_self, if_true]
      have lf := List.length_filter_le (fun l => bothB one other l && !l.any fun x => bothB one other (outL l x)) pre
      rw [appP_ok _ (by rw [List.length_map]; omega), List.map_append]
      rfl
def swB (one other l : List Int) (x : Int) : Bool := bothB one other l && (decide (x ∈ l) && !bothB one other (outL l x))
def cntI (one other : List Int) (ls : List (List Int)) (k : Nat) : Int := ((ls.countP fun l => swB one other l (k : Nat)) : Nat)
def cntE (one other : List Int) (n : Nat) (ls : List (List Int)) : List PyData := (List.range n).map fun k => .int (cntI one other ls k)
def one01 (b : Bool) : Int := if b = true then 1 else 0
theorem cnt_more (ls : List (List Int)) (l : List Int) (k : Nat) : cntI one other (ls ++ [l]) k = cntI one other ls k + one01 (swB one other l k) := by
  unfold cntI one01
  rw [List.countP_append, List.countP_cons, List.countP_nil]
  cases swB one other l k <;> simp
theorem f_swings (T : Two n one other) : P_both_swings (tL one) (tL other) = .ok (.tuple (cntE one other n (everyN n))) := by
  have top := T.top
  unfold P_both_swings
  rw [T.check, bok, bok, pLen_tuple, List.length_map, T.l1, bok, pRep_list ⟨by omega, by omega, by simp⟩, bok, bok, f_all T.top, bok, seqOf_list, bok]
  refine bindL (forP_pre tL (cntE one other n) (xs := everyN n) ?_ rfl fun pre x post e => ?_) (pTuple_list _)
  · unfold cntE
    have e0 : ∀ m : Nat, (List.replicate m [PyData.int 0]).flatten = (List.range m).map fun k => PyData.int (cntI one other [] k) := fun m => by
      induction m with
      | zero => rfl
      | succ m ih => rw [List.replicate_succ', List.flatten_append, ih, List.range_succ, List.map_append]; rfl
    rw [Int.toNat_natCast]
    exact e0 n
  have hx : x ∈ everyN n := by rw [e]; exact List.mem_append.mpr (.inr List.mem_cons_self)
  obtain ⟨a, b, c⟩ := every_mem T.top hx
  have nd := nodup_of c
  rw [T.both (.inl rfl) a b, bok, asB_bool, bok]
  cases hb : bothB one other x with
  | false =>
    rw [if_neg Bool.false_ne_true]
    unfold cntE
    refine congrArg R.ok (List.map_congr_left fun k _ => ?_)
    rw [cnt_more]
    unfold swB one01
    rw [hb]
    simp
  | true =>
    rw [if_pos rfl, seqOf_tuple, bok]
    refine forP_pre PyData.int (fun p => ((List.range n).map fun k : Nat => PyData.int (cntI one other pre k + one01 (decide ((k : Int) ∈ p) && !bothB one other (outL x k))))) (xs := x) ?_ ?_ fun p y post2 e2 => ?_
    · unfold cntE
      refine List.map_congr_left fun k _ => ?_
      simp [one01]
    · unfold cntE
      refine List.map_congr_left fun k _ => ?_
      rw [cnt_more]
      unfold swB
      rw [hb, Bool.true_and]
    · have hy : y ∈ x := by rw [e2]; exact List.mem_append.mpr (.inr List.mem_cons_self)
      have hp : y ∉ p := fun z => by
        rw [e2] at nd
        exact (List.nodup_append.mp nd).2.2 y z y List.mem_cons_self rfl
      obtain ⟨y0, y1⟩ := b y hy
      obtain ⟨j, rfl⟩ : ∃ j : Nat, y = j := ⟨y.toNat, by omega⟩
      rw [T.outb a b, bok, asB_bool, bok, bok]
      cases hq : bothB one other (outL x j) with
      | true =>
        rw [Bool.not_true, if_neg Bool.false_ne_true]
        refine congrArg R.ok (List.map_congr_left fun k _ => ?_)
        by_cases z : k = j
        · subst z
          rw [hq]
          simp [one01]
        · have : ¬ ((k : Int) = (j : Int)) := by omega
          simp [List.mem_append, this]
      | false =>
        rw [Bool.not_false, if_pos rfl, augIx_ok (a := cntI one other pre j) (by
          rw [List.getElem?_map, List.getElem?_range (by omega)]
          simp [hp, one01]), set_range]
        refine congrArg R.ok (List.map_congr_left fun k _ => ?_)
        by_cases z : k = j
        · subst z
          rw [if_pos rfl, hq]
          simp [one01]
        · have : ¬ ((k : Int) = (j : Int)) := by omega
          rw [if_neg z]
          simp [List.mem_append, this]
def deadB (one other l : List Int) : Bool := moreB one l != moreB other l
theorem Two.more1 (T : Two n one other) {l : List Int} (h : l ∈ everyN n) : P_has_more (tL one) (tL l) = .ok (.bool (moreB one l)) := by
  obtain ⟨a, b, c⟩ := every_mem T.top h
  exact f_more (.inl rfl) (by omega) (by rw [T.l1]; exact b)
theorem Two.more2 (T : Two n one other) {l : List Int} (h : l ∈ everyN n) : P_has_more (tL other) (tL l) = .ok (.bool (moreB other l)) := by
  obtain ⟨a, b, c⟩ := every_mem T.top h
  exact f_more (.inl rfl) (by omega) (by rw [T.l2]; exact b)
theorem f_dead (T : Two n one other) : P_deadlocks (tL one) (tL other) = .ok (.int (((everyN n).filter (deadB one other)).length : Nat)) := by
  have few := every_few T.top
  unfold P_deadlocks
  rw [T.check, bok, bok, pLen_tuple, List.length_map, T.l1, bok, f_all T.top, bok, seqOf_list, bok]
  have e : upto n n = everyN n := rfl
  rw [e, lcR_filter tL (deadB one other) tL (by omega) (fun l hl => by
    rw [T.more1 hl, bok, T.more2 hl, bok, pNe_bool, bok, asB_bool, bok]
    unfold deadB
    split <;> rfl), bok, bok, pLen_list, List.length_map]
end
end G
end
section
/-! K83I: equal data; seats. -/
namespace G
open PySem PySem.Spec PD L2 Evl
theorem zip_self (ds : List PyData) : zipD ds ds = ds.map fun d => .tuple [d, d] := by
  unfold zipD
  induction ds with
  | nil => rfl
  | cons d ds ih => rw [List.zip_cons_cons, List.map_cons, List.map_cons, ih]
theorem same_int (k : Nat) (i : Int) : P__law_same (k + 1) (.int i) (.int i) = .ok (.bool true) := by
  unfold P__law_same
  have h : plainK (.int i) = true := rfl
  have e : pIsN (.int i) .none = .ok (.bool false) := rfl
  rw [isD_tuple h, isD_list h, isD_bool h, isD_int h]
  simp only [isTupB, isLstB, isBoolB, isIntB, e, bok, asB_bool, Bool.false_eq_true, if_false, if_true, pNe_bool, pEq_bool, pEq_int, decide_true, bne_self_eq_false, beq_self_eq_true]
theorem same_bool (k : Nat) (b : Bool) : P__law_same (k + 1) (.bool b) (.bool b) = .ok (.bool true) := by
  unfold P__law_same
  have h : plainK (.bool b) = true := rfl
  have e : pIsN (.bool b) .none = .ok (.bool false) := rfl
  rw [isD_tuple h, isD_list h, isD_bool h, isD_int h]
  simp only [isTupB, isLstB, isBoolB, isIntB, e, bok, asB_bool, Bool.false_eq_true, if_false, if_true, pNe_bool, pEq_bool, decide_true, bne_self_eq_false, beq_self_eq_true]
theorem same_seq (k : Nat) (d : PyData) (ds : List PyData) (hd : d = .tuple ds ∨ d = .list ds) (hl : ds.length ≤ 100000) (h : ∀ x ∈ ds, P__law_same k x x = .ok (.bool true)) : P__law_same (k + 1) d d = .ok (.bool true) := by
  have ez : zip2 [d, d] = .ok (ds.map fun d => .tuple [d, d]) := by
    rw [← zip_self]
    rcases hd with rfl | rfl <;> rfl
  have el : pLen [d] = .ok (.int ds.length) := by rcases hd with rfl | rfl <;> rfl
  have hp : plainK d = true := by rcases hd with rfl | rfl <;> rfl
  have hb : isTupB d = true ∨ isLstB d = true := by rcases hd with rfl | rfl; exact .inl rfl; exact .inr rfl
  unfold P__law_same
  rw [isD_tuple hp, isD_list hp, el, ez]
  simp only [bok, asB_bool]
  have e5 : (if isTupB d = true then R.ok true else R.ok (isLstB d)) = R.ok true := by
    rcases hb with hb | hb
    · rw [hb]
      rfl
    · rw [hb]
      split <;> rfl
  rw [e5]
  simp only [bok, if_true, pNe_bool, bne_self_eq_false, asB_bool, Bool.false_eq_true, if_false, pEq_int, decide_true]
  rw [lcR_map (fun d => PyData.tuple [d, d]) (fun _ => .bool true) hl (fun x hx => by rw [un2_pair, bok, h x hx, bok]), bok, bok, pAll_map]
  simp
theorem same_tL (k : Nat) (l : List Int) (hl : l.length ≤ 100000) : P__law_same (k + 2) (tL l) (tL l) = .ok (.bool true) := same_seq (k + 1) _ _ (.inl rfl) (by rw [List.length_map]; exact hl) fun x hx => by
  obtain ⟨i, _, rfl⟩ := List.mem_map.mp hx
  exact same_int k i
theorem same_lLs (k : Nat) (ls : List (List Int)) (hl : ls.length ≤ 100000) (h : ∀ l ∈ ls, l.length ≤ 100000) : P__law_same (k + 3) (.list (ls.map tL)) (.list (ls.map tL)) = .ok (.bool true) := same_seq (k + 2) _ _ (.inr rfl) (by rw [List.length_map]; exact hl) fun x hx => by
  obtain ⟨l, hm, rfl⟩ := List.mem_map.mp hx
  exact same_tL k l (h l hm)
/-! ### what are seats -/
theorem checks_gen {ds : List PyData} (w : PyData → Bool) (hl : ds.length ≤ 100000) (h : ∀ d ∈ ds, P_is_within d (.int 0) (.int 1000000) = .ok (.bool (w d))) (hf : ds.all w = false) : P_check_seats (.tuple ds) = .exc 0 := by
  unfold P_check_seats
  rw [isD_tuple (d := .tuple ds) rfl]
  simp only [isTupB, bok, asB_bool, Bool.not_true, Bool.false_eq_true, if_false, pLen_tuple, pLe_int]
  by_cases c : (1 : Int) ≤ (ds.length : Int) ∧ (ds.length : Int) ≤ 12
  · rw [decide_eq_true c.1, if_pos rfl, bok, asB_bool, bok, decide_eq_true c.2]
    simp only [Bool.not_true, bok, Bool.false_eq_true, if_false, seqOf_tuple]
    rw [show ds = ds.map id by simp, lcR_map id (fun d => .bool (w d)) hl (fun d hd => by
      show (P_is_within d (PyData.int 0) (PyData.int 1000000) >>= fun v10 => R.ok (some v10)) = _
      rw [h d hd, bok]), bok, bok, pAll_map, bok, asB_bool, bok, hf, Bool.not_false, bok, if_pos rfl]
    rfl
  · by_cases c1 : (1 : Int) ≤ (ds.length : Int)
    · have c2 : ¬ (ds.length : Int) ≤ 12 := fun z => c ⟨c1, z⟩
      rw [decide_eq_true c1, if_pos rfl, bok, asB_bool, bok, decide_eq_false c2]
      rfl
    · rw [decide_eq_false c1]
      rfl
def in6 (x : Int) : Bool := decide (0 ≤ x) && decide (x ≤ 1000000)
theorem checks_ints {ss : List Int} (hl : ss.length ≤ 100000) : P_check_seats (tL ss) = if (decide (1 ≤ ss.length) && (decide (ss.length ≤ 12) && (ss.all in6 && !decide (ss.sum = 0)))) = true then .ok () else .exc 0 := by
  unfold P_check_seats
  rw [isD_tuple (d := tL ss) rfl]
  simp only [isTupB, bok, asB_bool, Bool.not_true, Bool.false_eq_true, if_false, pLen_tuple, pLe_int, List.length_map]
  by_cases c1 : 1 ≤ ss.length
  · have c1' : (1 : Int) ≤ (ss.length : Int) := by omega
    rw [decide_eq_true c1', if_pos rfl, bok, asB_bool, bok, decide_eq_true c1, Bool.true_and]
    by_cases c2 : ss.length ≤ 12
    · have c2' : (ss.length : Int) ≤ 12 := by omega
      rw [decide_eq_true c2', decide_eq_true c2, Bool.true_and]
      simp only [Bool.not_true, bok, Bool.false_eq_true, if_false, seqOf_tuple]
      rw [lcR_map PyData.int (fun x => .bool (in6 x)) hl (fun x _ => by rw [f_within, bok]; rfl), bok, bok, pAll_map, bok, asB_bool, bok, bok]
      cases ss.all in6 with
      | false => rfl
      | true =>
        simp only [Bool.not_true, Bool.false_eq_true, if_false]
        rw [pSum_tup, bok, pEq_int, bok, asB_bool, bok]
        by_cases z : ss.sum = 0
        · simp [z]
        · simp [z]
    · have c2' : ¬ (ss.length : Int) ≤ 12 := by omega
      rw [decide_eq_false c2', decide_eq_false c2]
      rfl
  · have c1' : ¬ (1 : Int) ≤ (ss.length : Int) := by omega
    rw [decide_eq_false c1', decide_eq_false c1]
    rfl
/-- seats of a chamber, as drawn -/
structure Seats (n : Nat) (ss : List Int) : Prop where
  len : ss.length = n
  all : ∀ x ∈ ss, 0 ≤ x ∧ x ≤ 100
  some : 0 < ss.sum
theorem sum_nonneg : ∀ {ss : List Int}, (∀ x ∈ ss, 0 ≤ x) → 0 ≤ ss.sum
  | [], _ => by simp
  | x :: ss, h => by
    have := sum_nonneg fun y hy => h y (List.mem_cons_of_mem x hy)
    have := h x List.mem_cons_self
    rw [List.sum_cons]
    omega
theorem sum_ge : ∀ {ss : List Int} {y : Int}, (∀ x ∈ ss, 0 ≤ x) → y ∈ ss → y ≤ ss.sum
  | [], _, _, h => by cases h
  | x :: ss, y, h, hy => by
    have h1 := sum_nonneg fun y hy => h y (List.mem_cons_of_mem x hy)
    have h2 := h x List.mem_cons_self
    rw [List.sum_cons]
    rcases List.mem_cons.mp hy with rfl | hy
    · omega
    · have := sum_ge (fun y hy => h y (List.mem_cons_of_mem x hy)) hy
      omega
theorem f_checks {n : Nat} {ss : List Int} (S : Seats n ss) (h0 : 0 < n) (hn : n ≤ 12) : P_check_seats (tL ss) = .ok () := by
  have l := S.len
  rw [checks_ints (by omega), if_pos]
  have e1 : ss.all in6 = true := by
    rw [List.all_eq_true]
    intro x hx
    have := S.all x hx
    unfold in6
    rw [Bool.and_eq_true, decide_eq_true_eq, decide_eq_true_eq]
    omega
  have e2 := S.some
  rw [e1, decide_eq_true (show 1 ≤ ss.length by omega), decide_eq_true (show ss.length ≤ 12 by omega), decide_eq_false (show ¬ ss.sum = 0 by omega)]
  rfl
theorem two_of {n : Nat} {one other : List Int} (S1 : Seats n one) (S2 : Seats n other) (h0 : 0 < n) (hn : n ≤ 7) : Two n one other where
  pos := h0
  top := hn
  l1 := S1.len
  l2 := S2.len
  check := by
    unfold P_check_two
    rw [f_checks S1 h0 (by omega), bok, bok, f_checks S2 h0 (by omega), bok, bok, pLen_tuple, bok, pLen_tuple, bok, pNe_int, bok, asB_bool, bok, List.length_map, List.length_map, S1.len, S2.len, decide_eq_true rfl]
    rfl
theorem f_seats {h : List PyData} (H : Hand h) {n : Nat} (h0 : 0 < n) (hn : n ≤ 7) : ∃ ss h', P__law_seats h (.int n) = .ok (tL ss, h') ∧ Hand h' ∧ Seats n ss := by
  obtain ⟨ns, h1, e1, H1, q1, l1⟩ := lcS_each (f := fun x2 s4 => ((P__law_any s4 (PyData.list [(PyData.int 3), (PyData.int 8), (PyData.int 30)]) >>= fun p5 => P__law_draw p5.2 p5.1) >>= fun p6 => .ok ((some p6.1), p6.2))) Hand (fun i : Int => 0 ≤ i ∧ i ≤ 100) PyData.int (xs := (rgI n).map PyData.int) (by rw [List.length_map, length_rgI]; omega) (fun x _ s Hs => by
    obtain ⟨d, s1, a1, S1, m1⟩ := f_any Hs [.int 3, .int 8, .int 30] (by simp) (by simp)
    obtain ⟨k, rfl, k0, k1⟩ : ∃ k : Int, d = .int k ∧ 0 < k ∧ k ≤ 30 := by
      simp only [List.mem_cons, List.not_mem_nil, or_false] at m1
      rcases m1 with rfl | rfl | rfl
      · exact ⟨3, rfl, by decide, by decide⟩
      · exact ⟨8, rfl, by decide, by decide⟩
      · exact ⟨30, rfl, by decide, by decide⟩
    obtain ⟨i, s2, a2, S2, i0, i1⟩ := f_draw S1 (n := k) k0 (by omega)
    exact ⟨i, s2, by rw [a1, bok, a2, bok], S2, by omega, by omega⟩) h H
  rw [List.length_map, length_rgI] at l1
  unfold P__law_seats
  rw [rng1_ok (by omega), bok, bok, e1, bok, pSum_ints, bok, pEq_int, bok, asB_bool, bok]
  by_cases z : ns.sum = 0
  · obtain ⟨d, h2, e2, H2, d0, d1⟩ := f_draw H1 (n := 5) (by decide) (by decide)
    obtain ⟨j, h3, e3, H3, j0, j1⟩ := f_draw H2 (n := (n : Nat)) (by omega) (by omega)
    obtain ⟨k, rfl⟩ : ∃ k : Nat, j = k := ⟨j.toNat, by omega⟩
    have kl : k < ns.length := by omega
    refine ⟨ns.set k (1 + d), h3, ?_, H3, ?_⟩
    · rw [decide_eq_true z, if_pos rfl, e2, bok, pAddA_int, bok, bok, e3, bok, setIx_ok _ (by rw [List.length_map]; exact kl), bok, bok, bok, pTuple_list, bok]
      exact congrArg (fun l => R.ok (PyData.tuple l, h3)) List.map_set.symm
    · have all : ∀ x ∈ ns.set k (1 + d), 0 ≤ x ∧ x ≤ 100 := fun x hx => by
        rcases List.mem_or_eq_of_mem_set hx with hx | rfl
        · exact q1 x hx
        · omega
      refine ⟨by rw [List.length_set]; exact l1, all, ?_⟩
      have : (1 + d) ∈ ns.set k (1 + d) := List.mem_set kl _
      have := sum_ge (fun x hx => (all x hx).1) this
      omega
  · refine ⟨ns, h1, ?_, H1, l1, q1, ?_⟩
    · rw [decide_eq_false z, if_neg Bool.false_ne_true, bok, pTuple_list, bok]
    · have := sum_nonneg fun x hx => (q1 x hx).1
      omega
end G
end
section
/-! K83J: what is refused. -/
namespace G
open PySem PySem.Spec PD L2 Evl
/-- a thing so deep around another one -/
def Deep : Nat → PyData → Prop
  | 0, _ => True
  | k + 1, d => ∃ x, (d = .tuple [x] ∨ d = .list [x]) ∧ Deep k x
theorem Deep.less : ∀ {k : Nat} {d : PyData}, Deep (k + 1) d → Deep k d
  | 0, _, _ => trivial
  | k + 1, d, ⟨x, h, r⟩ => ⟨x, h, Deep.less r⟩
theorem Deep.min : ∀ {j k : Nat} {d : PyData}, Deep (j + k) d → Deep k d
  | 0, k, d, h => by rwa [Nat.zero_add] at h
  | j + 1, k, d, h => Deep.min (j := j) (Deep.less (by rwa [show j + 1 + k = j + k + 1 by omega] at h))
theorem f_deep {h : List PyData} (H : Hand h) (d0 : PyData) : ∃ d h', P__law_deep h d0 = .ok (d, h') ∧ Hand h' ∧ Deep 2 d := by
  obtain ⟨m, h1, e1, H1, m0, m1⟩ := f_draw H (n := 45) (by decide) (by decide)
  obtain ⟨k, hk⟩ : ∃ k : Nat, (5 : Int) + m = k := ⟨(5 + m).toNat, by omega⟩
  unfold P__law_deep
  rw [e1, bok, pAddA_int, bok, bok, hk, rng1_ok (by omega), bok, bok]
  obtain ⟨s', e2, H2, q⟩ := forP_inv (step := fun x5 s6 => (P__law_any s6.1 (PyData.list [(PyData.tuple [s6.2]), (PyData.list [s6.2])]) >>= fun u8 => .ok (u8.2, u8.1))) (fun i (s : List PyData × PyData) => Hand s.1 ∧ Deep i s.2) (xs := (rgI k).map PyData.int) (fun i x _ s hs => by
    obtain ⟨d, s1, a1, S1, m1⟩ := f_any hs.1 [.tuple [s.2], .list [s.2]] (by simp) (by simp)
    refine ⟨(s1, d), by rw [a1, bok], S1, s.2, ?_, hs.2⟩
    simpa using m1) (h1, d0) ⟨H1, trivial⟩
  rw [List.length_map, length_rgI] at q
  refine ⟨s'.2, s'.1, ?_, H2, Deep.min (j := k - 2) (by rwa [show k - 2 + 2 = k by omega])⟩
  rw [e2, bok]
theorem notint {d : PyData} (h : plainK d = true) (h2 : isIntB d = false ∨ isBoolB d = true) : P_is_int d = .ok (.bool false) := by
  unfold P_is_int
  rw [isD_int h, isD_bool h]
  simp only [bok, asB_bool]
  rcases h2 with e | e <;> rw [e]
  · rfl
  · cases isIntB d <;> rfl
theorem notwithin {d a b : PyData} (h : plainK d = true) (h2 : isIntB d = false ∨ isBoolB d = true) : P_is_within d a b = .ok (.bool false) := by
  unfold P_is_within
  rw [notint h h2]
  rfl
theorem checks_no {d : PyData} (h1 : plainK d = true) (h2 : isTupB d = false) : P_check_seats d = .exc 0 := by
  unfold P_check_seats
  rw [isD_tuple h1, h2]
  rfl
theorem checks_deep {d : PyData} (h : Deep 2 d) : P_check_seats d = .exc 0 := by
  obtain ⟨x, hd, y, hx, _⟩ := h
  rcases hd with rfl | rfl
  · refine checks_gen (fun _ => false) (by simp) (fun e he => ?_) rfl
    rw [List.mem_singleton.mp he]
    rcases hx with rfl | rfl <;> exact notwithin rfl (.inl rfl)
  · exact checks_no rfl rfl
def noS : List PyData := [.none, .int 0, .tuple [], tL [0, 0], .list [.int 1, .int 2], tL [-1, 2], .tuple [.bool true, .int 2], .tuple [.str "1", .int 2], tL [1000001, 1], .dict [], .tuple [.int 1, .none], tL (List.replicate 13 1)]
/-- the value of a test at what stands in a tuple -/
def w6 : PyData → Bool
  | .int x => in6 x
  | _ => false
theorem w6_int (x : Int) : P_is_within (.int x) (.int 0) (.int 1000000) = .ok (.bool (w6 (.int x))) := f_within x 0 1000000
theorem noS_all : ∀ d ∈ noS, P_check_seats d = .exc 0 := by
  intro d hd
  simp only [noS, List.mem_cons, List.not_mem_nil, or_false] at hd
  rcases hd with rfl | rfl | rfl | rfl | rfl | rfl | rfl | rfl | rfl | rfl | rfl | rfl
  · exact checks_no rfl rfl
  · exact checks_no rfl rfl
  · exact (checks_ints (ss := []) (by simp)).trans rfl
  · exact (checks_ints (ss := [0, 0]) (by simp)).trans rfl
  · exact checks_no rfl rfl
  · exact (checks_ints (ss := [-1, 2]) (by simp)).trans rfl
  · refine checks_gen w6 (by simp) (fun e he => ?_) rfl
    simp only [List.mem_cons, List.not_mem_nil, or_false] at he
    rcases he with rfl | rfl
    · exact notwithin rfl (.inr rfl)
    · exact w6_int 2
  · refine checks_gen w6 (by simp) (fun e he => ?_) rfl
    simp only [List.mem_cons, List.not_mem_nil, or_false] at he
    rcases he with rfl | rfl
    · exact notwithin rfl (.inl rfl)
    · exact w6_int 2
  · exact (checks_ints (ss := [1000001, 1]) (by simp)).trans rfl
  · exact checks_no rfl rfl
  · refine checks_gen w6 (by simp) (fun e he => ?_) rfl
    simp only [List.mem_cons, List.not_mem_nil, or_false] at he
    rcases he with rfl | rfl
    · exact w6_int 1
    · exact notwithin rfl (.inl rfl)
  · exact (checks_ints (ss := List.replicate 13 1) (by simp)).trans rfl
theorem f_noseats {h : List PyData} (H : Hand h) : ∃ d h', P__law_no_seats h = .ok (d, h') ∧ Hand h' ∧ P_check_seats d = .exc 0 := by
  obtain ⟨dd, h1, e1, H1, D1⟩ := f_deep H (.int 1)
  obtain ⟨d, h2, e2, H2, m⟩ := f_any H1 (noS ++ [dd]) (by simp) (by simp [noS])
  have ep : pPow (.int 10) (.int 6) = .ok (.int 1000000) := by simp [pPow]
  have em : pMulA (.tuple [.int 1]) (.int 13) = .ok (tL (List.replicate 13 1)) := by
    rw [pMulA_tuple (by simp)]
    rfl
  refine ⟨d, h2, ?_, H2, ?_⟩
  · unfold P__law_no_seats
    simp only [pNeg_int, bok, ep, pAddA_int, em, e1]
    exact e2
  · rcases List.mem_append.mp m with m | m
    · exact noS_all d m
    · rw [List.mem_singleton.mp m]
      exact checks_deep D1
theorem x_two {a b : PyData} (h : P_check_seats a = .exc 0) : P_check_two a b = .exc 0 := by
  unfold P_check_two
  rw [h, bexc, bexc]
theorem x_two2 {a b : PyData} (h1 : P_check_seats a = .ok ()) (h : P_check_seats b = .exc 0) : P_check_two a b = .exc 0 := by
  unfold P_check_two
  rw [h1, bok, bok, h, bexc, bexc]
/-- seats of another number of parties -/
theorem x_more {n : Nat} {one : List Int} (S : Seats n one) (h0 : 0 < n) (hn : n ≤ 7) : P_check_two (tL one) (tL (one ++ [1])) = .exc 0 := by
  have S2 : Seats (n + 1) (one ++ [1]) := by
    refine ⟨by rw [List.length_append, S.len]; rfl, fun x hx => ?_, by have := S.some; rw [List.sum_append]; simp; omega⟩
    rcases List.mem_append.mp hx with hx | hx
    · exact S.all x hx
    · rw [List.mem_singleton.mp hx]; decide
  unfold P_check_two
  rw [f_checks S h0 (by omega), bok, bok, f_checks S2 (by omega) (by omega), bok, bok, pLen_tuple, bok, pLen_tuple, bok, pNe_int, bok, asB_bool, bok, List.length_map, List.length_map, S.len, S2.len, decide_eq_false (by omega)]
  rfl
section
variable {a b o : PyData} {m : Nat}
theorem x_win (h : P_check_two a b = .exc m) : P_both_win a b o = .exc m := by unfold P_both_win; rw [h, bexc, bexc]
theorem x_least (h : P_check_two a b = .exc m) : P_least_both a b = .exc m := by unfold P_least_both; rw [h, bexc, bexc]
theorem x_swings (h : P_check_two a b = .exc m) : P_both_swings a b = .exc m := by unfold P_both_swings; rw [h, bexc, bexc]
theorem x_dead (h : P_check_two a b = .exc m) : P_deadlocks a b = .exc m := by unfold P_deadlocks; rw [h, bexc, bexc]
end
theorem word0 : saidP okF__law_word exF__law_word (.exc 0) = .ok (.str "seats") := rfl
theorem word1 : saidP okF__law_word exF__law_word (.exc 1) = .ok (.str "lot") := rfl
/-! ### lots -/
theorem lot_deep {n : Int} {d : PyData} (h : Deep 2 d) : P_is_lot (.int n) d = .ok (.bool false) := by
  obtain ⟨x, hd, y, hx, _⟩ := h
  rcases hd with rfl | rfl
  · unfold P_is_lot P_is_rising
    rw [isD_tuple (d := .tuple [x]) rfl]
    simp only [isTupB, bok, asB_bool, Bool.not_true, Bool.false_eq_true, if_false, seqOf_tuple]
    have e : lcR (fun x3 => (P_is_int x3 >>= fun v5 => R.ok (some v5))) [x] = .ok [.bool false] := lcR_map (α := PyData) id (fun _ => .bool false) (xs := [x]) (by simp) (fun z hz => by
      rw [List.mem_singleton.mp hz]
      show (P_is_int x >>= fun v5 => R.ok (some v5)) = _
      rcases hx with rfl | rfl <;> rw [notint rfl (.inl rfl), bok])
    rw [e]
    rfl
  · exact f_lot_no n rfl rfl
theorem lot_one {n : Int} {x : PyData} (h : P_is_int x = .ok (.bool false)) : P_is_lot (.int n) (.tuple [x]) = .ok (.bool false) := by
  unfold P_is_lot P_is_rising
  rw [isD_tuple (d := .tuple [x]) rfl]
  simp only [isTupB, bok, asB_bool, Bool.not_true, Bool.false_eq_true, if_false, seqOf_tuple]
  have e : lcR (fun x3 => (P_is_int x3 >>= fun v5 => R.ok (some v5))) [x] = .ok [.bool false] := lcR_map (α := PyData) id (fun _ => .bool false) (xs := [x]) (by simp) (fun z hz => by
    rw [List.mem_singleton.mp hz]
    show (P_is_int x >>= fun v5 => R.ok (some v5)) = _
    rw [h, bok])
  rw [e]
  rfl
def noL (n : Nat) : List PyData := [.none, .list [.int 0], tL [(n : Int)], tL [0, 0], .dict [], .tuple [.bool true], .tuple [.str "0"], tL [-1], .int 0]
theorem noL_all {n : Nat} : ∀ d ∈ noL n, P_is_lot (.int n) d = .ok (.bool false) := by
  intro d hd
  simp only [noL, List.mem_cons, List.not_mem_nil, or_false] at hd
  rcases hd with rfl | rfl | rfl | rfl | rfl | rfl | rfl | rfl | rfl
  · exact f_lot_no n rfl rfl
  · exact f_lot_no n rfl rfl
  · refine (f_lot n (ns := [(n : Int)]) (by simp)).trans ?_
    have : lotB n [(n : Int)] = false := by simp [lotB]
    rw [this]
  · exact f_lot n (ns := [0, 0]) (by simp)
  · exact f_lot_no n rfl rfl
  · exact lot_one (notint rfl (.inr rfl))
  · exact lot_one (notint rfl (.inl rfl))
  · refine (f_lot n (ns := [-1]) (by simp)).trans ?_
    have : lotB n [-1] = false := by simp [lotB]
    rw [this]
  · exact f_lot_no n rfl rfl
theorem x_lot {n : Nat} {one other : List Int} (T : Two n one other) {d : PyData} (h : P_is_lot (.int n) d = .ok (.bool false)) : P_both_win (tL one) (tL other) d = .exc 1 := by
  unfold P_both_win
  rw [T.check, bok, bok, pLen_tuple, List.length_map, T.l1, bok, h, bok, asB_bool, bok, bok]
  rfl
theorem f_win {n : Nat} {one other : List Int} (T : Two n one other) {l : List Int} (h : l ∈ everyN n) : P_both_win (tL one) (tL other) (tL l) = .ok (.bool (bothB one other l)) := by
  obtain ⟨a, b, c⟩ := every_mem T.top h
  unfold P_both_win
  rw [T.check, bok, bok, pLen_tuple, List.length_map, T.l1, bok, f_lot n (by omega), lot_of c b, bok, asB_bool, bok, bok, Bool.not_true, if_neg Bool.false_ne_true]
  exact T.both (.inl rfl) a b
end G
end
section
/-! K83K: the law's own answers. -/
namespace G
open PySem PySem.Spec PD L2 Evl
theorem rgL_ok {n : Nat} (h : n ≤ 100) : rgL1 (.int (n : Int)) = .ok ((rgI n).map PyData.int) := by
  show few62 0 (n : Int) (.ok (numsFrom 0 ((n : Int) - 0).toNat)) = _
  unfold few62
  rw [if_pos (by simp; omega)]
  unfold numsFrom rgI
  rw [show ((n : Int) - 0).toNat = n by omega, List.map_map]
  refine congrArg R.ok (List.map_congr_left fun k _ => ?_)
  show PyData.int (0 + (k : Int)) = .int (k : Int)
  rw [Int.zero_add]
theorem pNotIn_tuple (ns : List Int) (i : Int) : pNotIn (.int i) (.tuple (ns.map PyData.int)) = .ok (.bool (!decide (i ∈ ns))) := by
  show (if flatD (.int i) = true ∧ (ns.map PyData.int).all flatD = true then R.ok (PyData.bool (!(ns.map PyData.int).any fun z => PyData.eqv z (.int i))) else .bad) = _
  rw [if_pos ⟨rfl, flat_ints ns⟩, any_int]
section
variable {n : Nat} {one other : List Int}
theorem Two.dowin (T : Two n one other) {l : List Int} {d : PyData} (hd : Lot d l) (hl : l.length ≤ 7) (hi : ∀ x ∈ l, 0 ≤ x ∧ x < n) : P__law_do_win (tL one) (tL other) d = .ok (.bool (bothB one other l)) := by
  unfold P__law_do_win
  rw [f_wins hd (by omega) (by rw [T.l1]; exact hi), bok, asB_bool, bok, f_wins hd (by omega) (by rw [T.l2]; exact hi)]
  unfold bothB
  cases moreB one l <;> rfl
theorem Two.wins1 (T : Two n one other) {l : List Int} (h : l ∈ everyN n) : P__law_wins (tL one) (tL l) = .ok (.bool (moreB one l)) := T.more1 h
theorem Two.wins2 (T : Two n one other) {l : List Int} (h : l ∈ everyN n) : P__law_wins (tL other) (tL l) = .ok (.bool (moreB other l)) := T.more2 h
theorem Two.lout (T : Two n one other) {l : List Int} (hl : l.length ≤ 7) (hi : ∀ x ∈ l, 0 ≤ x ∧ x < n) (x : Int) : (((seqOf (tL l) >>= fun v28 => lcR (fun x24 => ((pNe x24 (.int x) >>= fun v26 => asB v26) >>= fun b27 => if b27 = true then .ok (some x24) else .ok none)) v28) >>= fun v29 => .ok (PyData.list v29)) >>= fun v30 => P__law_do_win (tL one) (tL other) v30) = .ok (.bool (bothB one other (outL l x))) := by
  rw [seqOf_tuple, bok, lcR_filter PyData.int (fun y => !decide (y = x)) PyData.int (by omega) (fun y _ => by
    rw [pNe_int, bok, asB_bool, bok]
    split <;> rfl), bok, bok]
  exact T.dowin (.inr rfl) (Nat.le_trans (out_len x) hl) fun y hy => hi y (out_mem hy)
def victN (one other : List Int) (n : Nat) : List (List Int) := (everyN n).filter (bothB one other)
theorem vict_mem {l : List Int} (h : l ∈ victN one other n) : l ∈ everyN n := (List.mem_filter.mp h).1
theorem vict_few (hn : n ≤ 7) : (victN one other n).length ≤ 200 := Nat.le_trans (List.length_filter_le _ _) (every_few hn)
theorem least_eq : (victN one other n).filter (fun l => !l.any fun x => bothB one other (outL l x)) = (everyN n).filter (leastB one other) := by
  unfold victN
  rw [List.filter_filter]
  refine List.filter_congr fun l _ => ?_
  unfold leastB
  exact Bool.and_comm _ _
theorem counts_eq : ((rgI n).map fun k => PyData.int (((victN one other n).filter fun l => decide (k ∈ l) && !bothB one other (outL l k)).length : Nat)) = cntE one other n (everyN n) := by
  unfold cntE rgI
  rw [List.map_map]
  refine List.map_congr_left fun k _ => ?_
  show PyData.int _ = PyData.int _
  unfold cntI victN
  rw [List.filter_filter, List.countP_eq_length_filter]
  congr 4
  funext l
  unfold swB
  exact Bool.and_comm _ _
theorem cnt_ints (ls : List (List Int)) : cntE one other n ls = ((List.range n).map fun k => cntI one other ls k).map PyData.int := by
  unfold cntE
  rw [List.map_map]
  rfl
def ansL (one other : List Int) (n : Nat) : List PyData := [.list (((everyN n).filter (leastB one other)).map tL), .tuple (cntE one other n (everyN n)), .int (((everyN n).filter (deadB one other)).length : Nat)]
theorem both_comm (l : List Int) : bothB other one l = bothB one other l := Bool.and_comm _ _
theorem ans_comm : ansL other one n = ansL one other n := by
  have e : bothB other one = bothB one other := funext both_comm
  have e1 : leastB other one = leastB one other := by funext l; unfold leastB; rw [e]
  have e2 : swB other one = swB one other := by funext l x; unfold swB; rw [e]
  have e3 : deadB other one = deadB one other := by
    funext l
    unfold deadB
    cases moreB one l <;> cases moreB other l <;> rfl
  unfold ansL cntE cntI
  rw [e1, e2, e3]
theorem ans_same (hn : n ≤ 7) : P__law_same 8 (.list (ansL one other n)) (.list (ansL one other n)) = .ok (.bool true) := by
  refine same_seq 7 _ _ (.inr rfl) (by simp [ansL]) fun d hd => ?_
  have few := every_few hn
  simp only [ansL, List.mem_cons, List.not_mem_nil, or_false] at hd
  rcases hd with rfl | rfl | rfl
  · exact same_lLs 4 _ (Nat.le_trans (List.length_filter_le _ _) (by omega)) fun l hl => by
      have := every_mem hn (List.mem_filter.mp hl).1
      omega
  · rw [cnt_ints]
    exact same_tL 5 _ (by rw [List.length_map, List.length_range]; omega)
  · exact same_int 6 _
theorem ans_ok : okD 3 (.list (ansL one other n)) = true := okD_list fun d hd => by
  simp only [ansL, List.mem_cons, List.not_mem_nil, or_false] at hd
  rcases hd with rfl | rfl | rfl
  · refine okD_list fun d hd => ?_
    obtain ⟨l, _, rfl⟩ := List.mem_map.mp hd
    exact okD_tL 0 l
  · rw [cnt_ints]
    exact okD_tL 1 _
  · exact okD_int 2 _
end
/-! ### a lot and the rest -/
theorem rest_tab : ∀ n : Fin 8, (everyN n.val).all (fun l => (everyN n.val).contains ((rgI n.val).filter fun x => !decide (x ∈ l))) = true := by decide +kernel
theorem self_tab : ∀ n : Fin 8, (everyN n.val).all (fun l => (rgI n.val).filter (fun x => decide (x ∈ l)) == l) = true := by decide +kernel
def restN (n : Nat) (l : List Int) : List Int := (rgI n).filter fun x => !decide (x ∈ l)
theorem rest_mem {n : Nat} (hn : n ≤ 7) {l : List Int} (h : l ∈ everyN n) : restN n l ∈ everyN n := by
  have := List.all_eq_true.mp (rest_tab ⟨n, by omega⟩) l h
  unfold restN
  simpa using this
theorem self_eq {n : Nat} (hn : n ≤ 7) {l : List Int} (h : l ∈ everyN n) : (rgI n).filter (fun x => decide (x ∈ l)) = l := by
  have := List.all_eq_true.mp (self_tab ⟨n, by omega⟩) l h
  exact eq_of_beq this
theorem sum_part (f : Int → Int) (p : Int → Bool) : ∀ xs : List Int, ((xs.filter p).map f).sum + ((xs.filter fun x => !p x).map f).sum = (xs.map f).sum
  | [] => rfl
  | x :: xs => by
    have ih := sum_part f p xs
    rw [List.filter_cons, List.filter_cons, List.map_cons, List.sum_cons]
    cases p x <;> simp <;> omega
theorem seats_all {n : Nat} {ss : List Int} (h : ss.length = n) : (rgI n).map (seatAt ss) = ss := by
  apply List.ext_getElem
  · rw [List.length_map, length_rgI, h]
  · intro i h1 h2
    unfold rgI seatAt
    simp [h2]
theorem not_both {n : Nat} {one other : List Int} (hn : n ≤ 7) (hl : one.length = n) {l : List Int} (h : l ∈ everyN n) (hb : bothB one other l = true) : bothB one other (restN n l) = false := by
  have p := sum_part (seatAt one) (fun x => decide (x ∈ l)) (rgI n)
  rw [self_eq hn h, seats_all hl] at p
  have m1 : moreB one l = true := (Bool.and_eq_true _ _ ▸ hb).1
  unfold moreB at m1
  rw [decide_eq_true_eq] at m1
  have m2 : moreB one (restN n l) = false := by
    unfold moreB restN
    rw [decide_eq_false_iff_not]
    omega
  unfold bothB
  rw [m2]
  rfl
theorem f_rest {n : Nat} (hn : n ≤ 7) {l : List Int} : (((rng1 [.int (n : Int)] >>= fun v175 => lcR (fun x171 => ((pNotIn x171 (tL l) >>= fun v173 => asB v173) >>= fun b174 => if b174 = true then .ok (some x171) else .ok none)) v175) >>= fun v176 => .ok (PyData.list v176)) >>= fun v177 => pTuple [v177]) = .ok (tL (restN n l)) := by
  rw [rng1_ok (by omega), bok, lcR_filter PyData.int (fun x => !decide (x ∈ l)) PyData.int (by rw [length_rgI]; omega) (fun x _ => by
    rw [pNotIn_tuple, bok, asB_bool, bok]
    split <;> rfl), bok, bok, pTuple_list]
  rfl
end G
end
section
/-! K83M: a turn. -/
namespace G
open PySem PySem.Spec PD L2 Evl
def wordsL : List PyData := [.str "seats", .str "seats", .str "lot", .str "seats", .str "seats", .str "seats", .str "seats", .str "seats", .str "seats"]
theorem eq_words : pEq (.list wordsL) (.list wordsL) = .ok (.bool true) := by
  simp [wordsL, pEq, plainD, nd, nd.ndAll, SeqAt.shaped, PyData.canLay0, PyData.canLayAll0, PyData.depth, PyData.depthAll, PyData.eqv, PyData.eqvAll]
  exact ⟨by decide +kernel, by decide +kernel⟩
theorem dead_same (n : Nat) (one : List Int) : (everyN n).filter (deadB one one) = [] := by
  rw [List.filter_eq_nil_iff]
  intro l _
  unfold deadB
  simp
theorem f_right {h : List PyData} (H : Hand h) {n : Nat} (h0 : 0 < n) (hn : n ≤ 7) : ∃ h', P__law_is_right h (.int n) = .ok (.bool true, h') ∧ Hand h' := by
  obtain ⟨one, h1, e1, H1, S1⟩ := f_seats H h0 hn
  obtain ⟨other, h2, e2, H2, S2⟩ := f_seats H1 h0 hn
  have T := two_of S1 S2 h0 hn
  have T' := two_of S2 S1 h0 hn
  have T1 := two_of S1 S1 h0 hn
  have few := every_few hn
  have vfew : (victN one other n).length ≤ 200 := vict_few hn
  obtain ⟨ls, h3, e3, H3, q3, l3⟩ := lcS_each (f := fun x159 s161 => (P__law_any s161 (.list ((everyN n).map tL)) >>= fun p162 => .ok ((some p162.1), p162.2))) Hand (fun l : List Int => l ∈ everyN n) tL (xs := (rgI 6).map PyData.int) (by rw [List.length_map, length_rgI]; decide) (fun x _ s Hs => by
    obtain ⟨d, s1, a1, A1, m1⟩ := f_any Hs ((everyN n).map tL) (by
      intro z
      have := List.isPerm_iff.mp (perm_tab ⟨n, by omega⟩)
      have := this.length_eq
      rw [found_len] at this
      have p := Nat.pow_pos (n := n) (show 0 < 2 by decide)
      rw [List.map_eq_nil_iff] at z
      simp only at this
      rw [z] at this
      simp at this) (by rw [List.length_map]; omega)
    obtain ⟨l, hl, rfl⟩ := List.mem_map.mp m1
    exact ⟨l, s1, by rw [a1, bok], A1, hl⟩) h2 H2
  obtain ⟨no, h4, e4, H4, N4⟩ := f_noseats H3
  obtain ⟨no2, h5, e5, H5, N5⟩ := f_noseats H4
  obtain ⟨bad, h6, e6, H6, m6⟩ := f_any H5 [no2, tL (one ++ [1])] (by simp) (by simp)
  obtain ⟨dd, h7, e7, H7, D7⟩ := f_deep H6 (.int 0)
  obtain ⟨odd, h8, e8, H8, m8⟩ := f_any H7 (noL n ++ [dd]) (by simp) (by simp [noL])
  have cNo : ∀ b, P_check_two no b = .exc 0 := fun b => x_two N4
  have cBad : P_check_two (tL one) bad = .exc 0 := by
    simp only [List.mem_cons, List.not_mem_nil, or_false] at m6
    rcases m6 with rfl | rfl
    · exact x_two2 (f_checks S1 h0 (by omega)) N5
    · exact x_more S1 h0 hn
  have cOdd : P_both_win (tL one) (tL other) odd = .exc 1 := by
    rcases List.mem_append.mp m8 with m | m
    · exact x_lot T (noL_all odd m)
    · rw [List.mem_singleton.mp m]
      exact x_lot T (lot_deep D7)
  refine ⟨h8, ?_, H8⟩
  unfold P__law_is_right
  rw [e1, bok, e2, bok, bok, un2_pair, bok, bok]
  dsimp only
  rw [rgL_ok (by omega), bok, bok, f_llots h0 hn, bok, bok]
  rw [seqOf_list, bok, lcR_filter tL (bothB one other) tL (xs := everyN n) (by omega) (fun l hl => by
    obtain ⟨a, b, c⟩ := every_mem hn hl
    rw [T.dowin (.inl rfl) a b, bok, asB_bool, bok]
    split <;> rfl), bok, bok]
  have ev : (everyN n).filter (bothB one other) = victN one other n := rfl
  rw [ev, seqOf_list, bok, lcR_filter tL (fun l => !l.any fun x => bothB one other (outL l x)) tL (xs := victN one other n) (by omega) (fun l hl => by
    obtain ⟨a, b, c⟩ := every_mem hn (vict_mem hl)
    rw [seqOf_tuple, bok, lcR_map PyData.int (fun x => .bool (bothB one other (outL l x))) (by omega) (fun x _ => by
      have := T.lout a b x
      rw [seqOf_tuple] at this
      rw [this, bok]), bok, bok, pAny_map, bok, asB_bool, bok, bok]
    split <;> rfl), bok, bok, least_eq]
  rw [rng1_ok (by omega), bok]
  refine bindL (forP_pre PyData.int (fun p => (p.map fun k => PyData.int (((victN one other n).filter fun l => decide (k ∈ l) && !bothB one other (outL l k)).length : Nat))) (xs := rgI n) rfl counts_eq fun pre x post e => ?_) ?_
  · rw [bok, lcR_filter tL (fun l => decide (x ∈ l) && !bothB one other (outL l x)) tL (xs := victN one other n) (by omega) (fun l hl => by
      obtain ⟨a, b, c⟩ := every_mem hn (vict_mem hl)
      rw [pIn_tuple, bok, asB_bool, bok, T.lout a b x, bok, asB_bool, bok]
      cases decide (x ∈ l) <;> cases bothB one other (outL l x) <;> rfl), bok, bok, pLen_list, List.length_map, bok, appP_ok _ (by
        have : pre.length ≤ n := by
          have := congrArg List.length e
          rw [length_rgI, List.length_append] at this
          omega
        rw [List.length_map]
        omega), List.map_append]
    rfl
  rw [bok, lcR_filter tL (deadB one other) tL (xs := everyN n) (by omega) (fun l hl => by
    rw [T.wins1 hl, bok, T.wins2 hl, bok, pNe_bool, bok, asB_bool, bok]
    unfold deadB
    split <;> rfl)]
  simp only [bok, pLen_list, List.length_map]
  rw [f_least T, f_swings T, f_dead T]
  simp only [bok, pTuple_list]
  have ea : P__law_same 8 (.list (ansL one other n)) (.list (ansL one other n)) = .ok (.bool true) := ans_same hn
  unfold ansL at ea
  rw [ea]
  simp only [bok, asB_bool, Bool.not_true, Bool.false_eq_true, if_false]
  have c1 : ansL other one n = ansL one other n := ans_comm
  rw [f_least T', f_swings T', f_dead T']
  simp only [bok]
  unfold ansL at c1
  rw [c1]
  have en : pNe (.list (ansL one other n)) (.list (ansL one other n)) = .ok (.bool false) := pNe_same ans_ok (by decide)
  unfold ansL at en
  rw [en]
  simp only [bok, asB_bool, Bool.false_eq_true, if_false]
  rw [show rng1 [PyData.int 6] = .ok ((rgI 6).map PyData.int) from rng1_ok (n := 6) (by decide)]
  simp only [bok]
  rw [e3]
  simp only [bok, seqOf_list]
  refine bindL (forC_stay fun x hx => ?_) ?_
  · obtain ⟨l, hl, rfl⟩ := List.mem_map.mp hx
    have hl := q3 l hl
    have ei : decide (l ∈ victN one other n) = bothB one other l := by
      unfold victN
      cases hb : bothB one other l <;> simp [hl, hb]
    have fr := f_rest hn (l := l)
    rw [rng1_ok (by omega), bok] at fr
    rw [fr, bok, f_win T hl, f_win T (rest_mem hn hl), bok, pIn_tLs, ei, bok, same_bool, bok, asB_bool, bok, bok, bok, asB_bool, bok]
    cases hb : bothB one other l with
    | false => rfl
    | true =>
      rw [not_both hn S1.len hl hb]
      rfl
  rw [Ctl.fin_nx]
  simp only [e4, bok, e5, pAddA_tuple (a := one.map PyData.int) (b := [.int 1]) (by have := S1.len; rw [List.length_map]; simp; omega)]
  have ez : tL (one ++ [1]) = .tuple (one.map PyData.int ++ [.int 1]) := by show PyData.tuple _ = _; rw [List.map_append]; rfl
  have e6' : P__law_any h5 (.list [no2, .tuple (one.map PyData.int ++ [.int 1])]) = .ok (bad, h6) := by
    rw [← ez]
    exact e6
  simp only [e6', bok, un2_pair, pNeg_int, e7]
  have e8' : P__law_any h7 (.list [PyData.none, .list [.int 0], .tuple [.int (n : Int)], .tuple [.int 0, .int 0], .dict [], .tuple [.bool true], .tuple [.str "0"], .tuple [.int (-1)], .int 0, dd]) = .ok (odd, h8) := e8
  simp only [e8', bok]
  rw [x_win (cNo bad), x_win cBad, cOdd]
  simp only [word0, word1, bok, seqOf_tuple]
  have lk1 : fnP (α := PyData) (fnD "least_both") [("least_both", fun l => P_least_both (gd l 0) (gd l 1)), ("both_swings", fun l => P_both_swings (gd l 0) (gd l 1)), ("deadlocks", fun l => P_deadlocks (gd l 0) (gd l 1))] = .ok fun l => P_least_both (gd l 0) (gd l 1) := fnP_is rfl
  have lk2 : fnP (α := PyData) (fnD "both_swings") [("least_both", fun l => P_least_both (gd l 0) (gd l 1)), ("both_swings", fun l => P_both_swings (gd l 0) (gd l 1)), ("deadlocks", fun l => P_deadlocks (gd l 0) (gd l 1))] = .ok fun l => P_both_swings (gd l 0) (gd l 1) := fnP_is rfl
  have lk3 : fnP (α := PyData) (fnD "deadlocks") [("least_both", fun l => P_least_both (gd l 0) (gd l 1)), ("both_swings", fun l => P_both_swings (gd l 0) (gd l 1)), ("deadlocks", fun l => P_deadlocks (gd l 0) (gd l 1))] = .ok fun l => P_deadlocks (gd l 0) (gd l 1) := fnP_is rfl
  have g0 : ∀ a b : PyData, gd [a, b] 0 = a := fun _ _ => rfl
  have g1 : ∀ a b : PyData, gd [a, b] 1 = b := fun _ _ => rfl
  unfold forP forP forP forP
  rw [lk1, lk2, lk3]
  simp only [bok, g0, g1, x_least (cNo bad), x_least cBad, x_swings (cNo bad), x_swings cBad, x_dead (cNo bad), x_dead cBad, word0]
  rw [pAddA_list (by simp)]
  simp only [bok]
  rw [pAddA_list (by simp)]
  simp only [bok]
  rw [pAddA_list (by simp)]
  simp only [bok]
  have w : pMulA (.list [.str "seats"]) (.int 6) = .ok (.list [.str "seats", .str "seats", .str "seats", .str "seats", .str "seats", .str "seats"]) := by
    rw [pMulA_list (by simp)]
    rfl
  rw [w]
  simp only [bok]
  rw [pAddA_list (by simp)]
  simp only [bok]
  have eq : pEq (.list wordsL) (.list wordsL) = .ok (.bool true) := eq_words
  show ((pEq (.list wordsL) (.list wordsL) >>= fun v258 => _) >>= fun v261 => R.ok (v261, h8)) = _
  rw [eq, bok, asB_bool, bok, if_pos rfl, f_dead T1, dead_same, bok]
  rfl
end G
end
section
/-! K83N: the law. -/
namespace G
open PySem PySem.Spec PD L2 Evl
theorem k_one : Seats 3 [3, 2, 2] := ⟨rfl, by decide, by decide⟩
theorem k_other : Seats 3 [1, 4, 1] := ⟨rfl, by decide, by decide⟩
theorem k_two : Two 3 [3, 2, 2] [1, 4, 1] := two_of k_one k_other (by decide) (by decide)
theorem k_least : (everyN 3).filter (leastB [3, 2, 2] [1, 4, 1]) = [[0, 1], [1, 2]] := by decide +kernel
theorem k_cnt : (List.range 3).map (fun k => cntI [3, 2, 2] [1, 4, 1] (everyN 3) k) = [1, 3, 1] := by decide +kernel
theorem k_dead : ((everyN 3).filter (deadB [3, 2, 2] [1, 4, 1])).length = 2 := by decide +kernel
theorem k_mem : [] ∈ everyN 3 ∧ [1] ∈ everyN 3 ∧ [0, 1] ∈ everyN 3 := by decide +kernel
theorem k_both : bothB [3, 2, 2] [1, 4, 1] [1] = false ∧ bothB [3, 2, 2] [1, 4, 1] [0, 1] = true ∧ bothB [3, 2, 2] [1, 4, 1] [] = false := by decide +kernel
def knownL : List PyData := [.bool false, .bool true, .list [tL [0, 1], tL [1, 2]], tL [1, 3, 1], .int 2, .bool false]
theorem known_same : P__law_same 8 (.list knownL) (.list knownL) = .ok (.bool true) := by
  refine same_seq 7 _ _ (.inr rfl) (by simp [knownL]) fun d hd => ?_
  simp only [knownL, List.mem_cons, List.not_mem_nil, or_false] at hd
  rcases hd with rfl | rfl | rfl | rfl | rfl | rfl
  · exact same_bool 6 _
  · exact same_bool 6 _
  · exact same_lLs 4 [[0, 1], [1, 2]] (by simp) (by simp)
  · exact same_tL 5 [1, 3, 1] (by simp)
  · exact same_int 6 _
  · exact same_bool 6 _
theorem p_law (ns : List Int) : P_law (.list (ns.map PyData.int)) = .ok (.bool true) := by
  obtain ⟨h, e0, H0⟩ := f_hand ns
  have w1 : P_both_win (tL [3, 2, 2]) (tL [1, 4, 1]) (tL [1]) = .ok (.bool false) := (f_win k_two k_mem.2.1).trans (by rw [k_both.1])
  have w2 : P_both_win (tL [3, 2, 2]) (tL [1, 4, 1]) (tL [0, 1]) = .ok (.bool true) := (f_win k_two k_mem.2.2).trans (by rw [k_both.2.1])
  have w3 : P_both_win (tL [3, 2, 2]) (tL [1, 4, 1]) (tL []) = .ok (.bool false) := (f_win k_two k_mem.1).trans (by rw [k_both.2.2])
  have w4 : P_least_both (tL [3, 2, 2]) (tL [1, 4, 1]) = .ok (.list [tL [0, 1], tL [1, 2]]) := (f_least k_two).trans (by rw [k_least]; rfl)
  have w5 : P_both_swings (tL [3, 2, 2]) (tL [1, 4, 1]) = .ok (tL [1, 3, 1]) := (f_swings k_two).trans (by rw [cnt_ints, k_cnt])
  have w6 : P_deadlocks (tL [3, 2, 2]) (tL [1, 4, 1]) = .ok (.int 2) := (f_dead k_two).trans (by rw [k_dead]; rfl)
  obtain ⟨bs, h1, e1, H1, q1, l1⟩ := lcS_each (f := fun x17 s19 => (((P__law_draw s19 (PyData.int 7) >>= fun p20 => (pAddA (PyData.int 1) p20.1 >>= fun z21 => .ok (z21, p20.2))) >>= fun p22 => P__law_is_right p22.2 p22.1) >>= fun p23 => .ok ((some p23.1), p23.2))) Hand (fun b : Bool => b = true) PyData.bool (xs := (rgI 6).map PyData.int) (by rw [List.length_map, length_rgI]; decide) (fun x _ s Hs => by
    obtain ⟨d, s1, a1, A1, d0, d1⟩ := f_draw Hs (n := 7) (by decide) (by decide)
    obtain ⟨n, hn⟩ : ∃ n : Nat, (1 : Int) + d = n := ⟨(1 + d).toNat, by omega⟩
    obtain ⟨s2, a2, A2⟩ := f_right A1 (n := n) (by omega) (by omega)
    exact ⟨true, s2, by rw [a1, bok, pAddA_int, bok, bok, hn, a2, bok], A2, rfl⟩) h H0
  have eb : bs.all id = true := by
    rw [List.all_eq_true]
    exact fun b hb => q1 b hb
  unfold P_law
  rw [e0, bok, un2_pair, bok, bok]
  show ((((P_both_win (tL [3, 2, 2]) (tL [1, 4, 1]) (tL [1]) >>= fun v5 => (P_both_win (tL [3, 2, 2]) (tL [1, 4, 1]) (tL [0, 1]) >>= fun v6 => (P_least_both (tL [3, 2, 2]) (tL [1, 4, 1]) >>= fun v7 => (P_both_swings (tL [3, 2, 2]) (tL [1, 4, 1]) >>= fun v8 => (P_deadlocks (tL [3, 2, 2]) (tL [1, 4, 1]) >>= fun v9 => (P_both_win (tL [3, 2, 2]) (tL [1, 4, 1]) (tL []) >>= fun v10 => R.ok [v5, v6, v7, v8, v9, v10])))))) >>= fun v11 => R.ok (PyData.list v11)) >>= fun u12 =>
    ((((P__law_same 8) u12 (PyData.list knownL) >>= fun v13 => asB v13) >>= fun b14 => R.ok (!b14)) >>= fun b15 => if b15 = true then R.ok (PyData.bool false) else _))) = _
  rw [w1, bok, w2, bok, w4, bok, w5, bok, w6, bok, w3, bok, bok, bok]
  have ks : P__law_same 8 (.list [.bool false, .bool true, .list [tL [0, 1], tL [1, 2]], tL [1, 3, 1], .int 2, .bool false]) (.list knownL) = .ok (.bool true) := known_same
  rw [ks, bok, asB_bool, bok, bok, Bool.not_true, if_neg Bool.false_ne_true]
  rw [show rng1 [PyData.int 6] = .ok ((rgI 6).map PyData.int) from rng1_ok (n := 6) (by decide)]
  simp only [bok]
  rw [e1]
  simp only [bok]
  rw [pAll_bools, eb]
  simp only [bok]
end G
end
section
/-! K83O: the law as the walk wants it. -/
namespace G
open PySem PySem.Spec PD L2 Evl
theorem plain_law (ns : List Int) (hl : ns.length ≤ 63) (hb : ∀ z ∈ ns, Builtin.Int.intBits z ≤ 1048576) : ∃ as, F_law [.dat (.list (ns.map PyData.int))] = .ok (.dat (.bool true), as) := by
  refine ⟨[.dat (.list (ns.map PyData.int))], ?_⟩
  rw [t_law, p_law, bok]
end G
end
section
namespace G
open LamX PySem PySem.Spec PyProof.Rows L2 Evl PD
/-- the law, from what the head tells -/
theorem mk_law {l : PySem.W.OpenLaw} {w : World} {K : PySem.W.Frag} {h : Heap} {mg : Str → Option Value} {fa : Addr} {n : Nat} {lv : List (Str × PySem.W.WData)}
    {a_is_int : Addr} {oc_is_int kV_is_int dc_is_int pm_is_int cd_is_int ct_is_int : Value} {od_is_int an_is_int : Option Addr} {sl_is_int : Array (Option Value)}
    {a_is_rising : Addr} {oc_is_rising kV_is_rising dc_is_rising pm_is_rising cd_is_rising ct_is_rising : Value} {od_is_rising an_is_rising : Option Addr} {sl_is_rising : Array (Option Value)}
    {a_is_lot : Addr} {oc_is_lot kV_is_lot dc_is_lot pm_is_lot cd_is_lot ct_is_lot : Value} {od_is_lot an_is_lot : Option Addr} {sl_is_lot : Array (Option Value)}
    {a_is_within : Addr} {oc_is_within kV_is_within dc_is_within pm_is_within cd_is_within ct_is_within : Value} {od_is_within an_is_within : Option Addr} {sl_is_within : Array (Option Value)}
    {a_check_seats : Addr} {oc_check_seats kV_check_seats dc_check_seats pm_check_seats cd_check_seats ct_check_seats : Value} {od_check_seats an_check_seats : Option Addr} {sl_check_seats : Array (Option Value)}
    {a_check_two : Addr} {oc_check_two kV_check_two dc_check_two pm_check_two cd_check_two ct_check_two : Value} {od_check_two an_check_two : Option Addr} {sl_check_two : Array (Option Value)}
    {a_has_more : Addr} {oc_has_more kV_has_more dc_has_more pm_has_more cd_has_more ct_has_more : Value} {od_has_more an_has_more : Option Addr} {sl_has_more : Array (Option Value)}
    {a_has_both : Addr} {oc_has_both kV_has_both dc_has_both pm_has_both cd_has_both ct_has_both : Value} {od_has_both an_has_both : Option Addr} {sl_has_both : Array (Option Value)}
    {a_both_win : Addr} {oc_both_win kV_both_win dc_both_win pm_both_win cd_both_win ct_both_win : Value} {od_both_win an_both_win : Option Addr} {sl_both_win : Array (Option Value)}
    {a_all_lots : Addr} {oc_all_lots kV_all_lots dc_all_lots pm_all_lots cd_all_lots ct_all_lots : Value} {od_all_lots an_all_lots : Option Addr} {sl_all_lots : Array (Option Value)}
    {a_without : Addr} {oc_without kV_without dc_without pm_without cd_without ct_without : Value} {od_without an_without : Option Addr} {sl_without : Array (Option Value)}
    {a_least_both : Addr} {oc_least_both kV_least_both dc_least_both pm_least_both cd_least_both ct_least_both : Value} {od_least_both an_least_both : Option Addr} {sl_least_both : Array (Option Value)}
    {a_both_swings : Addr} {oc_both_swings kV_both_swings dc_both_swings pm_both_swings cd_both_swings ct_both_swings : Value} {od_both_swings an_both_swings : Option Addr} {sl_both_swings : Array (Option Value)}
    {a_deadlocks : Addr} {oc_deadlocks kV_deadlocks dc_deadlocks pm_deadlocks cd_deadlocks ct_deadlocks : Value} {od_deadlocks an_deadlocks : Option Addr} {sl_deadlocks : Array (Option Value)}
    {a__law_hand : Addr} {oc__law_hand kV__law_hand dc__law_hand pm__law_hand cd__law_hand ct__law_hand : Value} {od__law_hand an__law_hand : Option Addr} {sl__law_hand : Array (Option Value)}
    {a__law_draw : Addr} {oc__law_draw kV__law_draw dc__law_draw pm__law_draw cd__law_draw ct__law_draw : Value} {od__law_draw an__law_draw : Option Addr} {sl__law_draw : Array (Option Value)}
    {a__law_same : Addr} {oc__law_same kV__law_same dc__law_same pm__law_same cd__law_same ct__law_same : Value} {od__law_same an__law_same : Option Addr} {sl__law_same : Array (Option Value)}
    {a__law_any : Addr} {oc__law_any kV__law_any dc__law_any pm__law_any cd__law_any ct__law_any : Value} {od__law_any an__law_any : Option Addr} {sl__law_any : Array (Option Value)}
    {a__law_deep : Addr} {oc__law_deep kV__law_deep dc__law_deep pm__law_deep cd__law_deep ct__law_deep : Value} {od__law_deep an__law_deep : Option Addr} {sl__law_deep : Array (Option Value)}
    {a__law_lots : Addr} {oc__law_lots kV__law_lots dc__law_lots pm__law_lots cd__law_lots ct__law_lots : Value} {od__law_lots an__law_lots : Option Addr} {sl__law_lots : Array (Option Value)}
    {a__law_wins : Addr} {oc__law_wins kV__law_wins dc__law_wins pm__law_wins cd__law_wins ct__law_wins : Value} {od__law_wins an__law_wins : Option Addr} {sl__law_wins : Array (Option Value)}
    {a__law_seats : Addr} {oc__law_seats kV__law_seats dc__law_seats pm__law_seats cd__law_seats ct__law_seats : Value} {od__law_seats an__law_seats : Option Addr} {sl__law_seats : Array (Option Value)}
    {a__law_no_seats : Addr} {oc__law_no_seats kV__law_no_seats dc__law_no_seats pm__law_no_seats cd__law_no_seats ct__law_no_seats : Value} {od__law_no_seats an__law_no_seats : Option Addr} {sl__law_no_seats : Array (Option Value)}
    {a__law_word : Addr} {oc__law_word kV__law_word dc__law_word pm__law_word cd__law_word ct__law_word : Value} {od__law_word an__law_word : Option Addr} {sl__law_word : Array (Option Value)}
    {a__law_do_win : Addr} {oc__law_do_win kV__law_do_win dc__law_do_win pm__law_do_win cd__law_do_win ct__law_do_win : Value} {od__law_do_win an__law_do_win : Option Addr} {sl__law_do_win : Array (Option Value)}
    {a__law_is_right : Addr} {oc__law_is_right kV__law_is_right dc__law_is_right pm__law_is_right ct__law_is_right : Value} {od__law_is_right an__law_is_right : Option Addr} {sl__law_is_right : Array (Option Value)}
    {c__law_is_right P__law_is_right : Addr}
    {a_law : Addr} {oc_law kV_law dc_law pm_law cd_law ct_law : Value} {od_law an_law : Option Addr} {sl_law : Array (Option Value)}
    {tk_MOST_PARTIES : Tok}
    {e_BadLot : Addr}
    {e_BadSeats : Addr}
    {e_ChairError : Addr}
    (X : K.In h) (Gm : h.Ns mainGlobals mg) (hfa : mg "law" = some (.ref fa)) (LL : PySem.W.LooseAre lv mg h) (tabs : ∀ p ∈ ([P__law_is_right] : List Addr), h.get? p = some { cls := .none, data := .fields #[] })
    (plain : ∀ ns : List Int, ns.length ≤ n → (∀ z ∈ ns, Builtin.Int.intBits z ≤ 1048576) → ∃ as, F_law [.dat (.list (ns.map PyData.int))] = .ok (.dat (.bool true), as))
    (n_is_int : PySem.W.nsIn K mainGlobals "is_int" = some (some (.ref a_is_int)))
    (l_is_int : K.lookup a_is_int = some ⟨oc_is_int, od_is_int, .func (PySem.W.fnOf "is_int" "is_int" (defArgs s_is_int) (defBody s_is_int) (defScope s_is_int) .none kV_is_int dc_is_int pm_is_int an_is_int cd_is_int ct_is_int), sl_is_int⟩)
    (h_is_int : PySem.W.codeIn K cd_is_int "is_int" = true)
    (k_is_int : PySem.W.keepIn K (.ref a_is_int) = true)
    (n_is_rising : PySem.W.nsIn K mainGlobals "is_rising" = some (some (.ref a_is_rising)))
    (l_is_rising : K.lookup a_is_rising = some ⟨oc_is_rising, od_is_rising, .func (PySem.W.fnOf "is_rising" "is_rising" (defArgs s_is_rising) (defBody s_is_rising) (defScope s_is_rising) .none kV_is_rising dc_is_rising pm_is_rising an_is_rising cd_is_rising ct_is_rising), sl_is_rising⟩)
    (h_is_rising : PySem.W.codeIn K cd_is_rising "is_rising" = true)
    (k_is_rising : PySem.W.keepIn K (.ref a_is_rising) = true)
    (n_is_lot : PySem.W.nsIn K mainGlobals "is_lot" = some (some (.ref a_is_lot)))
    (l_is_lot : K.lookup a_is_lot = some ⟨oc_is_lot, od_is_lot, .func (PySem.W.fnOf "is_lot" "is_lot" (defArgs s_is_lot) (defBody s_is_lot) (defScope s_is_lot) .none kV_is_lot dc_is_lot pm_is_lot an_is_lot cd_is_lot ct_is_lot), sl_is_lot⟩)
    (h_is_lot : PySem.W.codeIn K cd_is_lot "is_lot" = true)
    (k_is_lot : PySem.W.keepIn K (.ref a_is_lot) = true)
    (n_is_within : PySem.W.nsIn K mainGlobals "is_within" = some (some (.ref a_is_within)))
    (l_is_within : K.lookup a_is_within = some ⟨oc_is_within, od_is_within, .func (PySem.W.fnOf "is_within" "is_within" (defArgs s_is_within) (defBody s_is_within) (defScope s_is_within) .none kV_is_within dc_is_within pm_is_within an_is_within cd_is_within ct_is_within), sl_is_within⟩)
    (h_is_within : PySem.W.codeIn K cd_is_within "is_within" = true)
    (k_is_within : PySem.W.keepIn K (.ref a_is_within) = true)
    (n_check_seats : PySem.W.nsIn K mainGlobals "check_seats" = some (some (.ref a_check_seats)))
    (l_check_seats : K.lookup a_check_seats = some ⟨oc_check_seats, od_check_seats, .func (PySem.W.fnOf "check_seats" "check_seats" (defArgs s_check_seats) (defBody s_check_seats) (defScope s_check_seats) .none kV_check_seats dc_check_seats pm_check_seats an_check_seats cd_check_seats ct_check_seats), sl_check_seats⟩)
    (h_check_seats : PySem.W.codeIn K cd_check_seats "check_seats" = true)
    (k_check_seats : PySem.W.keepIn K (.ref a_check_seats) = true)
    (n_check_two : PySem.W.nsIn K mainGlobals "check_two" = some (some (.ref a_check_two)))
    (l_check_two : K.lookup a_check_two = some ⟨oc_check_two, od_check_two, .func (PySem.W.fnOf "check_two" "check_two" (defArgs s_check_two) (defBody s_check_two) (defScope s_check_two) .none kV_check_two dc_check_two pm_check_two an_check_two cd_check_two ct_check_two), sl_check_two⟩)
    (h_check_two : PySem.W.codeIn K cd_check_two "check_two" = true)
    (k_check_two : PySem.W.keepIn K (.ref a_check_two) = true)
    (n_has_more : PySem.W.nsIn K mainGlobals "has_more" = some (some (.ref a_has_more)))
    (l_has_more : K.lookup a_has_more = some ⟨oc_has_more, od_has_more, .func (PySem.W.fnOf "has_more" "has_more" (defArgs s_has_more) (defBody s_has_more) (defScope s_has_more) .none kV_has_more dc_has_more pm_has_more an_has_more cd_has_more ct_has_more), sl_has_more⟩)
    (h_has_more : PySem.W.codeIn K cd_has_more "has_more" = true)
    (k_has_more : PySem.W.keepIn K (.ref a_has_more) = true)
    (n_has_both : PySem.W.nsIn K mainGlobals "has_both" = some (some (.ref a_has_both)))
    (l_has_both : K.lookup a_has_both = some ⟨oc_has_both, od_has_both, .func (PySem.W.fnOf "has_both" "has_both" (defArgs s_has_both) (defBody s_has_both) (defScope s_has_both) .none kV_has_both dc_has_both pm_has_both an_has_both cd_has_both ct_has_both), sl_has_both⟩)
    (h_has_both : PySem.W.codeIn K cd_has_both "has_both" = true)
    (k_has_both : PySem.W.keepIn K (.ref a_has_both) = true)
    (n_both_win : PySem.W.nsIn K mainGlobals "both_win" = some (some (.ref a_both_win)))
    (l_both_win : K.lookup a_both_win = some ⟨oc_both_win, od_both_win, .func (PySem.W.fnOf "both_win" "both_win" (defArgs s_both_win) (defBody s_both_win) (defScope s_both_win) .none kV_both_win dc_both_win pm_both_win an_both_win cd_both_win ct_both_win), sl_both_win⟩)
    (h_both_win : PySem.W.codeIn K cd_both_win "both_win" = true)
    (k_both_win : PySem.W.keepIn K (.ref a_both_win) = true)
    (n_all_lots : PySem.W.nsIn K mainGlobals "all_lots" = some (some (.ref a_all_lots)))
    (l_all_lots : K.lookup a_all_lots = some ⟨oc_all_lots, od_all_lots, .func (PySem.W.fnOf "all_lots" "all_lots" (defArgs s_all_lots) (defBody s_all_lots) (defScope s_all_lots) .none kV_all_lots dc_all_lots pm_all_lots an_all_lots cd_all_lots ct_all_lots), sl_all_lots⟩)
    (h_all_lots : PySem.W.codeIn K cd_all_lots "all_lots" = true)
    (k_all_lots : PySem.W.keepIn K (.ref a_all_lots) = true)
    (n_without : PySem.W.nsIn K mainGlobals "without" = some (some (.ref a_without)))
    (l_without : K.lookup a_without = some ⟨oc_without, od_without, .func (PySem.W.fnOf "without" "without" (defArgs s_without) (defBody s_without) (defScope s_without) .none kV_without dc_without pm_without an_without cd_without ct_without), sl_without⟩)
    (h_without : PySem.W.codeIn K cd_without "without" = true)
    (k_without : PySem.W.keepIn K (.ref a_without) = true)
    (n_least_both : PySem.W.nsIn K mainGlobals "least_both" = some (some (.ref a_least_both)))
    (l_least_both : K.lookup a_least_both = some ⟨oc_least_both, od_least_both, .func (PySem.W.fnOf "least_both" "least_both" (defArgs s_least_both) (defBody s_least_both) (defScope s_least_both) .none kV_least_both dc_least_both pm_least_both an_least_both cd_least_both ct_least_both), sl_least_both⟩)
    (h_least_both : PySem.W.codeIn K cd_least_both "least_both" = true)
    (k_least_both : PySem.W.keepIn K (.ref a_least_both) = true)
    (n_both_swings : PySem.W.nsIn K mainGlobals "both_swings" = some (some (.ref a_both_swings)))
    (l_both_swings : K.lookup a_both_swings = some ⟨oc_both_swings, od_both_swings, .func (PySem.W.fnOf "both_swings" "both_swings" (defArgs s_both_swings) (defBody s_both_swings) (defScope s_both_swings) .none kV_both_swings dc_both_swings pm_both_swings an_both_swings cd_both_swings ct_both_swings), sl_both_swings⟩)
    (h_both_swings : PySem.W.codeIn K cd_both_swings "both_swings" = true)
    (k_both_swings : PySem.W.keepIn K (.ref a_both_swings) = true)
    (n_deadlocks : PySem.W.nsIn K mainGlobals "deadlocks" = some (some (.ref a_deadlocks)))
    (l_deadlocks : K.lookup a_deadlocks = some ⟨oc_deadlocks, od_deadlocks, .func (PySem.W.fnOf "deadlocks" "deadlocks" (defArgs s_deadlocks) (defBody s_deadlocks) (defScope s_deadlocks) .none kV_deadlocks dc_deadlocks pm_deadlocks an_deadlocks cd_deadlocks ct_deadlocks), sl_deadlocks⟩)
    (h_deadlocks : PySem.W.codeIn K cd_deadlocks "deadlocks" = true)
    (k_deadlocks : PySem.W.keepIn K (.ref a_deadlocks) = true)
    (n__law_hand : PySem.W.nsIn K mainGlobals "_law_hand" = some (some (.ref a__law_hand)))
    (l__law_hand : K.lookup a__law_hand = some ⟨oc__law_hand, od__law_hand, .func (PySem.W.fnOf "_law_hand" "_law_hand" (defArgs s__law_hand) (defBody s__law_hand) (defScope s__law_hand) .none kV__law_hand dc__law_hand pm__law_hand an__law_hand cd__law_hand ct__law_hand), sl__law_hand⟩)
    (h__law_hand : PySem.W.codeIn K cd__law_hand "_law_hand" = true)
    (k__law_hand : PySem.W.keepIn K (.ref a__law_hand) = true)
    (n__law_draw : PySem.W.nsIn K mainGlobals "_law_draw" = some (some (.ref a__law_draw)))
    (l__law_draw : K.lookup a__law_draw = some ⟨oc__law_draw, od__law_draw, .func (PySem.W.fnOf "_law_draw" "_law_draw" (defArgs s__law_draw) (defBody s__law_draw) (defScope s__law_draw) .none kV__law_draw dc__law_draw pm__law_draw an__law_draw cd__law_draw ct__law_draw), sl__law_draw⟩)
    (h__law_draw : PySem.W.codeIn K cd__law_draw "_law_draw" = true)
    (k__law_draw : PySem.W.keepIn K (.ref a__law_draw) = true)
    (n__law_same : PySem.W.nsIn K mainGlobals "_law_same" = some (some (.ref a__law_same)))
    (l__law_same : K.lookup a__law_same = some ⟨oc__law_same, od__law_same, .func (PySem.W.fnOf "_law_same" "_law_same" (defArgs s__law_same) (defBody s__law_same) (defScope s__law_same) .none kV__law_same dc__law_same pm__law_same an__law_same cd__law_same ct__law_same), sl__law_same⟩)
    (h__law_same : PySem.W.codeIn K cd__law_same "_law_same" = true)
    (k__law_same : PySem.W.keepIn K (.ref a__law_same) = true)
    (n__law_any : PySem.W.nsIn K mainGlobals "_law_any" = some (some (.ref a__law_any)))
    (l__law_any : K.lookup a__law_any = some ⟨oc__law_any, od__law_any, .func (PySem.W.fnOf "_law_any" "_law_any" (defArgs s__law_any) (defBody s__law_any) (defScope s__law_any) .none kV__law_any dc__law_any pm__law_any an__law_any cd__law_any ct__law_any), sl__law_any⟩)
    (h__law_any : PySem.W.codeIn K cd__law_any "_law_any" = true)
    (k__law_any : PySem.W.keepIn K (.ref a__law_any) = true)
    (n__law_deep : PySem.W.nsIn K mainGlobals "_law_deep" = some (some (.ref a__law_deep)))
    (l__law_deep : K.lookup a__law_deep = some ⟨oc__law_deep, od__law_deep, .func (PySem.W.fnOf "_law_deep" "_law_deep" (defArgs s__law_deep) (defBody s__law_deep) (defScope s__law_deep) .none kV__law_deep dc__law_deep pm__law_deep an__law_deep cd__law_deep ct__law_deep), sl__law_deep⟩)
    (h__law_deep : PySem.W.codeIn K cd__law_deep "_law_deep" = true)
    (k__law_deep : PySem.W.keepIn K (.ref a__law_deep) = true)
    (n__law_lots : PySem.W.nsIn K mainGlobals "_law_lots" = some (some (.ref a__law_lots)))
    (l__law_lots : K.lookup a__law_lots = some ⟨oc__law_lots, od__law_lots, .func (PySem.W.fnOf "_law_lots" "_law_lots" (defArgs s__law_lots) (defBody s__law_lots) (defScope s__law_lots) .none kV__law_lots dc__law_lots pm__law_lots an__law_lots cd__law_lots ct__law_lots), sl__law_lots⟩)
    (h__law_lots : PySem.W.codeIn K cd__law_lots "_law_lots" = true)
    (k__law_lots : PySem.W.keepIn K (.ref a__law_lots) = true)
    (n__law_wins : PySem.W.nsIn K mainGlobals "_law_wins" = some (some (.ref a__law_wins)))
    (l__law_wins : K.lookup a__law_wins = some ⟨oc__law_wins, od__law_wins, .func (PySem.W.fnOf "_law_wins" "_law_wins" (defArgs s__law_wins) (defBody s__law_wins) (defScope s__law_wins) .none kV__law_wins dc__law_wins pm__law_wins an__law_wins cd__law_wins ct__law_wins), sl__law_wins⟩)
    (h__law_wins : PySem.W.codeIn K cd__law_wins "_law_wins" = true)
    (k__law_wins : PySem.W.keepIn K (.ref a__law_wins) = true)
    (n__law_seats : PySem.W.nsIn K mainGlobals "_law_seats" = some (some (.ref a__law_seats)))
    (l__law_seats : K.lookup a__law_seats = some ⟨oc__law_seats, od__law_seats, .func (PySem.W.fnOf "_law_seats" "_law_seats" (defArgs s__law_seats) (defBody s__law_seats) (defScope s__law_seats) .none kV__law_seats dc__law_seats pm__law_seats an__law_seats cd__law_seats ct__law_seats), sl__law_seats⟩)
    (h__law_seats : PySem.W.codeIn K cd__law_seats "_law_seats" = true)
    (k__law_seats : PySem.W.keepIn K (.ref a__law_seats) = true)
    (n__law_no_seats : PySem.W.nsIn K mainGlobals "_law_no_seats" = some (some (.ref a__law_no_seats)))
    (l__law_no_seats : K.lookup a__law_no_seats = some ⟨oc__law_no_seats, od__law_no_seats, .func (PySem.W.fnOf "_law_no_seats" "_law_no_seats" (defArgs s__law_no_seats) (defBody s__law_no_seats) (defScope s__law_no_seats) .none kV__law_no_seats dc__law_no_seats pm__law_no_seats an__law_no_seats cd__law_no_seats ct__law_no_seats), sl__law_no_seats⟩)
    (h__law_no_seats : PySem.W.codeIn K cd__law_no_seats "_law_no_seats" = true)
    (k__law_no_seats : PySem.W.keepIn K (.ref a__law_no_seats) = true)
    (n__law_word : PySem.W.nsIn K mainGlobals "_law_word" = some (some (.ref a__law_word)))
    (l__law_word : K.lookup a__law_word = some ⟨oc__law_word, od__law_word, .func (PySem.W.fnOf "_law_word" "_law_word" (defArgs s__law_word) (defBody s__law_word) (defScope s__law_word) .none kV__law_word dc__law_word pm__law_word an__law_word cd__law_word ct__law_word), sl__law_word⟩)
    (h__law_word : PySem.W.codeIn K cd__law_word "_law_word" = true)
    (k__law_word : PySem.W.keepIn K (.ref a__law_word) = true)
    (n__law_do_win : PySem.W.nsIn K mainGlobals "_law_do_win" = some (some (.ref a__law_do_win)))
    (l__law_do_win : K.lookup a__law_do_win = some ⟨oc__law_do_win, od__law_do_win, .func (PySem.W.fnOf "_law_do_win" "_law_do_win" (defArgs s__law_do_win) (defBody s__law_do_win) (defScope s__law_do_win) .none kV__law_do_win dc__law_do_win pm__law_do_win an__law_do_win cd__law_do_win ct__law_do_win), sl__law_do_win⟩)
    (h__law_do_win : PySem.W.codeIn K cd__law_do_win "_law_do_win" = true)
    (k__law_do_win : PySem.W.keepIn K (.ref a__law_do_win) = true)
    (n__law_is_right : PySem.W.nsIn K mainGlobals "_law_is_right" = some (some (.ref a__law_is_right)))
    (l__law_is_right : K.lookup a__law_is_right = some ⟨oc__law_is_right, od__law_is_right, .func (PySem.W.fnOf "_law_is_right" "_law_is_right" (defArgs s__law_is_right) (defBody s__law_is_right) (defScope s__law_is_right) .none kV__law_is_right dc__law_is_right pm__law_is_right an__law_is_right (.ref c__law_is_right) ct__law_is_right), sl__law_is_right⟩)
    (h__law_is_right : PySem.W.codeIn K (.ref c__law_is_right) "_law_is_right" = true)
    (k__law_is_right : PySem.W.keepIn K (.ref a__law_is_right) = true)
    (n_law : PySem.W.nsIn K mainGlobals "law" = some (some (.ref a_law)))
    (l_law : K.lookup a_law = some ⟨oc_law, od_law, .func (PySem.W.fnOf "law" "law" (defArgs s_law) (defBody s_law) (defScope s_law) .none kV_law dc_law pm_law an_law cd_law ct_law), sl_law⟩)
    (h_law : PySem.W.codeIn K cd_law "law" = true)
    (k_law : PySem.W.keepIn K (.ref a_law) = true)
    (v_MOST_PARTIES : PySem.W.nsIn K mainGlobals "MOST_PARTIES" = some (some (.int 12 tk_MOST_PARTIES)))
    (v_MOST_SEATS : (("MOST_SEATS" : Str), PySem.W.WData.int 1000000) ∈ lv)
    (n_abs : PySem.W.nsIn K mainGlobals "abs" = some none)
    (n_all : PySem.W.nsIn K mainGlobals "all" = some none)
    (n_any : PySem.W.nsIn K mainGlobals "any" = some none)
    (n_bool : PySem.W.nsIn K mainGlobals "bool" = some none)
    (n_int : PySem.W.nsIn K mainGlobals "int" = some none)
    (n_isinstance : PySem.W.nsIn K mainGlobals "isinstance" = some none)
    (n_len : PySem.W.nsIn K mainGlobals "len" = some none)
    (n_list : PySem.W.nsIn K mainGlobals "list" = some none)
    (n_range : PySem.W.nsIn K mainGlobals "range" = some none)
    (n_sorted : PySem.W.nsIn K mainGlobals "sorted" = some none)
    (n_sum : PySem.W.nsIn K mainGlobals "sum" = some none)
    (n_tuple : PySem.W.nsIn K mainGlobals "tuple" = some none)
    (n_zip : PySem.W.nsIn K mainGlobals "zip" = some none)
    (n_ValueError : PySem.W.nsIn K mainGlobals "ValueError" = some none)
    (n_BadLot : PySem.W.nsIn K mainGlobals "BadLot" = some (some (.ref e_BadLot)))
    (s_BadLot : PySem.W.subIn K (.ref e_BadLot) (.type "BaseException") = some true)
    (y_BadLot : PySem.W.typeIn K (.ref e_BadLot) = some (.type "type"))
    (k_BadLot : PySem.W.keepIn K (.ref e_BadLot) = true)
    (q_BadLot : PySem.W.excIn K e_BadLot He.veBase "ValueError.__new__" = true)
    (d_BadLot : PySem.W.hasDictIn K e_BadLot = true)
    (xg_BadLot : PySem.W.findIn K (.ref e_BadLot) "__getattribute__" = some (some (.builtin "BaseException.__getattribute__")))
    (xk_BadLot : PySem.W.findIn K (.ref e_BadLot) "__getattr__" = some none)
    (xa_BadLot : PySem.W.findIn K (.ref e_BadLot) "__class__" = some (some (.builtin "object.__class__")))
    (xn_BadLot : PySem.W.specialIn K (.builtin "object.__class__") "__get__" = some (some (.builtin "getset_descriptor.__get__")))
    (xt_BadLot : PySem.W.takesIn K (.builtin "object.__class__") = some true)
    (xm_BadLot : PySem.W.mroIn K e_BadLot (.type "object") = some true)
    (n_BadSeats : PySem.W.nsIn K mainGlobals "BadSeats" = some (some (.ref e_BadSeats)))
    (s_BadSeats : PySem.W.subIn K (.ref e_BadSeats) (.type "BaseException") = some true)
    (y_BadSeats : PySem.W.typeIn K (.ref e_BadSeats) = some (.type "type"))
    (k_BadSeats : PySem.W.keepIn K (.ref e_BadSeats) = true)
    (q_BadSeats : PySem.W.excIn K e_BadSeats He.veBase "ValueError.__new__" = true)
    (d_BadSeats : PySem.W.hasDictIn K e_BadSeats = true)
    (xg_BadSeats : PySem.W.findIn K (.ref e_BadSeats) "__getattribute__" = some (some (.builtin "BaseException.__getattribute__")))
    (xk_BadSeats : PySem.W.findIn K (.ref e_BadSeats) "__getattr__" = some none)
    (xa_BadSeats : PySem.W.findIn K (.ref e_BadSeats) "__class__" = some (some (.builtin "object.__class__")))
    (xn_BadSeats : PySem.W.specialIn K (.builtin "object.__class__") "__get__" = some (some (.builtin "getset_descriptor.__get__")))
    (xt_BadSeats : PySem.W.takesIn K (.builtin "object.__class__") = some true)
    (xm_BadSeats : PySem.W.mroIn K e_BadSeats (.type "object") = some true)
    (n_ChairError : PySem.W.nsIn K mainGlobals "ChairError" = some (some (.ref e_ChairError)))
    (s_ChairError : PySem.W.subIn K (.ref e_ChairError) (.type "BaseException") = some true)
    (y_ChairError : PySem.W.typeIn K (.ref e_ChairError) = some (.type "type"))
    (d_ChairError : PySem.W.hasDictIn K e_ChairError = true)
    (b_BadSeats : PySem.W.subIn K (.ref e_BadSeats) (.ref e_ChairError) = some true)
    (b_BadLot : PySem.W.subIn K (.ref e_BadLot) (.ref e_ChairError) = some true)
    (i_BadLot_BadLot : PySem.W.kitOne K (.ref e_BadLot) (.ref e_BadLot) = some true)
    (i_BadLot_BadSeats : PySem.W.kitOne K (.ref e_BadLot) (.ref e_BadSeats) = some false)
    (i_BadLot_ValueError : PySem.W.kitOne K (.ref e_BadLot) (.type "ValueError") = some true)
    (i_BadSeats_BadLot : PySem.W.kitOne K (.ref e_BadSeats) (.ref e_BadLot) = some false)
    (i_BadSeats_BadSeats : PySem.W.kitOne K (.ref e_BadSeats) (.ref e_BadSeats) = some true)
    (i_BadSeats_ValueError : PySem.W.kitOne K (.ref e_BadSeats) (.type "ValueError") = some true)
    (t__law_is_right : K.lookup P__law_is_right = none)
    (z__law_is_right : PySem.W.codeHdIn K c__law_is_right P__law_is_right = true)
    (ndT : ([P__law_is_right] : List Addr).Nodup)
    (klst : noLists K = true)
    : LawG l w K (L2.CX l.prog w) 13 n "script" mg fa h := by
  obtain ⟨q_MOST_SEATS, w_MOST_SEATS⟩ := loose_int LL v_MOST_SEATS
  have e : a_law = fa := (Value.ref.inj (Option.some.inj (hfa.symm.trans (PySem.W.mg_of X Gm n_law)))).symm
  subst e
  let t : Tx K mg := {
    a_is_int := a_is_int, d_is_int := (PySem.W.fnOf "is_int" "is_int" (defArgs s_is_int) (defBody s_is_int) (defScope s_is_int) .none kV_is_int dc_is_int pm_is_int an_is_int cd_is_int ct_is_int), F_is_int := fun_mk (st := s_is_int) l_is_int h_is_int k_is_int, g_is_int := PySem.W.mg_of X Gm n_is_int,
    a_is_rising := a_is_rising, d_is_rising := (PySem.W.fnOf "is_rising" "is_rising" (defArgs s_is_rising) (defBody s_is_rising) (defScope s_is_rising) .none kV_is_rising dc_is_rising pm_is_rising an_is_rising cd_is_rising ct_is_rising), F_is_rising := fun_mk (st := s_is_rising) l_is_rising h_is_rising k_is_rising, g_is_rising := PySem.W.mg_of X Gm n_is_rising,
    a_is_lot := a_is_lot, d_is_lot := (PySem.W.fnOf "is_lot" "is_lot" (defArgs s_is_lot) (defBody s_is_lot) (defScope s_is_lot) .none kV_is_lot dc_is_lot pm_is_lot an_is_lot cd_is_lot ct_is_lot), F_is_lot := fun_mk (st := s_is_lot) l_is_lot h_is_lot k_is_lot, g_is_lot := PySem.W.mg_of X Gm n_is_lot,
    a_is_within := a_is_within, d_is_within := (PySem.W.fnOf "is_within" "is_within" (defArgs s_is_within) (defBody s_is_within) (defScope s_is_within) .none kV_is_within dc_is_within pm_is_within an_is_within cd_is_within ct_is_within), F_is_within := fun_mk (st := s_is_within) l_is_within h_is_within k_is_within, g_is_within := PySem.W.mg_of X Gm n_is_within,
    a_check_seats := a_check_seats, d_check_seats := (PySem.W.fnOf "check_seats" "check_seats" (defArgs s_check_seats) (defBody s_check_seats) (defScope s_check_seats) .none kV_check_seats dc_check_seats pm_check_seats an_check_seats cd_check_seats ct_check_seats), F_check_seats := fun_mk (st := s_check_seats) l_check_seats h_check_seats k_check_seats, g_check_seats := PySem.W.mg_of X Gm n_check_seats,
    a_check_two := a_check_two, d_check_two := (PySem.W.fnOf "check_two" "check_two" (defArgs s_check_two) (defBody s_check_two) (defScope s_check_two) .none kV_check_two dc_check_two pm_check_two an_check_two cd_check_two ct_check_two), F_check_two := fun_mk (st := s_check_two) l_check_two h_check_two k_check_two, g_check_two := PySem.W.mg_of X Gm n_check_two,
    a_has_more := a_has_more, d_has_more := (PySem.W.fnOf "has_more" "has_more" (defArgs s_has_more) (defBody s_has_more) (defScope s_has_more) .none kV_has_more dc_has_more pm_has_more an_has_more cd_has_more ct_has_more), F_has_more := fun_mk (st := s_has_more) l_has_more h_has_more k_has_more, g_has_more := PySem.W.mg_of X Gm n_has_more,
    a_has_both := a_has_both, d_has_both := (PySem.W.fnOf "has_both" "has_both" (defArgs s_has_both) (defBody s_has_both) (defScope s_has_both) .none kV_has_both dc_has_both pm_has_both an_has_both cd_has_both ct_has_both), F_has_both := fun_mk (st := s_has_both) l_has_both h_has_both k_has_both, g_has_both := PySem.W.mg_of X Gm n_has_both,
    a_both_win := a_both_win, d_both_win := (PySem.W.fnOf "both_win" "both_win" (defArgs s_both_win) (defBody s_both_win) (defScope s_both_win) .none kV_both_win dc_both_win pm_both_win an_both_win cd_both_win ct_both_win), F_both_win := fun_mk (st := s_both_win) l_both_win h_both_win k_both_win, g_both_win := PySem.W.mg_of X Gm n_both_win,
    a_all_lots := a_all_lots, d_all_lots := (PySem.W.fnOf "all_lots" "all_lots" (defArgs s_all_lots) (defBody s_all_lots) (defScope s_all_lots) .none kV_all_lots dc_all_lots pm_all_lots an_all_lots cd_all_lots ct_all_lots), F_all_lots := fun_mk (st := s_all_lots) l_all_lots h_all_lots k_all_lots, g_all_lots := PySem.W.mg_of X Gm n_all_lots,
    a_without := a_without, d_without := (PySem.W.fnOf "without" "without" (defArgs s_without) (defBody s_without) (defScope s_without) .none kV_without dc_without pm_without an_without cd_without ct_without), F_without := fun_mk (st := s_without) l_without h_without k_without, g_without := PySem.W.mg_of X Gm n_without,
    a_least_both := a_least_both, d_least_both := (PySem.W.fnOf "least_both" "least_both" (defArgs s_least_both) (defBody s_least_both) (defScope s_least_both) .none kV_least_both dc_least_both pm_least_both an_least_both cd_least_both ct_least_both), F_least_both := fun_mk (st := s_least_both) l_least_both h_least_both k_least_both, g_least_both := PySem.W.mg_of X Gm n_least_both, w_least_both := n_least_both,
    a_both_swings := a_both_swings, d_both_swings := (PySem.W.fnOf "both_swings" "both_swings" (defArgs s_both_swings) (defBody s_both_swings) (defScope s_both_swings) .none kV_both_swings dc_both_swings pm_both_swings an_both_swings cd_both_swings ct_both_swings), F_both_swings := fun_mk (st := s_both_swings) l_both_swings h_both_swings k_both_swings, g_both_swings := PySem.W.mg_of X Gm n_both_swings, w_both_swings := n_both_swings,
    a_deadlocks := a_deadlocks, d_deadlocks := (PySem.W.fnOf "deadlocks" "deadlocks" (defArgs s_deadlocks) (defBody s_deadlocks) (defScope s_deadlocks) .none kV_deadlocks dc_deadlocks pm_deadlocks an_deadlocks cd_deadlocks ct_deadlocks), F_deadlocks := fun_mk (st := s_deadlocks) l_deadlocks h_deadlocks k_deadlocks, g_deadlocks := PySem.W.mg_of X Gm n_deadlocks, w_deadlocks := n_deadlocks,
    a__law_hand := a__law_hand, d__law_hand := (PySem.W.fnOf "_law_hand" "_law_hand" (defArgs s__law_hand) (defBody s__law_hand) (defScope s__law_hand) .none kV__law_hand dc__law_hand pm__law_hand an__law_hand cd__law_hand ct__law_hand), F__law_hand := fun_mk (st := s__law_hand) l__law_hand h__law_hand k__law_hand, g__law_hand := PySem.W.mg_of X Gm n__law_hand,
    a__law_draw := a__law_draw, d__law_draw := (PySem.W.fnOf "_law_draw" "_law_draw" (defArgs s__law_draw) (defBody s__law_draw) (defScope s__law_draw) .none kV__law_draw dc__law_draw pm__law_draw an__law_draw cd__law_draw ct__law_draw), F__law_draw := fun_mk (st := s__law_draw) l__law_draw h__law_draw k__law_draw, g__law_draw := PySem.W.mg_of X Gm n__law_draw,
    a__law_same := a__law_same, d__law_same := (PySem.W.fnOf "_law_same" "_law_same" (defArgs s__law_same) (defBody s__law_same) (defScope s__law_same) .none kV__law_same dc__law_same pm__law_same an__law_same cd__law_same ct__law_same), F__law_same := fun_mk (st := s__law_same) l__law_same h__law_same k__law_same, g__law_same := PySem.W.mg_of X Gm n__law_same,
    a__law_any := a__law_any, d__law_any := (PySem.W.fnOf "_law_any" "_law_any" (defArgs s__law_any) (defBody s__law_any) (defScope s__law_any) .none kV__law_any dc__law_any pm__law_any an__law_any cd__law_any ct__law_any), F__law_any := fun_mk (st := s__law_any) l__law_any h__law_any k__law_any, g__law_any := PySem.W.mg_of X Gm n__law_any,
    a__law_deep := a__law_deep, d__law_deep := (PySem.W.fnOf "_law_deep" "_law_deep" (defArgs s__law_deep) (defBody s__law_deep) (defScope s__law_deep) .none kV__law_deep dc__law_deep pm__law_deep an__law_deep cd__law_deep ct__law_deep), F__law_deep := fun_mk (st := s__law_deep) l__law_deep h__law_deep k__law_deep, g__law_deep := PySem.W.mg_of X Gm n__law_deep,
    a__law_lots := a__law_lots, d__law_lots := (PySem.W.fnOf "_law_lots" "_law_lots" (defArgs s__law_lots) (defBody s__law_lots) (defScope s__law_lots) .none kV__law_lots dc__law_lots pm__law_lots an__law_lots cd__law_lots ct__law_lots), F__law_lots := fun_mk (st := s__law_lots) l__law_lots h__law_lots k__law_lots, g__law_lots := PySem.W.mg_of X Gm n__law_lots,
    a__law_wins := a__law_wins, d__law_wins := (PySem.W.fnOf "_law_wins" "_law_wins" (defArgs s__law_wins) (defBody s__law_wins) (defScope s__law_wins) .none kV__law_wins dc__law_wins pm__law_wins an__law_wins cd__law_wins ct__law_wins), F__law_wins := fun_mk (st := s__law_wins) l__law_wins h__law_wins k__law_wins, g__law_wins := PySem.W.mg_of X Gm n__law_wins,
    a__law_seats := a__law_seats, d__law_seats := (PySem.W.fnOf "_law_seats" "_law_seats" (defArgs s__law_seats) (defBody s__law_seats) (defScope s__law_seats) .none kV__law_seats dc__law_seats pm__law_seats an__law_seats cd__law_seats ct__law_seats), F__law_seats := fun_mk (st := s__law_seats) l__law_seats h__law_seats k__law_seats, g__law_seats := PySem.W.mg_of X Gm n__law_seats,
    a__law_no_seats := a__law_no_seats, d__law_no_seats := (PySem.W.fnOf "_law_no_seats" "_law_no_seats" (defArgs s__law_no_seats) (defBody s__law_no_seats) (defScope s__law_no_seats) .none kV__law_no_seats dc__law_no_seats pm__law_no_seats an__law_no_seats cd__law_no_seats ct__law_no_seats), F__law_no_seats := fun_mk (st := s__law_no_seats) l__law_no_seats h__law_no_seats k__law_no_seats, g__law_no_seats := PySem.W.mg_of X Gm n__law_no_seats,
    a__law_word := a__law_word, d__law_word := (PySem.W.fnOf "_law_word" "_law_word" (defArgs s__law_word) (defBody s__law_word) (defScope s__law_word) .none kV__law_word dc__law_word pm__law_word an__law_word cd__law_word ct__law_word), F__law_word := fun_mk (st := s__law_word) l__law_word h__law_word k__law_word, g__law_word := PySem.W.mg_of X Gm n__law_word,
    a__law_do_win := a__law_do_win, d__law_do_win := (PySem.W.fnOf "_law_do_win" "_law_do_win" (defArgs s__law_do_win) (defBody s__law_do_win) (defScope s__law_do_win) .none kV__law_do_win dc__law_do_win pm__law_do_win an__law_do_win cd__law_do_win ct__law_do_win), F__law_do_win := fun_mk (st := s__law_do_win) l__law_do_win h__law_do_win k__law_do_win, g__law_do_win := PySem.W.mg_of X Gm n__law_do_win,
    a__law_is_right := a__law_is_right, d__law_is_right := (PySem.W.fnOf "_law_is_right" "_law_is_right" (defArgs s__law_is_right) (defBody s__law_is_right) (defScope s__law_is_right) .none kV__law_is_right dc__law_is_right pm__law_is_right an__law_is_right (.ref c__law_is_right) ct__law_is_right), F__law_is_right := fun_mk (st := s__law_is_right) l__law_is_right h__law_is_right k__law_is_right, g__law_is_right := PySem.W.mg_of X Gm n__law_is_right,
    a_law := a_law, d_law := (PySem.W.fnOf "law" "law" (defArgs s_law) (defBody s_law) (defScope s_law) .none kV_law dc_law pm_law an_law cd_law ct_law), F_law := fun_mk (st := s_law) l_law h_law k_law, g_law := PySem.W.mg_of X Gm n_law,
    k_MOST_PARTIES := tk_MOST_PARTIES, c_MOST_PARTIES := PySem.W.mg_of X Gm v_MOST_PARTIES,
    k_MOST_SEATS := q_MOST_SEATS, c_MOST_SEATS := w_MOST_SEATS,
    n_abs := PySem.W.mg_none_of X Gm n_abs,
    n_all := PySem.W.mg_none_of X Gm n_all,
    n_any := PySem.W.mg_none_of X Gm n_any,
    n_bool := PySem.W.mg_none_of X Gm n_bool,
    n_int := PySem.W.mg_none_of X Gm n_int,
    n_isinstance := PySem.W.mg_none_of X Gm n_isinstance,
    n_len := PySem.W.mg_none_of X Gm n_len,
    n_list := PySem.W.mg_none_of X Gm n_list,
    n_range := PySem.W.mg_none_of X Gm n_range,
    n_sorted := PySem.W.mg_none_of X Gm n_sorted,
    n_sum := PySem.W.mg_none_of X Gm n_sum,
    n_tuple := PySem.W.mg_none_of X Gm n_tuple,
    n_zip := PySem.W.mg_none_of X Gm n_zip,
    n_ValueError := PySem.W.mg_none_of X Gm n_ValueError,
    e_BadLot := e_BadLot, g_BadLot := PySem.W.mg_of X Gm n_BadLot,
    k_BadLot := k_BadLot, q_BadLot := q_BadLot, s_BadLot := s_BadLot, y_BadLot := y_BadLot,
    x_BadLot := ⟨xg_BadLot, xk_BadLot, s_BadLot, d_BadLot, xa_BadLot, xn_BadLot, xt_BadLot, xm_BadLot⟩,
    e_BadSeats := e_BadSeats, g_BadSeats := PySem.W.mg_of X Gm n_BadSeats,
    k_BadSeats := k_BadSeats, q_BadSeats := q_BadSeats, s_BadSeats := s_BadSeats, y_BadSeats := y_BadSeats,
    x_BadSeats := ⟨xg_BadSeats, xk_BadSeats, s_BadSeats, d_BadSeats, xa_BadSeats, xn_BadSeats, xt_BadSeats, xm_BadSeats⟩,
    e_ChairError := e_ChairError, g_ChairError := PySem.W.mg_of X Gm n_ChairError,
    m_BadSeats := PySem.W.exm_ref s_ChairError d_ChairError y_ChairError b_BadSeats,
    m_BadLot := PySem.W.exm_ref s_ChairError d_ChairError y_ChairError b_BadLot,
    i_BadLot_BadLot := i_BadLot_BadLot,
    i_BadLot_BadSeats := i_BadLot_BadSeats,
    i_BadLot_ValueError := i_BadLot_ValueError,
    i_BadSeats_BadLot := i_BadSeats_BadLot,
    i_BadSeats_BadSeats := i_BadSeats_BadSeats,
    i_BadSeats_ValueError := i_BadSeats_ValueError,
    c__law_is_right := c__law_is_right, P__law_is_right := P__law_is_right, H__law_is_right := ⟨⟨oc__law_is_right, od__law_is_right, kV__law_is_right, dc__law_is_right, pm__law_is_right, an__law_is_right, ct__law_is_right, sl__law_is_right, rfl, l__law_is_right, h__law_is_right⟩, k__law_is_right⟩,
    nd := ndT }
  refine ⟨t.d_law, t.cs, _, fun p hp => tabs p.2 ?_, fun p hp => ?_, fun p hp => ?_, fun s u => .of_eq rfl, fun b o e z => ?_, fun H a ns hl hb hT hS => ?_, fun base kb nb tb => PD.FnOk.g (ok_law t tb)⟩
  · simp only [Tx.cs, t, List.mem_cons, List.not_mem_nil, or_false] at hp
    simp only [List.mem_cons, List.not_mem_nil, or_false]
    rcases hp with rfl
    all_goals simp
  · simp only [Tx.cs, t, List.mem_cons, List.not_mem_nil, or_false] at hp
    rcases hp with rfl
    · exact t__law_is_right
  · simp only [Tx.cs, t, List.mem_cons, List.not_mem_nil, or_false] at hp
    rcases hp with rfl
    · exact PySem.W.codeHd_of_K X z__law_is_right
  · exact noLists_ok klst b o e z
  · obtain ⟨as, e⟩ := plain ns hl hb
    refine law_sp e (fun p hp => ?_) hS
    simp only [Tx.T, t, List.mem_cons, List.not_mem_nil, or_false] at hp
    rcases hp with rfl
    · exact hT (c__law_is_right, P__law_is_right) (by simp [Tx.cs, t])
end G
end
open PySem PySem.W PyProof.Rows
set_option maxRecDepth 100000 in
set_option maxHeartbeats 0 in
theorem PySem.Challenge.cw_chairmarks_k83_whole_two_chambers_holds : PySem.Challenge.rw_chairmarks_k83_whole_two_chambers.Holds := by
  w_on; o_law; k_head; (case hw => w_witness2)
  k_fill
  refine PD.walk_G (l := PySem.Challenge.rw_chairmarks_k83_whole_two_chambers) (n := 63) (k := 13) (x := "script") (CX := fun w => L2.CX PySem.Challenge.rw_chairmarks_k83_whole_two_chambers.prog w) rfl (by decide) rfl ⟨rfl, by decide, by decide⟩ (fun w h Y => PySem.W.km_in_of Y) ?F (fun w H s e s2 z => PD.cx_none z)
  case F =>
    intro w mg fa h XX Y KX Gm hmg
    refine' G.mk_law KX Gm hmg XX.2 (PySem.W.km_tabs_of Y) G.plain_law ?n_is_int ?l_is_int ?h_is_int ?k_is_int ?n_is_rising ?l_is_rising ?h_is_rising ?k_is_rising ?n_is_lot ?l_is_lot ?h_is_lot ?k_is_lot ?n_is_within ?l_is_within ?h_is_within ?k_is_within ?n_check_seats ?l_check_seats ?h_check_seats ?k_check_seats ?n_check_two ?l_check_two ?h_check_two ?k_check_two ?n_has_more ?l_has_more ?h_has_more ?k_has_more ?n_has_both ?l_has_both ?h_has_both ?k_has_both ?n_both_win ?l_both_win ?h_both_win ?k_both_win ?n_all_lots ?l_all_lots ?h_all_lots ?k_all_lots ?n_without ?l_without ?h_without ?k_without ?n_least_both ?l_least_both ?h_least_both ?k_least_both ?n_both_swings ?l_both_swings ?h_both_swings ?k_both_swings ?n_deadlocks ?l_deadlocks ?h_deadlocks ?k_deadlocks ?n__law_hand ?l__law_hand ?h__law_hand ?k__law_hand ?n__law_draw ?l__law_draw ?h__law_draw ?k__law_draw ?n__law_same ?l__law_same ?h__law_same ?k__law_same ?n__law_any ?l__law_any ?h__law_any ?k__law_any ?n__law_deep ?l__law_deep ?h__law_deep ?k__law_deep ?n__law_lots ?l__law_lots ?h__law_lots ?k__law_lots ?n__law_wins ?l__law_wins ?h__law_wins ?k__law_wins ?n__law_seats ?l__law_seats ?h__law_seats ?k__law_seats ?n__law_no_seats ?l__law_no_seats ?h__law_no_seats ?k__law_no_seats ?n__law_word ?l__law_word ?h__law_word ?k__law_word ?n__law_do_win ?l__law_do_win ?h__law_do_win ?k__law_do_win ?n__law_is_right ?l__law_is_right ?h__law_is_right ?k__law_is_right ?n_law ?l_law ?h_law ?k_law ?v_MOST_PARTIES ?v_MOST_SEATS ?n_abs ?n_all ?n_any ?n_bool ?n_int ?n_isinstance ?n_len ?n_list ?n_range ?n_sorted ?n_sum ?n_tuple ?n_zip ?n_ValueError ?n_BadLot ?s_BadLot ?y_BadLot ?k_BadLot ?q_BadLot ?d_BadLot ?xg_BadLot ?xk_BadLot ?xa_BadLot ?xn_BadLot ?xt_BadLot ?xm_BadLot ?n_BadSeats ?s_BadSeats ?y_BadSeats ?k_BadSeats ?q_BadSeats ?d_BadSeats ?xg_BadSeats ?xk_BadSeats ?xa_BadSeats ?xn_BadSeats ?xt_BadSeats ?xm_BadSeats ?n_ChairError ?s_ChairError ?y_ChairError ?d_ChairError ?b_BadSeats ?b_BadLot ?i_BadLot_BadLot ?i_BadLot_BadSeats ?i_BadLot_ValueError ?i_BadSeats_BadLot ?i_BadSeats_BadSeats ?i_BadSeats_ValueError ?t__law_is_right ?z__law_is_right ?ndT ?klst
    (case n_is_int => k_is)
    (case l_is_int => k_is)
    (case h_is_int => k_is)
    (case k_is_int => k_is)
    (case n_is_rising => k_is)
    (case l_is_rising => k_is)
    (case h_is_rising => k_is)
    (case k_is_rising => k_is)
    (case n_is_lot => k_is)
    (case l_is_lot => k_is)
    (case h_is_lot => k_is)
    (case k_is_lot => k_is)
    (case n_is_within => k_is)
    (case l_is_within => k_is)
    (case h_is_within => k_is)
    (case k_is_within => k_is)
    (case n_check_seats => k_is)
    (case l_check_seats => k_is)
    (case h_check_seats => k_is)
    (case k_check_seats => k_is)
    (case n_check_two => k_is)
    (case l_check_two => k_is)
    (case h_check_two => k_is)
    (case k_check_two => k_is)
    (case n_has_more => k_is)
    (case l_has_more => k_is)
    (case h_has_more => k_is)
    (case k_has_more => k_is)
    (case n_has_both => k_is)
    (case l_has_both => k_is)
    (case h_has_both => k_is)
    (case k_has_both => k_is)
    (case n_both_win => k_is)
    (case l_both_win => k_is)
    (case h_both_win => k_is)
    (case k_both_win => k_is)
    (case n_all_lots => k_is)
    (case l_all_lots => k_is)
    (case h_all_lots => k_is)
    (case k_all_lots => k_is)
    (case n_without => k_is)
    (case l_without => k_is)
    (case h_without => k_is)
    (case k_without => k_is)
    (case n_least_both => k_is)
    (case l_least_both => k_is)
    (case h_least_both => k_is)
    (case k_least_both => k_is)
    (case n_both_swings => k_is)
    (case l_both_swings => k_is)
    (case h_both_swings => k_is)
    (case k_both_swings => k_is)
    (case n_deadlocks => k_is)
    (case l_deadlocks => k_is)
    (case h_deadlocks => k_is)
    (case k_deadlocks => k_is)
    (case n__law_hand => k_is)
    (case l__law_hand => k_is)
    (case h__law_hand => k_is)
    (case k__law_hand => k_is)
    (case n__law_draw => k_is)
    (case l__law_draw => k_is)
    (case h__law_draw => k_is)
    (case k__law_draw => k_is)
    (case n__law_same => k_is)
    (case l__law_same => k_is)
    (case h__law_same => k_is)
    (case k__law_same => k_is)
    (case n__law_any => k_is)
    (case l__law_any => k_is)
    (case h__law_any => k_is)
    (case k__law_any => k_is)
    (case n__law_deep => k_is)
    (case l__law_deep => k_is)
    (case h__law_deep => k_is)
    (case k__law_deep => k_is)
    (case n__law_lots => k_is)
    (case l__law_lots => k_is)
    (case h__law_lots => k_is)
    (case k__law_lots => k_is)
    (case n__law_wins => k_is)
    (case l__law_wins => k_is)
    (case h__law_wins => k_is)
    (case k__law_wins => k_is)
    (case n__law_seats => k_is)
    (case l__law_seats => k_is)
    (case h__law_seats => k_is)
    (case k__law_seats => k_is)
    (case n__law_no_seats => k_is)
    (case l__law_no_seats => k_is)
    (case h__law_no_seats => k_is)
    (case k__law_no_seats => k_is)
    (case n__law_word => k_is)
    (case l__law_word => k_is)
    (case h__law_word => k_is)
    (case k__law_word => k_is)
    (case n__law_do_win => k_is)
    (case l__law_do_win => k_is)
    (case h__law_do_win => k_is)
    (case k__law_do_win => k_is)
    (case n__law_is_right => k_is)
    (case l__law_is_right => k_is)
    (case h__law_is_right => k_is)
    (case k__law_is_right => k_is)
    (case n_law => k_is)
    (case l_law => k_is)
    (case h_law => k_is)
    (case k_law => k_is)
    (case v_MOST_PARTIES => k_is)
    (case v_MOST_SEATS => first | exact .head _ | exact .tail _ (.head _) | exact .tail _ (.tail _ (.head _)) | exact .tail _ (.tail _ (.tail _ (.head _))))
    (case n_abs => k_is)
    (case n_all => k_is)
    (case n_any => k_is)
    (case n_bool => k_is)
    (case n_int => k_is)
    (case n_isinstance => k_is)
    (case n_len => k_is)
    (case n_list => k_is)
    (case n_range => k_is)
    (case n_sorted => k_is)
    (case n_sum => k_is)
    (case n_tuple => k_is)
    (case n_zip => k_is)
    (case n_ValueError => k_is)
    (case n_BadLot => k_is)
    (case s_BadLot => k_is)
    (case y_BadLot => k_is)
    (case k_BadLot => k_is)
    (case q_BadLot => first | k_exc | k_is)
    (case d_BadLot => k_is)
    (case xg_BadLot => k_is)
    (case xk_BadLot => k_is)
    (case xa_BadLot => k_is)
    (case xn_BadLot => k_is)
    (case xt_BadLot => k_is)
    (case xm_BadLot => k_is)
    (case n_BadSeats => k_is)
    (case s_BadSeats => k_is)
    (case y_BadSeats => k_is)
    (case k_BadSeats => k_is)
    (case q_BadSeats => first | k_exc | k_is)
    (case d_BadSeats => k_is)
    (case xg_BadSeats => k_is)
    (case xk_BadSeats => k_is)
    (case xa_BadSeats => k_is)
    (case xn_BadSeats => k_is)
    (case xt_BadSeats => k_is)
    (case xm_BadSeats => k_is)
    (case n_ChairError => k_is)
    (case s_ChairError => k_is)
    (case y_ChairError => k_is)
    (case d_ChairError => k_is)
    (case b_BadSeats => k_is)
    (case b_BadLot => k_is)
    (case i_BadLot_BadLot => first | kit_is | k_is | rfl)
    (case i_BadLot_BadSeats => first | kit_is | k_is | rfl)
    (case i_BadLot_ValueError => first | kit_is | k_is | rfl)
    (case i_BadSeats_BadLot => first | kit_is | k_is | rfl)
    (case i_BadSeats_BadSeats => first | kit_is | k_is | rfl)
    (case i_BadSeats_ValueError => first | kit_is | k_is | rfl)
    (case t__law_is_right => first | rfl | k_is)
    (case z__law_is_right => first | kernel_rfl | k_is)
    (case ndT => decide)
    (case klst => first | kernel_rfl | k_is | decide +kernel)
