import PyProof.Rows.All
import Wide.All
import OpenK.AllK
import Wide.FinOn
import HandS.ForMost
import HandS.Evl
import HandS.Defaults
import HandS.Flow
import HandS.TupAny
import HandS.IsInst
import HandS.Deep
import HandS.Star
import HandS.NoneIn
import HandS.DictComp
import HandS.Zip
import PySem.Challenge.RW_refundtrees_k42_whole_few_give_backs
import KE.KDictDisplayH
import KE.GoesComp
import KE.GoesMore
import HandS.Style
import HandS.RaiseMore
import PyProof.Rows.TupMore
import HandS.HeadEnd
import PyProof.ReprRoads
import HandS.Nested
import HandS.ExcInit
import KE.KExcSuper
import HandS.Property
import HandS.ExcField
import HandS.Head0
import HandS.Head1
import HandS.Head2
import HandS.Head3
import HandS.HeadHook1
import HandS.HeadHook2
import HandS.TryMany
import HandS.Zip0
import KE.KDictZip
import HandS.TupLen
import HandS.Struct
import PyProof.EqAt
import PyProof.ListOps
import HandS.List
import HandS.MakeKwOnly
import HandS.Small
import PyProof.ReprLen
import PyProof.StrLawsRepr
import HandS.CallSlots
import HandS.ListItems
import HandS.Ends
set_option Elab.async false
set_option linter.all false
section
set_option maxRecDepth 100000
set_option maxHeartbeats 2000000
/-! RTCalc: what an expression's reading comes to, as data; what is known stays. -/
namespace RT
open PySem PySem.Spec PyProof.Rows L2
open Evl (Ex Ex.refl Ex.trans Ex.new Ex.mut)
abbrev Fg := PySem.W.Frag

/-! ### data in the abstract heap -/
mutual
inductive Dx (G : Hp) : V → PyData → Prop where
  | non : Dx G .non .none
  | bl (b : Bool) : Dx G (.bl b) (.bool b)
  | int (i : Int) : Dx G (.int i) (.int i)
  | str (x : Str) : Dx G (.str x) (.str x)
  | lst {a : Addr} {xs : List V} {ds : List PyData} : G a = some (.lst xs) → DxA G xs ds → Dx G (.ref a) (.list ds)
  | tup {a : Addr} {xs : List V} {ds : List PyData} : G a = some (.tup xs) → DxA G xs ds → Dx G (.ref a) (.tuple ds)
inductive DxA (G : Hp) : List V → List PyData → Prop where
  | nil : DxA G [] []
  | cons {v : V} {vs : List V} {d : PyData} {ds : List PyData} : Dx G v d → DxA G vs ds → DxA G (v :: vs) (d :: ds)
end
section
variable {G G' : Hp} {v : V} {d : PyData} {vs ws : List V} {ds es : List PyData}
mutual
theorem Dx.mono (e : Ex G G') : ∀ {v : V} {d : PyData}, Dx G v d → Dx G' v d
  | _, _, .non => .non
  | _, _, .bl b => .bl b
  | _, _, .int i => .int i
  | _, _, .str x => .str x
  | _, _, .lst h t => .lst (e _ _ h) (DxA.mono e t)
  | _, _, .tup h t => .tup (e _ _ h) (DxA.mono e t)
theorem DxA.mono (e : Ex G G') : ∀ {vs : List V} {ds : List PyData}, DxA G vs ds → DxA G' vs ds
  | _, _, .nil => .nil
  | _, _, .cons h t => .cons (Dx.mono e h) (DxA.mono e t)
end
mutual
theorem Dx.dp {K : Fg} : ∀ {v : V} {d : PyData}, Dx G v d → Dp K G v d
  | _, _, .non => .non
  | _, _, .bl b => .bl b
  | _, _, .int i => .int i
  | _, _, .str x => .str x
  | _, _, .lst h t => .lst (SqL.of h) (DxA.dp t)
  | _, _, .tup h t => .tup (SqT.of h) (DxA.dp t)
theorem DxA.dp {K : Fg} : ∀ {vs : List V} {ds : List PyData}, DxA G vs ds → DpAll K G vs ds
  | _, _, .nil => .nil
  | _, _, .cons h t => .cons (Dx.dp h) (DxA.dp t)
end
theorem DxA.length : ∀ {vs : List V} {ds : List PyData}, DxA G vs ds → vs.length = ds.length
  | _, _, .nil => rfl
  | _, _, .cons _ t => congrArg Nat.succ (DxA.length t)
theorem DxA.append : ∀ {vs ws : List V} {ds es : List PyData}, DxA G vs ds → DxA G ws es → DxA G (vs ++ ws) (ds ++ es)
  | _, _, _, _, .nil, s => s
  | _, _, _, _, .cons r t, s => .cons r (DxA.append t s)
theorem DxA.get : ∀ {vs : List V} {ds : List PyData} {i : Nat} {d : PyData}, DxA G vs ds → ds[i]? = some d → ∃ v, vs[i]? = some v ∧ Dx G v d
  | _, _, _, _, .nil, e => by simp at e
  | _, _, 0, _, .cons r _, e => by simp at e; subst e; exact ⟨_, rfl, r⟩
  | _, _, i + 1, _, .cons _ t, e => by
    obtain ⟨v, h1, h2⟩ := DxA.get (i := i) t (by simpa using e)
    exact ⟨v, by simpa using h1, h2⟩
theorem DxA.got : ∀ {vs : List V} {ds : List PyData} {i : Nat} {v : V}, DxA G vs ds → vs[i]? = some v → ∃ d, ds[i]? = some d ∧ Dx G v d
  | _, _, _, _, .nil, e => by simp at e
  | _, _, 0, _, .cons r _, e => by simp at e; subst e; exact ⟨_, rfl, r⟩
  | _, _, i + 1, _, .cons _ t, e => by
    obtain ⟨d, h1, h2⟩ := DxA.got (i := i) t (by simpa using e)
    exact ⟨d, by simpa using h1, h2⟩
theorem DxA.take : ∀ {vs : List V} {ds : List PyData} (n : Nat), DxA G vs ds → DxA G (vs.take n) (ds.take n)
  | _, _, 0, _ => .nil
  | _, _, _ + 1, .nil => .nil
  | _, _, n + 1, .cons r t => .cons r (DxA.take n t)
theorem DxA.drop : ∀ {vs : List V} {ds : List PyData} (n : Nat), DxA G vs ds → DxA G (vs.drop n) (ds.drop n)
  | _, _, 0, r => r
  | _, _, _ + 1, .nil => .nil
  | _, _, n + 1, .cons _ t => DxA.drop n t
theorem DxA.reverse {vs : List V} {ds : List PyData} (h : DxA G vs ds) : DxA G vs.reverse ds.reverse := by
  induction vs generalizing ds with
  | nil => cases h; exact .nil
  | cons v vs ih => cases h with | cons r t => rw [List.reverse_cons, List.reverse_cons]; exact (ih t).append (.cons r .nil)
theorem DxA.eraseIdx : ∀ {vs : List V} {ds : List PyData} (i : Nat), DxA G vs ds → DxA G (vs.eraseIdx i) (ds.eraseIdx i)
  | _, _, _, .nil => .nil
  | _, _, 0, .cons _ t => t
  | _, _, i + 1, .cons r t => .cons r (DxA.eraseIdx i t)
theorem DxA.ints : ∀ {vs : List V} {ns : List Int}, DxA G vs (ns.map PyData.int) → vs = ns.map V.int
  | _, [], .nil => rfl
  | _, _ :: _, .cons (.int i) t => by rw [DxA.ints t] <;> rfl
theorem DxA.of_ints : ∀ ns : List Int, DxA G (ns.map V.int) (ns.map PyData.int)
  | [] => .nil
  | n :: ns => .cons (.int n) (DxA.of_ints ns)
theorem DxA.bools : ∀ {vs : List V} {ns : List Bool}, DxA G vs (ns.map PyData.bool) → vs = ns.map V.bl
  | _, [], .nil => rfl
  | _, _ :: _, .cons (.bl i) t => by rw [DxA.bools t] <;> rfl
theorem DxA.strs : ∀ {vs : List V} {ns : List Str}, DxA G vs (ns.map PyData.str) → vs = ns.map V.str
  | _, [], .nil => rfl
  | _, _ :: _, .cons (.str i) t => by rw [DxA.strs t] <;> rfl
theorem DxA.of_strs : ∀ ns : List Str, DxA G (ns.map V.str) (ns.map PyData.str)
  | [] => .nil
  | n :: ns => .cons (.str n) (DxA.of_strs ns)
theorem Dx.list_inv {ds : List PyData} (h : Dx G v (.list ds)) : ∃ a xs, v = .ref a ∧ G a = some (.lst xs) ∧ DxA G xs ds := by
  cases h with | lst e t => exact ⟨_, _, rfl, e, t⟩
theorem Dx.tup_inv {ds : List PyData} (h : Dx G v (.tuple ds)) : ∃ a xs, v = .ref a ∧ G a = some (.tup xs) ∧ DxA G xs ds := by
  cases h with | tup e t => exact ⟨_, _, rfl, e, t⟩
theorem Dx.int_inv {i : Int} (h : Dx G v (.int i)) : v = .int i := by cases h; rfl
theorem Dx.str_inv {i : Str} (h : Dx G v (.str i)) : v = .str i := by cases h; rfl
theorem Dx.bl_inv {i : Bool} (h : Dx G v (.bool i)) : v = .bl i := by cases h; rfl
theorem Dx.non_inv (h : Dx G v .none) : v = .non := by cases h; rfl
end

/-! ### what stays: G what is known for good, H the heap -/
structure Step (G H G' H' : Hp) : Prop where
  g : Ex G G'
  h : Ex H H'
  i : Ex G' H'
  s : ∀ a, H a ≠ none → G a = none → G' a = none
section
variable {G H G1 H1 G2 H2 : Hp}
theorem Step.refl (e : Ex G H) : Step G H G H := ⟨Ex.refl _, Ex.refl _, e, fun _ _ h => h⟩
theorem ex_some {H H' : Hp} {a : Addr} (e : Ex H H') (h : H a ≠ none) : H' a ≠ none := by
  cases q : H a with
  | none => exact absurd q h
  | some o => rw [e a o q]; intro z; cases z
theorem ex_none {H H' : Hp} {a : Addr} (e : Ex H H') (h : H' a = none) : H a = none := by
  cases q : H a with
  | none => rfl
  | some o => rw [e a o q] at h; cases h
theorem Step.trans (a : Step G H G1 H1) (b : Step G1 H1 G2 H2) : Step G H G2 H2 :=
  ⟨a.g.trans b.g, a.h.trans b.h, b.i, fun x h1 h2 => b.s x (ex_some a.h h1) (a.s x h1 h2)⟩
/-- a new object, not known yet -/
theorem Step.new {p : Addr} {o : HO} (a : Step G H G1 H1) (hp : H1 p = none) : Step G H G1 (upd H1 p o) :=
  ⟨a.g, a.h.trans (Ex.new hp), a.i.trans (Ex.new hp), a.s⟩
/-- an object of ours, not known, changes -/
theorem Step.mut {p : Addr} {o : HO} (a : Step G H G1 H1) (hp : H p = none) (hg : G1 p = none) : Step G H G1 (upd H1 p o) :=
  ⟨a.g, Ex.mut a.h hp, Ex.mut a.i hg, a.s⟩
/-- an object of ours is known from now on -/
theorem Step.pub {p : Addr} {o : HO} (a : Step G H G1 H1) (hp : H p = none) (hg : G1 p = none) (ho : H1 p = some o) : Step G H (upd G1 p o) H1 where
  g := a.g.trans (Ex.new hg)
  h := a.h
  i := fun b u e => by
    by_cases hb : b = p
    · subst hb; rw [upd_same] at e; cases e; exact ho
    · rw [upd_ne hb] at e; exact a.i b u e
  s := fun b h1 h2 => by
    have hb : b ≠ p := fun z => by subst z; exact h1 hp
    rw [upd_ne hb]; exact a.s b h1 h2
/-- a new object, known at once -/
theorem Step.add {p : Addr} {o : HO} (a : Step G H G1 H1) (hp : H1 p = none) : Step G H (upd G1 p o) (upd H1 p o) :=
  (a.new hp).pub (ex_none a.h hp) (ex_none a.i hp) upd_same
end

/-! ### what a value stands for -/
structure Rel where
  r : V → Hp → Prop
  mono : ∀ {v : V} {G G' : Hp}, Ex G G' → r v G → r v G'
def dt (d : PyData) : Rel := ⟨fun v G => Dx G v d, fun e h => Dx.mono e h⟩
inductive RAll : List Rel → List V → Hp → Prop where
  | nil {G : Hp} : RAll [] [] G
  | cons {G : Hp} {R : Rel} {Rs : List Rel} {v : V} {vs : List V} : R.r v G → RAll Rs vs G → RAll (R :: Rs) (v :: vs) G
theorem RAll.mono {G G' : Hp} (e : Ex G G') : ∀ {Rs : List Rel} {vs : List V}, RAll Rs vs G → RAll Rs vs G'
  | _, _, .nil => .nil
  | _, _, .cons (R := R) h t => .cons (R.mono e h) (RAll.mono e t)
theorem RAll.length {G : Hp} : ∀ {Rs : List Rel} {vs : List V}, RAll Rs vs G → vs.length = Rs.length
  | _, _, .nil => rfl
  | _, _, .cons _ t => congrArg Nat.succ (RAll.length t)
theorem RAll.dx {G : Hp} : ∀ {ds : List PyData} {vs : List V}, RAll (ds.map dt) vs G → DxA G vs ds
  | [], _, .nil => .nil
  | _ :: _, _, .cons h t => .cons h (RAll.dx t)

theorem RAll.front {G : Hp} {Rs : List Rel} {ys : List V} (h : RAll Rs ys G) : ∀ {es : List PyData} {vs : List V}, DxA G vs es → RAll (es.map dt ++ Rs) (vs ++ ys) G
  | _, _, .nil => h
  | _, _, .cons r t => .cons r (RAll.front h t)

/-! ### evaluations -/
def ED (te : TE) (σ : L2.St) (G : Hp) (R : Rel) : Prop := ∀ H, Ex G H → ∀ Q : VK, (∀ v G' H', Step G H G' H' → R.r v G' → Q v H') → te σ H Q
def ET (tt : TT) (σ : L2.St) (G : Hp) (b : Bool) : Prop := ∀ H, Ex G H → ∀ Q : Bool → Hp → Prop, (∀ G' H', Step G H G' H' → Q b H') → tt σ H Q
def EA (ta : TA) (σ : L2.St) (G : Hp) (Rs : List Rel) : Prop := ∀ H, Ex G H → ∀ Q : List V → Hp → Prop, (∀ vs G' H', Step G H G' H' → RAll Rs vs G' → Q vs H') → ta σ H Q
def EO (to : TO) (σ : L2.St) (G : Hp) (o : Option Int) : Prop := ∀ H, Ex G H → ∀ Q : Option Int → Hp → Prop, (∀ G' H', Step G H G' H' → Q o H') → to σ H Q
/-- two heaps' knowledge together -/
def un (G G' : Hp) : Hp := fun a => match G a with
  | some o => some o
  | none => G' a
theorem un_l {G G' : Hp} : Ex G (un G G') := fun a o e => by unfold un; rw [e]
theorem un_r {G G' H : Hp} (h : Ex G H) (h' : Ex G' H) : Ex G' (un G G') := fun a o e => by
  unfold un
  cases q : G a with
  | none => exact e
  | some u => have := h a u q; rw [h' a o e] at this; exact this.symm
theorem un_ex {G G' H : Hp} (h : Ex G H) (h' : Ex G' H) : Ex (un G G') H := fun a o e => by
  unfold un at e
  cases q : G a with
  | none => rw [q] at e; exact h' a o e
  | some u => rw [q] at e; cases e; exact h a _ q
/-- knowledge taken along -/
theorem Step.along {G G0 H G' H' : Hp} (e : Ex G G0) (e0 : Ex G0 H) (s : Step G H G' H') : Step G0 H (un G0 G') H' :=
  ⟨un_l, s.h, un_ex (e0.trans s.h) s.i, fun a h1 h2 => by
    unfold un; rw [h2]; exact s.s a h1 (ex_none e h2)⟩
section
variable {σ : L2.St} {G G' H : Hp} {ta tb tc te : TE} {t u : TT} {R S1 S2 S3 : Rel} {d e : PyData} {ds es : List PyData}
theorem ED.mono (x : Ex G G') (h : ED te σ G R) : ED te σ G' R := fun H e Q q => h H (x.trans e) Q fun v G1 H1 s r => q v _ H1 (s.along x e) (R.mono (un_r (e.trans s.h) s.i) r)
theorem ET.mono {b : Bool} (x : Ex G G') (h : ET t σ G b) : ET t σ G' b := fun H e Q q => h H (x.trans e) Q fun G1 H1 s => q _ H1 (s.along x e)
theorem EA.mono {ta : TA} {Rs : List Rel} (x : Ex G G') (h : EA ta σ G Rs) : EA ta σ G' Rs := fun H e Q q => h H (x.trans e) Q fun v G1 H1 s r => q v _ H1 (s.along x e) (r.mono (un_r (e.trans s.h) s.i))
theorem EO.mono {to : TO} {o : Option Int} (x : Ex G G') (h : EO to σ G o) : EO to σ G' o := fun H e Q q => h H (x.trans e) Q fun G1 H1 s => q _ H1 (s.along x e)
theorem ED.is {R' : Rel} (h : ED te σ G R) (e : R = R') : ED te σ G R' := e ▸ h
theorem ED.eq {d' : PyData} (h : ED te σ G (dt d)) (e : d = d') : ED te σ G (dt d') := e ▸ h
theorem ET.eq {b b' : Bool} (h : ET t σ G b) (e : b = b') : ET t σ G b' := e ▸ h
theorem ED.of {v : V} (hr : R.r v G) (h : ∀ H, Ex G H → ∀ Q : VK, Q v H → te σ H Q) : ED te σ G R := fun H e Q q => h H e Q (q v G H (.refl e) hr)
theorem ed_var {i : Nat} {v : V} (h : σ[i]? = some (some v)) (hr : R.r v G) : ED (tVar i) σ G R := .of hr fun _ _ _ q => ⟨v, h, q⟩
theorem ed_c {v : V} (hr : R.r v G) : ED (tC v) σ G R := .of hr fun _ _ _ q => q
theorem ed_int {i : Int} : ED (tC (.int i)) σ G (dt (.int i)) := ed_c (.int i)
theorem ed_str {i : Str} : ED (tC (.str i)) σ G (dt (.str i)) := ed_c (.str i)
theorem ed_bl {i : Bool} : ED (tC (.bl i)) σ G (dt (.bool i)) := ed_c (.bl i)
theorem ed_non : ED (tC .non) σ G (dt .none) := ed_c .non
/-- two in a row -/
theorem ed_two (ha : ED ta σ G S1) (hb : ED tb σ G S2) {P : Prop} (H : Hp) (e : Ex G H) {k : V → V → Hp → Prop} (q : ∀ x y G' H', Step G H G' H' → S1.r x G' → S2.r y G' → k x y H') : ta σ H fun x H1 => tb σ H1 fun y H2 => k x y H2 :=
  ha H e _ fun x G1 H1 s1 r1 => (hb.mono s1.g) H1 s1.i _ fun y G2 H2 s2 r2 => q x y G2 H2 (s1.trans s2) (S1.mono s2.g r1) r2
/-- an operation by values -/
def RV (r : R2) (x y : V) (G : Hp) (R : Rel) : Prop := ∀ H, Ex G H → ∀ Q : VK, (∀ v G' H', Step G H G' H' → R.r v G' → Q v H') → r x y H Q
theorem ed_op {r : R2} (ha : ED ta σ G S1) (hb : ED tb σ G S2) (hr : ∀ x y G', Ex G G' → S1.r x G' → S2.r y G' → RV r x y G' R) : ED (tOp r ta tb) σ G R := fun H e Q q =>
  ed_two (P := True) ha hb H e fun x y G1 H1 s r1 r2 => hr x y G1 s.g r1 r2 H1 s.i Q fun v G2 H2 s2 r3 => q v G2 H2 (s.trans s2) r3
theorem RV.of {r : R2} {x y z : V} (hr : R.r z G) (h : ∀ H, Ex G H → ∀ Q : VK, Q z H → r x y H Q) : RV r x y G R := fun H e Q q => h H e Q (q z G H (.refl e) hr)
theorem RV.orl {r r' : R2} {x y : V} (h : RV r x y G R) : RV (fun x y H Q => r x y H Q ∨ r' x y H Q) x y G R := fun H e Q q => .inl (h H e Q q)
theorem RV.orr {r r' : R2} {x y : V} (h : RV r' x y G R) : RV (fun x y H Q => r x y H Q ∨ r' x y H Q) x y G R := fun H e Q q => .inr (h H e Q q)
theorem rv_I0 {g : Int → Int → V} {i j : Int} (hr : R.r (g i j) G) : RV (rI0 g) (.int i) (.int j) G R := .of hr fun H e Q q => ⟨i, j, rfl, rfl, q⟩
theorem rv_I {C : Int → Int → Prop} {g : Int → Int → V} {i j : Int} (hc : C i j) (hr : R.r (g i j) G) : RV (rI C g) (.int i) (.int j) G R := .of hr fun H e Q q => ⟨i, j, rfl, rfl, hc, q⟩
theorem ed_I0 {g : Int → Int → V} {i j : Int} (ha : ED ta σ G (dt (.int i))) (hb : ED tb σ G (dt (.int j))) (hr : ∀ G', R.r (g i j) G') : ED (tOp (rI0 g) ta tb) σ G R :=
  ed_op ha hb fun x y G' _ h1 h2 => by
    rw [Dx.int_inv h1, Dx.int_inv h2]; exact rv_I0 (hr G')
theorem ed_I {C : Int → Int → Prop} {g : Int → Int → V} {i j : Int} (ha : ED ta σ G (dt (.int i))) (hb : ED tb σ G (dt (.int j))) (hc : C i j) (hr : ∀ G', R.r (g i j) G') : ED (tOp (rI C g) ta tb) σ G R :=
  ed_op ha hb fun x y G' _ h1 h2 => by
    rw [Dx.int_inv h1, Dx.int_inv h2]; exact rv_I hc (hr G')
theorem ed_sub {i j : Int} (ha : ED ta σ G (dt (.int i))) (hb : ED tb σ G (dt (.int j))) : ED (tOp (rI0 fun i j => .int (i - j)) ta tb) σ G (dt (.int (i - j))) := ed_I0 ha hb fun _ => .int _

/-! ### arguments, displays -/
theorem ea_nil : EA tNil σ G [] := fun H e Q q => q [] G H (.refl e) .nil
theorem ea_cons {tr : TA} {Rs : List Rel} (h : ED te σ G R) (hr : EA tr σ G Rs) : EA (tCons te tr) σ G (R :: Rs) := fun H e Q q =>
  h H e _ fun x G1 H1 s1 r1 => (hr.mono s1.g) H1 s1.i _ fun xs G2 H2 s2 r2 => q _ G2 H2 (s1.trans s2) (.cons (R.mono s2.g r1) r2)
/-- arguments that are data -/
def EAD (ta : TA) (σ : L2.St) (G : Hp) (ds : List PyData) : Prop := EA ta σ G (ds.map dt)
theorem ead_nil : EAD tNil σ G [] := ea_nil
theorem ead_cons {tr : TA} (h : ED te σ G (dt d)) (hr : EAD tr σ G ds) : EAD (tCons te tr) σ G (d :: ds) := ea_cons h hr
theorem sz_of {n : Nat} (h : n ≤ 100000) : n ≤ sizeLine := Nat.le_trans h (by decide)
theorem sz_lt {n : Nat} (h : n < 100000) : n < sizeLine := Nat.lt_of_lt_of_le h (by decide)
theorem ed_tup {ta : TA} (h : EAD ta σ G ds) (hl : ds.length ≤ 100000) : ED (tTup ta) σ G (dt (.tuple ds)) := fun H e Q q =>
  h H e _ fun vs G1 H1 s r => ⟨by rw [r.length, List.length_map]; exact sz_of hl, fun p hp => q _ _ _ (s.add hp) (.tup upd_same ((RAll.dx r).mono (Ex.new (ex_none s.i hp))))⟩
theorem ed_lst {ta : TA} (h : EAD ta σ G ds) (hl : ds.length ≤ 100000) : ED (tLst ta) σ G (dt (.list ds)) := fun H e Q q =>
  h H e _ fun vs G1 H1 s r => ⟨by rw [r.length, List.length_map]; exact sz_of hl, fun p hp => q _ _ _ (s.add hp) (.lst upd_same ((RAll.dx r).mono (Ex.new (ex_none s.i hp))))⟩
/-- a star ahead of the rest -/
theorem ead_star {K : Fg} {tr : TA} (h : ED te σ G (dt (.tuple es))) (hr : EAD tr σ G ds) : EAD (StX.tStar K te tr) σ G (es ++ ds) := fun H e Q q =>
  h H e _ fun x G1 H1 s1 r1 => by
    obtain ⟨a, xs, rfl, ha, hx⟩ := Dx.tup_inv r1
    refine ⟨a, xs, rfl, .inl (SqT.of (s1.i _ _ ha)), ?_⟩
    refine (EA.mono s1.g hr) H1 s1.i _ fun ys G2 H2 s2 r2 => q _ G2 H2 (s1.trans s2) ?_
    rw [List.map_append]
    exact r2.front (hx.mono s2.g)
theorem ead_starL {K : Fg} {tr : TA} (h : ED te σ G (dt (.list es))) (hr : EAD tr σ G ds) : EAD (StX.tStar K te tr) σ G (es ++ ds) := fun H e Q q =>
  h H e _ fun x G1 H1 s1 r1 => by
    obtain ⟨a, xs, rfl, ha, hx⟩ := Dx.list_inv r1
    refine ⟨a, xs, rfl, .inr (SqL.of (s1.i _ _ ha)), ?_⟩
    refine (EA.mono s1.g hr) H1 s1.i _ fun ys G2 H2 s2 r2 => q _ G2 H2 (s1.trans s2) ?_
    rw [List.map_append]
    exact r2.front (hx.mono s2.g)

/-! ### tests -/
theorem et_tru {K : Fg} {b : Bool} (h : ED te σ G R) (hb : ∀ x G' H', Ex G' H' → R.r x G' → TruV K x H' b) : ET (fun σ H Q => te σ H fun x H' => ∃ k, TruV K x H' k ∧ Q k H') σ G b := fun H e Q q =>
  h H e _ fun x G1 H1 s r => ⟨b, hb x G1 H1 s.i r, q G1 H1 s⟩
theorem et_bool {K : Fg} {b : Bool} (h : ED te σ G (dt (.bool b))) : ET (fun σ H Q => te σ H fun x H' => ∃ k, TruV K x H' k ∧ Q k H') σ G b :=
  et_tru h fun x G' H' _ r => by rw [Dx.bl_inv r]; exact rfl
theorem et_int {K : Fg} {i : Int} (h : ED te σ G (dt (.int i))) : ET (fun σ H Q => te σ H fun x H' => ∃ k, TruV K x H' k ∧ Q k H') σ G (i != 0) :=
  et_tru h fun x G' H' _ r => by rw [Dx.int_inv r]; exact rfl
theorem et_test {b : Bool} (h : ED te σ G (dt (.bool b))) : ET (tTest te) σ G b := fun H e Q q => h H e _ fun x G1 H1 s r => ⟨b, Dx.bl_inv r, q G1 H1 s⟩
theorem et_B {b : Bool} (h : ED te σ G (dt (.bool b))) : ET (tB te) σ G b := fun H e Q q => h H e _ fun x G1 H1 s r => ⟨b, Dx.bl_inv r, q G1 H1 s⟩
theorem et_and {a b : Bool} (h1 : ET t σ G a) (h2 : a = true → ET u σ G b) : ET (tAnd t u) σ G (a && b) := fun H e Q q => h1 H e _ fun G1 H1 s1 => by
  cases a with
  | true => exact ((h2 rfl).mono s1.g) H1 s1.i Q fun G2 H2 s2 => q G2 H2 (s1.trans s2)
  | false => exact q G1 H1 s1
theorem et_or {a b : Bool} (h1 : ET t σ G a) (h2 : a = false → ET u σ G b) : ET (tOr t u) σ G (a || b) := fun H e Q q => h1 H e _ fun G1 H1 s1 => by
  cases a with
  | true => exact q G1 H1 s1
  | false => exact ((h2 rfl).mono s1.g) H1 s1.i Q fun G2 H2 s2 => q G2 H2 (s1.trans s2)
theorem et_not {a : Bool} (h1 : ET t σ G a) : ET (tNot t) σ G (!a) := fun H e Q q => h1 H e _ fun G1 H1 s1 => q G1 H1 s1
theorem et_yes : ET tYes σ G true := fun H e Q q => q G H (.refl e)
theorem ed_andV {a b : Bool} (h1 : ED ta σ G (dt (.bool a))) (h2 : a = true → ED tb σ G (dt (.bool b))) : ED (tAndV ta tb) σ G (dt (.bool (a && b))) := fun H e Q q => h1 H e _ fun x G1 H1 s1 r1 => ⟨a, Dx.bl_inv r1, by
  cases a with
  | true => exact ((h2 rfl).mono s1.g) H1 s1.i Q fun v G2 H2 s2 r2 => q v G2 H2 (s1.trans s2) r2
  | false => exact q _ G1 H1 s1 (.bl false)⟩
theorem ed_orV {a b : Bool} (h1 : ED ta σ G (dt (.bool a))) (h2 : a = false → ED tb σ G (dt (.bool b))) : ED (tOrV ta tb) σ G (dt (.bool (a || b))) := fun H e Q q => h1 H e _ fun x G1 H1 s1 r1 => ⟨a, Dx.bl_inv r1, by
  cases a with
  | true => exact q _ G1 H1 s1 (.bl true)
  | false => exact ((h2 rfl).mono s1.g) H1 s1.i Q fun v G2 H2 s2 r2 => q v G2 H2 (s1.trans s2) r2⟩
theorem ed_notV {a : Bool} (h1 : ED ta σ G (dt (.bool a))) : ED (tNotV ta) σ G (dt (.bool (!a))) := fun H e Q q => h1 H e _ fun x G1 H1 s1 r1 => ⟨a, Dx.bl_inv r1, q _ G1 H1 s1 (.bl _)⟩
theorem ed_if {b : Bool} (h : ET t σ G b) (h1 : b = true → ED ta σ G R) (h2 : b = false → ED tb σ G R) : ED (tIf t ta tb) σ G R := fun H e Q q => h H e _ fun G1 H1 s1 => by
  cases b with
  | true => exact ((h1 rfl).mono s1.g) H1 s1.i Q fun v G2 H2 s2 r2 => q v G2 H2 (s1.trans s2) r2
  | false => exact ((h2 rfl).mono s1.g) H1 s1.i Q fun v G2 H2 s2 r2 => q v G2 H2 (s1.trans s2) r2
end
end RT
end
section
set_option maxRecDepth 100000
set_option maxHeartbeats 2000000
/-! RTCalc2: the rules that serve any of several kinds, and what they come to. -/
namespace RT
open PySem PySem.Spec PyProof.Rows L2
open Evl (Ex Ex.refl Ex.trans Ex.new Ex.mut)

/-! ### rules for any kind -/
section
variable {X : Cx}
def rAddU (K : Fg) : R2 := fun x y H Q => rI0 (fun i j => .int (i + j)) x y H Q ∨ (rCat x y H Q ∨ rCatA K x y H Q)
theorem op_addU (K : Fg) (hK : X.K = K := by rfl) : OpR X (binaryOp .Add) (rAddU K) := by subst hK; exact op_add.or (op_cat.or op_catA)
def rMulU : R2 := fun x y H Q => rI CMul (fun i j => .int (i * j)) x y H Q ∨ rRep x y H Q
theorem op_mulU : OpR X (binaryOp .Mult) rMulU := op_mul.or op_rep
def rLtU (K : Fg) : R2 := fun x y H Q => rI0 (fun i j => .bl (decide (i < j))) x y H Q ∨ rLtT K x y H Q
theorem op_ltU (K : Fg) (hu : X.A.units < cLine) (hK : X.K = K := by rfl) : OpR X (compareOp .Lt) (rLtU K) := by subst hK; exact op_lt.or (op_ltT hu)
def rInU (K : Fg) : R2 := fun x y H Q => (∃ (c : Nat) (z : Str), x = .str ⟨#[c]⟩ ∧ y = .str z ∧ Q (.bl (decide (c ∈ z.cps.toList))) H) ∨ (rIn K false x y H Q ∨ rInD K x y H Q)
theorem op_inU (K : Fg) (hu : X.A.units + 65 < cLine) (hK : X.K = K := by rfl) : OpR X (compareOp .In) (rInU K) := by subst hK; exact op_in_sign.or (op_in_seq.or (op_inD hu))
def rNinU (K : Fg) : R2 := fun x y H Q => rIn K true x y H Q ∨ rNotInD K x y H Q
theorem op_ninU (K : Fg) (hu : X.A.units + 65 < cLine) (hK : X.K = K := by rfl) : OpR X (compareOp .NotIn) (rNinU K) := by subst hK; exact op_notIn_seq.or (op_notInD hu)
theorem op_eqK (K : Fg) (hu : X.A.units + 64 < cLine) (hK : X.K = K := by rfl) : OpR X (compareOp .Eq) (rEqD K) := by subst hK; exact op_eqD hu
theorem op_neK (K : Fg) (hu : X.A.units + 64 < cLine) (hK : X.K = K := by rfl) : OpR X (compareOp .NotEq) (rNeD K) := by subst hK; exact op_neD hu
def rIsN : R2 := fun x y H Q => y = .non ∧ Q (.bl (decide (x = .non))) H
theorem op_isN1 : OpR X (compareOp .Is) rIsN := op_isN
def rNotN : R2 := fun x y H Q => y = .non ∧ Q (.bl (!decide (x = .non))) H
theorem op_notN1 : OpR X (compareOp .IsNot) rNotN := op_notN
def rLe : R2 := rI0 fun i j => .bl (decide (i ≤ j))
theorem op_le1 : OpR X (compareOp .LtE) rLe := op_le
def rGt : R2 := rI0 fun i j => .bl (decide (j < i))
theorem op_gt1 : OpR X (compareOp .Gt) rGt := op_gt
def rGe : R2 := rI0 fun i j => .bl (decide (j ≤ i))
theorem op_ge1 : OpR X (compareOp .GtE) rGe := op_ge
def rModN : R2 := rI (fun _ j => j ≠ 0) fun i j => .int (i.fmod j)
theorem op_mod1 : OpR X (binaryOp .Mod) rModN := op_modN
def rFdivN : R2 := rI CDivN fun i j => .int (i.fdiv j)
theorem op_fdiv1 : OpR X (binaryOp .FloorDiv) rFdivN := op_fdivN
def rAnd : R2 := rI0 fun i j => .int (Builtin.bitAnd i j)
theorem op_and1 : OpR X (binaryOp .BitAnd) rAnd := op_and
def rSubI : R2 := rI0 fun i j => .int (i - j)
theorem op_sub1 : OpR X (binaryOp .Sub) rSubI := op_sub
def rPow : R2 := rI CPow fun i j => .int (i ^ j.toNat)
theorem op_pow1 : OpR X (binaryOp .Pow) rPow := op_pow
def rNeg : V → Hp → VK → Prop := rU fun i => .int (-i)
theorem un_neg1 : UnR X (unaryOp .USub) rNeg := un_neg
/-- len of anything -/
def rLenU (K : Fg) : List V → Hp → VK → Prop := fun xs H Q =>
  (∃ p ys, xs = [.ref p] ∧ (SqL K H p ys ∨ SqT K H p ys) ∧ Q (.int ys.length) H) ∨ ((∃ z, xs = [.str z] ∧ z.length ≤ sizeLine ∧ Q (.int z.length) H) ∨ ((∃ (d : Addr) (kvs : List (Key × V)), xs = [.ref d] ∧ H d = some (.dK kvs) ∧ Q (.int kvs.length) H)))
theorem call_lenU (K : Fg) (hK : X.K = K := by rfl) : CallR X (.builtin "len") (rLenU K) := by subst hK; exact call_len_seq.or (call_len_str.or call_lenD)
def rTupOf (K : Fg) : List V → Hp → VK → Prop := fun xs H Q => ∃ p ys, xs = [.ref p] ∧ ((SqL K H p ys ∧ ∀ l, H l = none → Q (.ref l) (upd H l (.tup ys))) ∨ SqT K H p ys ∧ Q (.ref p) H)
theorem call_tupleU (K : Fg) (hK : X.K = K := by rfl) : CallR X (.type "tuple") (rTupOf K) := by subst hK; exact call_tuple_of
def rLstOf (K : Fg) : List V → Hp → VK → Prop := fun xs H Q => ∃ p ys, xs = [.ref p] ∧ (SqL K H p ys ∨ SqT K H p ys) ∧ ∀ l, H l = none → Q (.ref l) (upd H l (.lst ys))
theorem call_listU (K : Fg) (hK : X.K = K := by rfl) : CallR X (.type "list") (rLstOf K) := by subst hK; exact call_list_of
def rInt1 : List V → Hp → VK → Prop := fun xs H Q => (∃ i, xs = [.int i] ∧ Q (.int i) H) ∨ ∃ k : Bool, xs = [.bl k] ∧ Q (.int (if k = true then 1 else 0)) H
theorem call_intU : CallR X (.type "int") rInt1 := call_int1
def rMax2 : List V → Hp → VK → Prop := fun xs H Q => ∃ i j, xs = [.int i, .int j] ∧ Q (.int (if j > i then j else i)) H
theorem call_maxU (hc : X.calm = true := by rfl) : CallR X (.builtin "max") rMax2 := call_max2 hc
def rMinU (K : Fg) : List V → Hp → VK → Prop := fun xs H Q => (∃ i j, xs = [.int i, .int j] ∧ Q (.int (if j < i then j else i)) H) ∨ rMin K xs H Q
theorem call_minU (K : Fg) (hc : X.calm = true := by rfl) (hK : X.K = K := by rfl) : CallR X (.builtin "min") (rMinU K) := by subst hK; exact (call_min2 hc).or (cr_min hc)
def rSrtU (K : Fg) : List V → Hp → VK → Prop := fun xs H Q => rSorted K xs H Q ∨ rSortedS K xs H Q
theorem call_sortedU (K : Fg) (hK : X.K = K := by rfl) : CallR X (.builtin "sorted") (rSrtU K) := by subst hK; exact cr_sorted.or cr_sortedS
def rDctP (K : Fg) : List V → Hp → VK → Prop := fun xs H Q => ∃ (a : Addr) (ps : List Addr) (kvs : List (Key × V)), xs = [.ref a] ∧ SqL K H a (ps.map V.ref) ∧ Paired (fun p kv => SqT K H p [kV kv.1, kv.2]) ps kvs ∧ ∀ p, H p = none → Q (.ref p) (upd H p (.dK (mergeK [] kvs)))
theorem call_dictU (K : Fg) (hc : X.calm = true := by rfl) (hK : X.K = K := by rfl) : CallR X (.type "dict") (rDctP K) := by subst hK; exact call_dictP hc
def rIsiU (K : Fg) : List V → Hp → VK → Prop := fun xs H Q => rIsi K xs H Q ∨ rIsiT K xs H Q
theorem call_isiU (K : Fg) (hK : X.K = K := by rfl) : CallR X (.builtin "isinstance") (rIsiU K) := by subst hK; exact call_isi.or call_isiT
theorem call_sumU (K : Fg) (hc : X.calm = true := by rfl) (hK : X.K = K := by rfl) : CallR X (.builtin "sum") (rSum K) := by subst hK; exact cr_sum hc
theorem call_anyU (K : Fg) (hc : X.calm = true := by rfl) (hK : X.K = K := by rfl) : CallR X (.builtin "any") (rAny K) := by subst hK; exact cr_any hc
theorem call_allU (K : Fg) (hc : X.calm = true := by rfl) (hK : X.K = K := by rfl) : CallR X (.builtin "all") (rAll K) := by subst hK; exact cr_all hc
theorem ix_seqK (K : Fg) (hK : X.K = K := by rfl) : IxR X (rIx K) := by subst hK; exact ix_seq
theorem sl_listK (K : Fg) (hK : X.K = K := by rfl) : SlR X (rSlL K) := by subst hK; exact sl_list
theorem pe_fldK (K : Fg) {e : Expr} {f : Str} {pos : Pos} {ta : TE} (h : PE X e ta) (hb : attributeBase e f X.env (eval e X.env) = eval e X.env := by rfl) (hK : X.K = K := by rfl) : PE X (.Attribute e f pos) (tFld K ta f) := by subst hK; exact pe_fld h hb
def tTruth (K : Fg) (te : TE) : TT := fun σ H Q => te σ H fun x H' => ∃ k, TruV K x H' k ∧ Q k H'
theorem pt_truthK (K : Fg) {e : Expr} {te : TE} (h : PE X e te) (he : ∀ whole, isTrue e X.env whole = (do let v ← whole; standAt e.pos; holding [v] (truthy v)) := by intro _; rfl) (hK : X.K = K := by rfl) : PT X e (tTruth K te) := by subst hK; exact pt_truth h he
theorem pe_notTK (K : Fg) {e : Expr} {te : TE} {pos : Pos} (h : PE X e te) (hK : X.K = K := by rfl) : PE X (.UnaryOp .Not e pos) (tNotT K te) := by subst hK; exact pe_notT h
theorem pa_starK (K : Fg) {e : Expr} {es : List Expr} {te : TE} {t : TA} {p : Pos} (he : PE X e te) (hr : PA X es t) (hs : starEach (.Starred e p :: es) X.env = (true, eval e X.env) :: starEach es X.env := by rfl) (hK : X.K = K := by rfl) : PA X (.Starred e p :: es) (StX.tStar K te t) := by subst hK; exact StX.pa_star he hr hs
theorem pi_listK (K : Fg) {tg l : Expr} {tl : TE} (h : PE X l tl) (hK : X.K = K := by rfl) : PI X tg l (iList K tl) := by subst hK; exact pi_list h
theorem pi_tupK (K : Fg) {tg l : Expr} {tl : TE} (h : PE X l tl) (hK : X.K = K := by rfl) : PI X tg l (iTup K tl) := by subst hK; exact pi_tup h
theorem pi_enumK (K : Fg) {elts : List Expr} {kk : Nat} {tpos p pos : Pos} {e : Expr} {ta : TA} (hg : Gl X "enumerate") (hm : X.mg "enumerate" = none) (h : PA X [e] ta) (hs : starEach [e] X.env = [(false, eval e X.env)] := by rfl) (hK : X.K = K := by rfl) : PI X (.Tuple elts kk tpos) (.Call (.Name "enumerate" p) [e] [] pos) (iEnum K ta) := by subst hK; exact pi_enum hg hm h hs
theorem pi_zipK (K : Fg) {elts : List Expr} {kk : Nat} {tpos p pos : Pos} {e e2 : Expr} {ta : TA} (hg : Gl X "zip") (hm : X.mg "zip" = none) (h : PA X [e, e2] ta) (hs : starEach [e, e2] X.env = (false, eval e X.env) :: starEach [e2] X.env := by rfl) (hpl : (backTo pos (starEach [e2] X.env)).any (·.1) = false := by rfl) (hK : X.K = K := by rfl) : PI X (.Tuple elts kk tpos) (.Call (.Name "zip" p) [e, e2] [] pos) (iZip K ta) := by subst hK; exact pi_zip hg hm h hs hpl
theorem pg_tupK (K : Fg) {es : List Expr} {k n : Nat} {pos : Pos} {t : TGs} (h : PGs X es t) (hc : X.calm = true := by rfl) (hn : (assignEach es X.env).length = n := by rfl) (hf : (assignEach es X.env).findIdx? (fun x => x.1) = none := by rfl) (hK : X.K = K := by rfl) : PG X (.Tuple es k pos) (gTup K n t) := by subst hK; exact pg_tup hc h hn hf
theorem pg_unlK (K : Fg) {es : List Expr} {k n : Nat} {pos : Pos} {t : TGs} (h : PGs X es t) (hc : X.calm = true := by rfl) (hn : (assignEach es X.env).length = n := by rfl) (hf : (assignEach es X.env).findIdx? (fun x => x.1) = none := by rfl) (hK : X.K = K := by rfl) : PG X (.Tuple es k pos) (gUnl K n t) := by subst hK; exact pg_unl hc h hn hf
/-- a whole number that the module binds -/
theorem pe_gint {x : Str} {i : Int} {pos : Pos} (hg : Gl X x) (hm : ∃ t, X.mg x = some (.int i t)) (hd : (x == ("__debug__" : Str)) = false := by decide) : PE X (.Name x pos) (tC (.int i)) := by
  obtain ⟨t, hm⟩ := hm
  exact pe_glob hg hm ⟨t, rfl⟩ hd
theorem pe_gstr {x : Str} {i : Str} {pos : Pos} (hg : Gl X x) (hm : ∃ t, X.mg x = some (.str i t)) (hd : (x == ("__debug__" : Str)) = false := by decide) : PE X (.Name x pos) (tC (.str i)) := by
  obtain ⟨t, hm⟩ := hm
  exact pe_glob hg hm ⟨t, rfl⟩ hd
end

/-! ### what they come to -/
section
variable {σ : L2.St} {G G' H : Hp} {ta tb tc te : TE} {t u : TT} {R S1 S2 S3 : Rel} {d e : PyData} {ds es : List PyData} {K : Fg} {i j : Int}
theorem ed_add (ha : ED ta σ G (dt (.int i))) (hb : ED tb σ G (dt (.int j))) : ED (tOp (rAddU K) ta tb) σ G (dt (.int (i + j))) := ed_op ha hb fun x y G' _ h1 h2 => by
  rw [Dx.int_inv h1, Dx.int_inv h2]; exact RV.orl (rv_I0 (.int _))
theorem ed_cat (ha : ED ta σ G (dt (.list ds))) (hb : ED tb σ G (dt (.list es))) (hz : ds.length + es.length ≤ 100000) : ED (tOp (rAddU K) ta tb) σ G (dt (.list (ds ++ es))) := ed_op ha hb fun x y G' _ h1 h2 => by
  obtain ⟨a, xs, rfl, ea, hx⟩ := Dx.list_inv h1
  obtain ⟨b, ys, rfl, eb, hy⟩ := Dx.list_inv h2
  intro H e Q q
  refine .inr (.inl ⟨a, b, xs, ys, rfl, rfl, e _ _ ea, e _ _ eb, by rw [hx.length, hy.length]; exact sz_of hz, fun p hp => ?_⟩)
  exact q _ _ _ ((Step.refl e).add hp) (.lst upd_same ((hx.append hy).mono (Ex.new (ex_none e hp))))
theorem ed_catT (ha : ED ta σ G (dt (.tuple ds))) (hb : ED tb σ G (dt (.tuple es))) (hz : ds.length + es.length ≤ 100000) : ED (tOp (rAddU K) ta tb) σ G (dt (.tuple (ds ++ es))) := ed_op ha hb fun x y G' _ h1 h2 => by
  obtain ⟨a, xs, rfl, ea, hx⟩ := Dx.tup_inv h1
  obtain ⟨b, ys, rfl, eb, hy⟩ := Dx.tup_inv h2
  intro H e Q q
  refine .inr (.inr ⟨a, b, xs, ys, rfl, rfl, SqT.of (e _ _ ea), SqT.of (e _ _ eb), by rw [hx.length, hy.length]; exact sz_of hz, fun z => ?_, fun z1 z2 => ?_, fun z1 z2 p hp => ?_⟩)
  · subst z; cases hx; exact q _ G' H (.refl e) (.tup eb hy)
  · subst z2; cases hy; rw [List.append_nil] at q; exact q _ G' H (.refl e) (.tup ea hx)
  · exact q _ _ _ ((Step.refl e).add hp) (.tup upd_same ((hx.append hy).mono (Ex.new (ex_none e hp))))
theorem ed_mul (ha : ED ta σ G (dt (.int i))) (hb : ED tb σ G (dt (.int j))) (hc : CMul i j) : ED (tOp rMulU ta tb) σ G (dt (.int (i * j))) := ed_op ha hb fun x y G' _ h1 h2 => by
  rw [Dx.int_inv h1, Dx.int_inv h2]; exact RV.orl (rv_I hc (.int _))
theorem DxA.rep {xs : List V} (hx : DxA G xs ds) : ∀ k : Nat, DxA G (List.replicate k xs).flatten (List.replicate k ds).flatten
  | 0 => .nil
  | k + 1 => by
    rw [List.replicate_succ, List.replicate_succ, List.flatten_cons, List.flatten_cons]
    exact hx.append (DxA.rep hx k)
theorem ed_rep (ha : ED ta σ G (dt (.list ds))) (hb : ED tb σ G (dt (.int j))) (h1 : 0 ≤ j ∧ j ≤ 1000) (hz : ds.length * j.toNat ≤ 100000) : ED (tOp rMulU ta tb) σ G (dt (.list (List.replicate j.toNat ds).flatten)) := ed_op ha hb fun x y G' _ r1 r2 => by
  obtain ⟨a, xs, rfl, ea, hx⟩ := Dx.list_inv r1
  rw [Dx.int_inv r2]
  intro H e Q q
  refine .inr ⟨a, j, xs, rfl, rfl, e _ _ ea, by omega, by omega, by rw [hx.length]; exact sz_of hz, fun p hp => ?_⟩
  exact q _ _ _ ((Step.refl e).add hp) (.lst upd_same ((DxA.rep hx _).mono (Ex.new (ex_none e hp))))
theorem ed_subI (ha : ED ta σ G (dt (.int i))) (hb : ED tb σ G (dt (.int j))) : ED (tOp rSubI ta tb) σ G (dt (.int (i - j))) := ed_I0 ha hb fun _ => .int _
theorem ed_and (ha : ED ta σ G (dt (.int i))) (hb : ED tb σ G (dt (.int j))) : ED (tOp rAnd ta tb) σ G (dt (.int (Builtin.bitAnd i j))) := ed_I0 ha hb fun _ => .int _
theorem ed_mod (ha : ED ta σ G (dt (.int i))) (hb : ED tb σ G (dt (.int j))) (hj : j ≠ 0) : ED (tOp rModN ta tb) σ G (dt (.int (i.fmod j))) := ed_I ha hb hj fun _ => .int _
theorem ed_fdiv (ha : ED ta σ G (dt (.int i))) (hb : ED tb σ G (dt (.int j))) (hj : CDivN i j) : ED (tOp rFdivN ta tb) σ G (dt (.int (i.fdiv j))) := ed_I ha hb hj fun _ => .int _
theorem ed_pow (ha : ED ta σ G (dt (.int i))) (hb : ED tb σ G (dt (.int j))) (hj : CPow i j) : ED (tOp rPow ta tb) σ G (dt (.int (i ^ j.toNat))) := ed_I ha hb hj fun _ => .int _
theorem ed_neg (ha : ED ta σ G (dt (.int i))) : ED (tUn rNeg ta) σ G (dt (.int (-i))) := fun H e Q q => ha H e _ fun x G1 H1 s r => ⟨i, Dx.int_inv r, q _ G1 H1 s (.int _)⟩
theorem ed_le (ha : ED ta σ G (dt (.int i))) (hb : ED tb σ G (dt (.int j))) : ED (tOp rLe ta tb) σ G (dt (.bool (decide (i ≤ j)))) := ed_I0 ha hb fun _ => .bl _
theorem ed_gt (ha : ED ta σ G (dt (.int i))) (hb : ED tb σ G (dt (.int j))) : ED (tOp rGt ta tb) σ G (dt (.bool (decide (j < i)))) := ed_I0 ha hb fun _ => .bl _
theorem ed_ge (ha : ED ta σ G (dt (.int i))) (hb : ED tb σ G (dt (.int j))) : ED (tOp rGe ta tb) σ G (dt (.bool (decide (j ≤ i)))) := ed_I0 ha hb fun _ => .bl _
theorem ed_lt (ha : ED ta σ G (dt (.int i))) (hb : ED tb σ G (dt (.int j))) : ED (tOp (rLtU K) ta tb) σ G (dt (.bool (decide (i < j)))) := ed_op ha hb fun x y G' _ h1 h2 => by
  rw [Dx.int_inv h1, Dx.int_inv h2]; exact RV.orl (rv_I0 (.bl _))
theorem ed_ltT {ns ms : List Int} (ha : ED ta σ G (dt (.tuple (ns.map .int)))) (hb : ED tb σ G (dt (.tuple (ms.map .int)))) : ED (tOp (rLtU K) ta tb) σ G (dt (.bool (HT.lexLt ns ms))) := ed_op ha hb fun x y G' _ h1 h2 => by
  obtain ⟨a, xs, rfl, ea, hx⟩ := Dx.tup_inv h1
  obtain ⟨b, ys, rfl, eb, hy⟩ := Dx.tup_inv h2
  rw [hx.ints] at ea; rw [hy.ints] at eb
  intro H e Q q
  exact .inr ⟨a, b, ns, ms, rfl, rfl, SqT.of (e _ _ ea), SqT.of (e _ _ eb), q _ G' H (.refl e) (.bl _)⟩
/-- == and != of data -/
theorem ed_eq (ha : ED ta σ G (dt d)) (hb : ED tb σ G (dt e)) (h1 : SeqAt.shaped d = true) (h2 : SeqAt.shaped e = true) : ED (tOp (rEqD K) ta tb) σ G (dt (.bool (PyData.eqv d e))) := ed_op ha hb fun x y G' _ r1 r2 => by
  intro H x Q q
  exact ⟨d, e, (Dx.mono x r1).dp, (Dx.mono x r2).dp, h1, h2, q _ G' H (.refl x) (.bl _)⟩
theorem ed_ne (ha : ED ta σ G (dt d)) (hb : ED tb σ G (dt e)) (h1 : SeqAt.shaped d = true) (h2 : SeqAt.shaped e = true) : ED (tOp (rNeD K) ta tb) σ G (dt (.bool (!PyData.eqv d e))) := ed_op ha hb fun x y G' _ r1 r2 => by
  intro H x Q q
  exact ⟨d, e, (Dx.mono x r1).dp, (Dx.mono x r2).dp, h1, h2, q _ G' H (.refl x) (.bl _)⟩
theorem ed_isN (ha : ED ta σ G (dt d)) : ED (tOp rIsN ta (tC .non)) σ G (dt (.bool (match d with | .none => true | _ => false))) := ed_op ha ed_non fun x y G' _ r1 r2 => by
  intro H x Q q
  have e1 := Dx.non_inv r2
  subst e1
  refine ⟨rfl, ?_⟩
  cases r1 <;> exact q _ G' H (.refl x) (.bl _)
theorem ed_notN (ha : ED ta σ G (dt d)) : ED (tOp rNotN ta (tC .non)) σ G (dt (.bool (match d with | .none => false | _ => true))) := ed_op ha ed_non fun x y G' _ r1 r2 => by
  intro H x Q q
  have e1 := Dx.non_inv r2
  subst e1
  refine ⟨rfl, ?_⟩
  cases r1 <;> exact q _ G' H (.refl x) (.bl _)
/-! #### in -/
theorem flat_strs : ∀ ss : List Str, (ss.map V.str).all flatV = true
  | [] => rfl
  | s :: ss => by rw [List.map_cons, List.all_cons, flat_strs ss]; rfl
theorem inV_strs (s : Str) : ∀ ss : List Str, inV (.str s) (ss.map V.str) = decide (s ∈ ss)
  | [] => rfl
  | x :: ss => by
    have ih := inV_strs s ss
    unfold inV at ih ⊢
    rw [List.map_cons, List.any_cons, ih]
    show (decide (x = s) || decide (s ∈ ss)) = _
    by_cases h1 : x = s <;> by_cases h2 : s ∈ ss <;> simp [h1, h2, Ne.symm, eq_comm]
    all_goals (intro z; exact absurd z.symm h1)
theorem ed_inT {s : Str} {ss : List Str} (ha : ED ta σ G (dt (.str s))) (hb : ED tb σ G (dt (.tuple (ss.map .str)))) : ED (tOp (rInU K) ta tb) σ G (dt (.bool (decide (s ∈ ss)))) := ed_op ha hb fun x y G' _ r1 r2 => by
  obtain ⟨b, ys, rfl, eb, hy⟩ := Dx.tup_inv r2
  rw [Dx.str_inv r1]; rw [hy.strs] at eb
  intro H e Q q
  refine .inr (.inl ⟨b, _, rfl, .inr (SqT.of (e _ _ eb)), rfl, flat_strs ss, ?_⟩)
  show Q (.bl (inV (.str s) (ss.map V.str))) H
  rw [inV_strs]
  exact q _ G' H (.refl e) (.bl _)
theorem ed_inL {s : Str} {ss : List Str} (ha : ED ta σ G (dt (.str s))) (hb : ED tb σ G (dt (.list (ss.map .str)))) : ED (tOp (rInU K) ta tb) σ G (dt (.bool (decide (s ∈ ss)))) := ed_op ha hb fun x y G' _ r1 r2 => by
  obtain ⟨b, ys, rfl, eb, hy⟩ := Dx.list_inv r2
  rw [Dx.str_inv r1]; rw [hy.strs] at eb
  intro H e Q q
  refine .inr (.inl ⟨b, _, rfl, .inl (SqL.of (e _ _ eb)), rfl, flat_strs ss, ?_⟩)
  show Q (.bl (inV (.str s) (ss.map V.str))) H
  rw [inV_strs]
  exact q _ G' H (.refl e) (.bl _)
theorem ed_inS {c : Nat} {z : Str} (ha : ED ta σ G (dt (.str ⟨#[c]⟩))) (hb : ED tb σ G (dt (.str z))) : ED (tOp (rInU K) ta tb) σ G (dt (.bool (decide (c ∈ z.cps.toList)))) := ed_op ha hb fun x y G' _ r1 r2 => by
  rw [Dx.str_inv r1, Dx.str_inv r2]
  intro H e Q q
  exact .inl ⟨c, z, rfl, rfl, q _ G' H (.refl e) (.bl _)⟩
theorem ed_ninT {s : Str} {ss : List Str} (ha : ED ta σ G (dt (.str s))) (hb : ED tb σ G (dt (.tuple (ss.map .str)))) : ED (tOp (rNinU K) ta tb) σ G (dt (.bool (!decide (s ∈ ss)))) := ed_op ha hb fun x y G' _ r1 r2 => by
  obtain ⟨b, ys, rfl, eb, hy⟩ := Dx.tup_inv r2
  rw [Dx.str_inv r1]; rw [hy.strs] at eb
  intro H e Q q
  refine .inl ⟨b, _, rfl, .inr (SqT.of (e _ _ eb)), rfl, flat_strs ss, ?_⟩
  show Q (.bl (!inV (.str s) (ss.map V.str))) H
  rw [inV_strs]
  exact q _ G' H (.refl e) (.bl _)
theorem ed_ninL {s : Str} {ss : List Str} (ha : ED ta σ G (dt (.str s))) (hb : ED tb σ G (dt (.list (ss.map .str)))) : ED (tOp (rNinU K) ta tb) σ G (dt (.bool (!decide (s ∈ ss)))) := ed_op ha hb fun x y G' _ r1 r2 => by
  obtain ⟨b, ys, rfl, eb, hy⟩ := Dx.list_inv r2
  rw [Dx.str_inv r1]; rw [hy.strs] at eb
  intro H e Q q
  refine .inl ⟨b, _, rfl, .inl (SqL.of (e _ _ eb)), rfl, flat_strs ss, ?_⟩
  show Q (.bl (!inV (.str s) (ss.map V.str))) H
  rw [inV_strs]
  exact q _ G' H (.refl e) (.bl _)
theorem ed_ninD (ha : ED ta σ G (dt d)) (hb : ED tb σ G (dt (.list ds))) (h1 : SeqAt.shaped d = true) (h2 : SeqAt.shaped (.list ds) = true) : ED (tOp (rNinU K) ta tb) σ G (dt (.bool (!ds.any fun z => PyData.eqv z d))) := ed_op ha hb fun x y G' _ r1 r2 => by
  intro H e Q q
  exact .inr ⟨d, ds, (Dx.mono e r1).dp, (Dx.mono e r2).dp, h1, h2, q _ G' H (.refl e) (.bl _)⟩
/-! #### places, slices -/
theorem ixN_get {xs : List V} (hx : DxA G xs ds) (h : atI ds i = some d) : ∃ v, atI xs i = some v ∧ Dx G v d := by
  unfold atI at h ⊢
  rw [hx.length]
  cases e : ixN ds.length i with
  | none => rw [e] at h; cases h
  | some k =>
    rw [e] at h
    exact hx.get (show ds[k]? = some d from h)
theorem ed_ixL (ha : ED ta σ G (dt (.list ds))) (hb : ED tb σ G (dt (.int i))) (h : atI ds i = some d) : ED (tOp (rIx K) ta tb) σ G (dt d) := ed_op ha hb fun x y G' _ r1 r2 => by
  obtain ⟨a, xs, rfl, ea, hx⟩ := Dx.list_inv r1
  rw [Dx.int_inv r2]
  obtain ⟨v, hv, hd⟩ := ixN_get hx h
  intro H e Q q
  exact .inl ⟨a, xs, i, v, rfl, rfl, SqL.of (e _ _ ea), hv, q _ G' H (.refl e) hd⟩
theorem ed_ixT (ha : ED ta σ G (dt (.tuple ds))) (hb : ED tb σ G (dt (.int i))) (h : atI ds i = some d) : ED (tOp (rIx K) ta tb) σ G (dt d) := ed_op ha hb fun x y G' _ r1 r2 => by
  obtain ⟨a, xs, rfl, ea, hx⟩ := Dx.tup_inv r1
  rw [Dx.int_inv r2]
  obtain ⟨v, hv, hd⟩ := ixN_get hx h
  intro H e Q q
  exact .inr (.inl ⟨a, xs, i, v, rfl, rfl, SqT.of (e _ _ ea), hv, q _ G' H (.refl e) hd⟩)
def cutD {α : Type} (xs : List α) (lo hi : Option Int) : List α := (xs.drop (HT.sIx xs.length 0 lo)).take (HT.sIx xs.length xs.length hi - HT.sIx xs.length 0 lo)
theorem eo_none : EO tNoPart σ G none := fun H e Q q => q G H (.refl e)
theorem eo_some (h : ED te σ G (dt (.int i))) : EO (tPart te) σ G (some i) := fun H e Q q => h H e _ fun x G1 H1 s r => ⟨i, Dx.int_inv r, q G1 H1 s⟩
theorem ed_slice {tl th : TO} {lo hi : Option Int} (ha : ED ta σ G (dt (.list ds))) (hl : EO tl σ G lo) (hh : EO th σ G hi) : ED (tSl (rSlL K) ta tl th) σ G (dt (.list (cutD ds lo hi))) := fun H e Q q =>
  ha H e _ fun x G1 H1 s1 r1 => (hl.mono s1.g) H1 s1.i _ fun G2 H2 s2 => (hh.mono (s1.g.trans s2.g)) H2 s2.i _ fun G3 H3 s3 => by
    obtain ⟨a, xs, rfl, ea, hx⟩ := Dx.list_inv r1
    have s23 := s2.trans s3
    refine ⟨a, xs, rfl, SqL.of (s23.i _ _ (s23.g _ _ ea)), fun p hp => q _ _ _ ((s1.trans s23).add hp) (.lst upd_same ?_)⟩
    have h2 : DxA G1 (cutV xs lo hi) (cutD ds lo hi) := by
      unfold cutV cutD
      rw [hx.length]
      exact (hx.drop _).take _
    exact h2.mono (s23.g.trans (Ex.new (ex_none s3.i hp)))
/-! #### calls of what is built in -/
theorem ed_cb {r : List V → Hp → VK → Prop} {ta : TA} {Rs : List Rel} (h : EA ta σ G Rs) (hr : ∀ vs G', Ex G G' → RAll Rs vs G' → ∀ H, Ex G' H → ∀ Q : VK, (∀ v G2 H2, Step G' H G2 H2 → R.r v G2 → Q v H2) → r vs H Q) : ED (tCB r ta) σ G R := fun H e Q q =>
  h H e _ fun vs G1 H1 s1 r1 => hr vs G1 s1.g r1 H1 s1.i Q fun v G2 H2 s2 r2 => q v G2 H2 (s1.trans s2) r2
theorem ed_cb1 {r : List V → Hp → VK → Prop} (h : ED te σ G S1) (hr : ∀ v G', Ex G G' → S1.r v G' → ∀ H, Ex G' H → ∀ Q : VK, (∀ v G2 H2, Step G' H G2 H2 → R.r v G2 → Q v H2) → r [v] H Q) : ED (tCB r (tCons te tNil)) σ G R :=
  ed_cb (ea_cons h ea_nil) fun vs G' e ra => by cases ra with | cons h1 t => cases t; exact hr _ G' e h1
theorem ed_lenL (h : ED te σ G (dt (.list ds))) : ED (tCB (rLenU K) (tCons te tNil)) σ G (dt (.int ds.length)) := ed_cb1 h fun v G' _ r H e Q q => by
  obtain ⟨a, xs, rfl, ea, hx⟩ := Dx.list_inv r
  refine .inl ⟨a, xs, rfl, .inl (SqL.of (e _ _ ea)), ?_⟩
  rw [hx.length]; exact q _ G' H (.refl e) (.int _)
theorem ed_lenT (h : ED te σ G (dt (.tuple ds))) : ED (tCB (rLenU K) (tCons te tNil)) σ G (dt (.int ds.length)) := ed_cb1 h fun v G' _ r H e Q q => by
  obtain ⟨a, xs, rfl, ea, hx⟩ := Dx.tup_inv r
  refine .inl ⟨a, xs, rfl, .inr (SqT.of (e _ _ ea)), ?_⟩
  rw [hx.length]; exact q _ G' H (.refl e) (.int _)
theorem ed_lenS {z : Str} (h : ED te σ G (dt (.str z))) (hz : z.length ≤ 100000) : ED (tCB (rLenU K) (tCons te tNil)) σ G (dt (.int z.length)) := ed_cb1 h fun v G' _ r H e Q q =>
  .inr (.inl ⟨z, by rw [Dx.str_inv r], sz_of hz, q _ G' H (.refl e) (.int _)⟩)
theorem ed_intI (h : ED te σ G (dt (.int i))) : ED (tCB rInt1 (tCons te tNil)) σ G (dt (.int i)) := ed_cb1 h fun v G' _ r H e Q q => .inl ⟨i, by rw [Dx.int_inv r], q _ G' H (.refl e) (.int _)⟩
theorem ed_intB {b : Bool} (h : ED te σ G (dt (.bool b))) : ED (tCB rInt1 (tCons te tNil)) σ G (dt (.int (if b = true then 1 else 0))) := ed_cb1 h fun v G' _ r H e Q q => .inr ⟨b, by rw [Dx.bl_inv r], q _ G' H (.refl e) (.int _)⟩
theorem ed_max (ha : ED ta σ G (dt (.int i))) (hb : ED tb σ G (dt (.int j))) : ED (tCB rMax2 (tCons ta (tCons tb tNil))) σ G (dt (.int (if j > i then j else i))) := ed_cb (ea_cons ha (ea_cons hb ea_nil)) fun vs G' _ ra H e Q q => by
  cases ra with | cons h1 t => cases t with | cons h2 t => cases t; rw [Dx.int_inv h1, Dx.int_inv h2]; exact ⟨i, j, rfl, q _ G' H (.refl e) (.int _)⟩
theorem ed_min (ha : ED ta σ G (dt (.int i))) (hb : ED tb σ G (dt (.int j))) : ED (tCB (rMinU K) (tCons ta (tCons tb tNil))) σ G (dt (.int (if j < i then j else i))) := ed_cb (ea_cons ha (ea_cons hb ea_nil)) fun vs G' _ ra H e Q q => by
  cases ra with | cons h1 t => cases t with | cons h2 t => cases t; rw [Dx.int_inv h1, Dx.int_inv h2]; exact .inl ⟨i, j, rfl, q _ G' H (.refl e) (.int _)⟩
/-- the least of a list; R tells what is wanted of it -/
theorem ed_minL {ns : List Int} (h : ED te σ G (dt (.list (ns.map .int)))) (h0 : 0 < ns.length) (hr : ∀ m G', m ∈ ns → (∀ y ∈ ns, m ≤ y) → R.r (.int m) G') : ED (tCB (rMinU K) (tCons te tNil)) σ G R := ed_cb1 h fun v G' _ r H e Q q => by
  obtain ⟨a, xs, rfl, ea, hx⟩ := Dx.list_inv r
  rw [hx.ints] at ea
  exact .inr ⟨a, ns, rfl, SqL.of (e _ _ ea), h0, fun m h1 h2 => q _ G' H (.refl e) (hr m G' h1 h2)⟩
theorem ed_sum {ns : List Int} (h : ED te σ G (dt (.list (ns.map .int)))) : ED (tCB (rSum K) (tCons te tNil)) σ G (dt (.int ns.sum)) := ed_cb1 h fun v G' _ r H e Q q => by
  obtain ⟨a, xs, rfl, ea, hx⟩ := Dx.list_inv r
  rw [hx.ints] at ea
  exact ⟨a, ns, rfl, SqL.of (e _ _ ea), q _ G' H (.refl e) (.int _)⟩
theorem ed_all {bs : List Bool} (h : ED te σ G (dt (.list (bs.map .bool)))) : ED (tCB (rAll K) (tCons te tNil)) σ G (dt (.bool (bs.all id))) := ed_cb1 h fun v G' _ r H e Q q => by
  obtain ⟨a, xs, rfl, ea, hx⟩ := Dx.list_inv r
  rw [hx.bools] at ea
  exact ⟨a, bs, rfl, SqL.of (e _ _ ea), q _ G' H (.refl e) (.bl _)⟩
theorem ed_any {bs : List Bool} (h : ED te σ G (dt (.list (bs.map .bool)))) : ED (tCB (rAny K) (tCons te tNil)) σ G (dt (.bool (bs.any id))) := ed_cb1 h fun v G' _ r H e Q q => by
  obtain ⟨a, xs, rfl, ea, hx⟩ := Dx.list_inv r
  rw [hx.bools] at ea
  exact ⟨a, bs, rfl, SqL.of (e _ _ ea), q _ G' H (.refl e) (.bl _)⟩
theorem ed_tupL (h : ED te σ G (dt (.list ds))) : ED (tCB (rTupOf K) (tCons te tNil)) σ G (dt (.tuple ds)) := ed_cb1 h fun v G' _ r H e Q q => by
  obtain ⟨a, xs, rfl, ea, hx⟩ := Dx.list_inv r
  exact ⟨a, xs, rfl, .inl ⟨SqL.of (e _ _ ea), fun p hp => q _ _ _ ((Step.refl e).add hp) (.tup upd_same (hx.mono (Ex.new (ex_none e hp))))⟩⟩
theorem ed_tupT (h : ED te σ G (dt (.tuple ds))) : ED (tCB (rTupOf K) (tCons te tNil)) σ G (dt (.tuple ds)) := ed_cb1 h fun v G' _ r H e Q q => by
  obtain ⟨a, xs, rfl, ea, hx⟩ := Dx.tup_inv r
  exact ⟨a, xs, rfl, .inr ⟨SqT.of (e _ _ ea), q _ G' H (.refl e) (.tup ea hx)⟩⟩
theorem ed_listL (h : ED te σ G (dt (.list ds))) : ED (tCB (rLstOf K) (tCons te tNil)) σ G (dt (.list ds)) := ed_cb1 h fun v G' _ r H e Q q => by
  obtain ⟨a, xs, rfl, ea, hx⟩ := Dx.list_inv r
  exact ⟨a, xs, rfl, .inl (SqL.of (e _ _ ea)), fun p hp => q _ _ _ ((Step.refl e).add hp) (.lst upd_same (hx.mono (Ex.new (ex_none e hp))))⟩
theorem ed_listT (h : ED te σ G (dt (.tuple ds))) : ED (tCB (rLstOf K) (tCons te tNil)) σ G (dt (.list ds)) := ed_cb1 h fun v G' _ r H e Q q => by
  obtain ⟨a, xs, rfl, ea, hx⟩ := Dx.tup_inv r
  exact ⟨a, xs, rfl, .inr (SqT.of (e _ _ ea)), fun p hp => q _ _ _ ((Step.refl e).add hp) (.lst upd_same (hx.mono (Ex.new (ex_none e hp))))⟩
theorem ed_sortI {ns : List Int} (h : ED te σ G (dt (.list (ns.map .int)))) (h64 : ns.length < 64) (hr : ∀ (ns' : List Int) v G', ns'.Perm ns → ns'.Pairwise (· ≤ ·) → Dx G' v (.list (ns'.map .int)) → R.r v G') : ED (tCB (rSrtU K) (tCons te tNil)) σ G R := ed_cb1 h fun v G' _ r H e Q q => by
  obtain ⟨a, xs, rfl, ea, hx⟩ := Dx.list_inv r
  rw [hx.ints] at ea
  refine .inl ⟨a, ns, rfl, SqL.of (e _ _ ea), h64, fun ns' p h1 h2 hp => ?_⟩
  exact q _ _ _ ((Step.refl e).add hp) (hr ns' _ _ h1 h2 (.lst upd_same (DxA.of_ints ns')))
theorem ed_sortS {ns : List Str} (h : ED te σ G (dt (.list (ns.map .str)))) (h64 : ns.length < 64) (hr : ∀ (ns' : List Str) v G', ns'.Perm ns → sortedS ns' = true → Dx G' v (.list (ns'.map .str)) → R.r v G') : ED (tCB (rSrtU K) (tCons te tNil)) σ G R := ed_cb1 h fun v G' _ r H e Q q => by
  obtain ⟨a, xs, rfl, ea, hx⟩ := Dx.list_inv r
  rw [hx.strs] at ea
  refine .inr ⟨a, ns, rfl, SqL.of (e _ _ ea), h64, fun ns' p h1 h2 hp => ?_⟩
  exact q _ _ _ ((Step.refl e).add hp) (hr ns' _ _ h1 h2 (.lst upd_same (DxA.of_strs ns')))
end
end RT
end
section
set_option maxRecDepth 100000
set_option maxHeartbeats 2000000
/-! RTCalc3: walks, comprehensions, loops, statements, fields, dicts. -/
namespace RT
open PySem PySem.Spec PyProof.Rows L2
open Evl (Ex Ex.refl Ex.trans Ex.new Ex.mut)

/-! ### what is walked -/
structure Walks (J : It) (G : Hp) (Rs : List Rel) : Prop where
  go : ∀ i H, i < Rs.length → Ex G H → J.go i H
  stop : ∀ H, Ex G H → J.stop Rs.length H
  yld : ∀ i R H x H', Rs[i]? = some R → J.yld i H x H' → ∀ G1, Ex G G1 → Ex G1 H → ∃ G2, Step G1 H G2 H' ∧ R.r x G2
def EI (wi : TI) (σ : L2.St) (G : Hp) (Rs : List Rel) : Prop := ∀ H, Ex G H → ∀ R : It → Hp → Prop, (∀ J G' H', Step G H G' H' → Walks J G' Rs → R J H') → wi σ H R
section
variable {σ : L2.St} {G G' H : Hp} {ta tb tc te tl : TE} {t u : TT} {R S1 S2 S3 : Rel} {d e : PyData} {ds es : List PyData} {K : Fg} {i j : Int} {α : Type}
theorem walks_lst {a : Addr} {xs : List V} (h : G a = some (.lst xs)) (hx : DxA G xs ds) : Walks (Itl K a) G (ds.map dt) where
  go := fun i H hi e => ⟨xs, _, SqL.of (e _ _ h), List.getElem?_eq_getElem (by rw [hx.length]; simpa using hi)⟩
  stop := fun H e => ⟨xs, SqL.of (e _ _ h), by rw [hx.length]; simp⟩
  yld := fun i R H x H' hR hy G1 g1 e1 => by
    obtain ⟨rfl, hy⟩ := hy
    have := hy xs (SqL.of (e1 _ _ (g1 _ _ h)))
    obtain ⟨d, hd, hr⟩ := hx.got this
    rw [List.getElem?_map, hd] at hR
    cases hR
    exact ⟨G1, .refl e1, Dx.mono g1 hr⟩
theorem walks_tup {a : Addr} {xs : List V} (h : G a = some (.tup xs)) (hx : DxA G xs ds) : Walks (Itt K a) G (ds.map dt) where
  go := fun i H hi e => ⟨xs, _, SqT.of (e _ _ h), List.getElem?_eq_getElem (by rw [hx.length]; simpa using hi)⟩
  stop := fun H e => ⟨xs, SqT.of (e _ _ h), by rw [hx.length]; simp⟩
  yld := fun i R H x H' hR hy G1 g1 e1 => by
    obtain ⟨rfl, hy⟩ := hy
    have := hy xs (SqT.of (e1 _ _ (g1 _ _ h)))
    obtain ⟨d, hd, hr⟩ := hx.got this
    rw [List.getElem?_map, hd] at hR
    cases hR
    exact ⟨G1, .refl e1, Dx.mono g1 hr⟩
theorem ei_list (h : ED tl σ G (dt (.list ds))) : EI (iList K tl) σ G (ds.map dt) := fun H e R q => h H e _ fun v G1 H1 s r => by
  obtain ⟨a, xs, rfl, ea, hx⟩ := Dx.list_inv r
  exact ⟨a, rfl, ⟨xs, SqL.of (s.i _ _ ea)⟩, q _ G1 H1 s (walks_lst ea hx)⟩
theorem ei_tup (h : ED tl σ G (dt (.tuple ds))) : EI (iTup K tl) σ G (ds.map dt) := fun H e R q => h H e _ fun v G1 H1 s r => by
  obtain ⟨a, xs, rfl, ea, hx⟩ := Dx.tup_inv r
  exact ⟨a, rfl, ⟨xs, SqT.of (s.i _ _ ea)⟩, q _ G1 H1 s (walks_tup ea hx)⟩
theorem ei_listM {xs : List α} {enc : α → PyData} (h : ED tl σ G (dt (.list (xs.map enc)))) : EI (iList K tl) σ G (xs.map fun x => dt (enc x)) := by
  have := ei_list (K := K) h
  rw [List.map_map] at this
  exact this
theorem ei_tupM {xs : List α} {enc : α → PyData} (h : ED tl σ G (dt (.tuple (xs.map enc)))) : EI (iTup K tl) σ G (xs.map fun x => dt (enc x)) := by
  have := ei_tup (K := K) h
  rw [List.map_map] at this
  exact this
theorem ei_str {z : Str} (h : ED tl σ G (dt (.str z))) : EI (iStr tl) σ G (z.cps.toList.map fun c => dt (.str ⟨#[c]⟩)) := fun H e R q => h H e _ fun v G1 H1 s r => by
  refine ⟨z, Dx.str_inv r, q _ G1 H1 s ⟨fun i H hi _ => by show i < z.cps.size; simpa using hi, fun H _ => by simp [Its], fun i R H x H' hR hy G2 g2 e2 => ?_⟩⟩
  obtain ⟨rfl, c, hc, rfl⟩ := hy
  rw [List.getElem?_map, Array.getElem?_toList, hc] at hR
  cases hR
  exact ⟨G2, .refl e2, .str _⟩
theorem ei_range {n : Nat} (h : ED te σ G (dt (.int n))) (hn : n ≤ 100000) : EI (iRng1 (tCons te tNil)) σ G ((List.range n).map fun (k : Nat) => dt (.int (k : Int))) := fun H e R q => h H e _ fun v G1 H1 s r => by
  refine ⟨n, by rw [Dx.int_inv r], by omega, by omega, ?_⟩
  have e1 : ((n : Int)).toNat = n := by simp
  rw [e1]
  refine q _ G1 H1 s ⟨fun i H hi _ => by show i < n; simpa using hi, fun H _ => by simp [Itr], fun i R H x H' hR hy G2 g2 e2 => ?_⟩
  obtain ⟨rfl, rfl⟩ := hy
  rw [List.getElem?_map] at hR
  cases hk : (List.range n)[i]? with
  | none => rw [hk] at hR; cases hR
  | some k =>
    rw [hk] at hR
    cases hR
    have : k = i := by
      obtain ⟨h1, h2⟩ := List.getElem?_eq_some_iff.mp hk
      simp at h2; exact h2.symm
    subst this
    refine ⟨G2, .refl e2, ?_⟩
    have : (0 : Int) + (k : Int) = k := by omega
    rw [this]
    exact .int _
theorem ei_enum (h : ED te σ G (dt (.list ds))) : EI (iEnum K (tCons te tNil)) σ G (ds.zipIdx.map fun p => dt (.tuple [.int p.2, p.1])) := fun H e R q => h H e _ fun v G1 H1 s r => by
  obtain ⟨a, xs, rfl, ea, hx⟩ := Dx.list_inv r
  refine ⟨a, xs, rfl, SqL.of (s.i _ _ ea), q _ G1 H1 s ⟨fun i H hi e => ?_, fun H e => ?_, fun i R H x H' hR hy G2 g2 e2 => ?_⟩⟩
  · exact ⟨xs, _, SqL.of (e _ _ ea), List.getElem?_eq_getElem (by rw [hx.length]; simpa using hi)⟩
  · exact ⟨xs, SqL.of (e _ _ ea), by rw [hx.length]; simp⟩
  · obtain ⟨T, y, rfl, hT, rfl, hy⟩ := hy
    obtain ⟨d, hd, hr⟩ := hx.got (hy xs (SqL.of (e2 _ _ (g2 _ _ ea))))
    rw [List.getElem?_map, List.getElem?_zipIdx, hd] at hR
    cases hR
    refine ⟨_, (Step.refl e2).add hT, .tup upd_same (.cons ?_ (.cons (Dx.mono (g2.trans (Ex.new (ex_none e2 hT))) hr) .nil))⟩
    have e3 : ((0 + i : Nat) : Int) = (i : Int) := by simp
    rw [e3]
    exact .int _
theorem ei_zip (h1 : ED ta σ G (dt (.list ds))) (h2 : ED tb σ G (dt (.list es))) : EI (iZip K (tCons ta (tCons tb tNil))) σ G ((ds.zip es).map fun p => dt (.tuple [p.1, p.2])) := fun H e R q =>
  ed_two (P := True) h1 h2 H e fun x y G1 H1 s r1 r2 => by
    obtain ⟨a, xs, rfl, ea, hx⟩ := Dx.list_inv r1
    obtain ⟨b, ys, rfl, eb, hy⟩ := Dx.list_inv r2
    refine ⟨a, b, xs, ys, rfl, SqL.of (s.i _ _ ea), SqL.of (s.i _ _ eb), q _ G1 H1 s ⟨fun i H hi e => ?_, fun H e => ?_, fun i R H x H' hR hyl G2 g2 e2 => ?_⟩⟩
    · simp [List.length_zip] at hi
      exact ⟨xs, ys, _, _, SqL.of (e _ _ ea), SqL.of (e _ _ eb), List.getElem?_eq_getElem (by rw [hx.length]; omega), List.getElem?_eq_getElem (by rw [hy.length]; omega)⟩
    · refine ⟨xs, ys, SqL.of (e _ _ ea), SqL.of (e _ _ eb), ?_⟩
      rw [hx.length, hy.length]; simp [List.length_zip]; omega
    · obtain ⟨T, x, y, rfl, hT, rfl, hx1, hy1⟩ := hyl
      obtain ⟨d, hd, hr⟩ := hx.got (hx1 xs (SqL.of (e2 _ _ (g2 _ _ ea))))
      obtain ⟨d2, hd2, hr2⟩ := hy.got (hy1 ys (SqL.of (e2 _ _ (g2 _ _ eb))))
      rw [List.getElem?_map, (List.getElem?_zip_eq_some (z := (d, d2))).mpr ⟨hd, hd2⟩] at hR
      cases hR
      have m := g2.trans (Ex.new (o := HO.tup [x, y]) (ex_none e2 hT))
      exact ⟨_, (Step.refl e2).add hT, .tup upd_same (.cons (Dx.mono m hr) (.cons (Dx.mono m hr2) .nil))⟩

/-! ### targets -/
def GT (g : TG) (v : V) (σ : L2.St) (G : Hp) (σ2 : L2.St) : Prop := ∀ H, Ex G H → ∀ Q : L2.St → Hp → Prop, Q σ2 H → g v σ H Q
theorem gt_name {k : Nat} {v : V} : GT (gName k) v σ G (σ.set k (some v)) := fun H e Q q => q
theorem gt_tup2 {k l : Nat} {a : Addr} {x y : V} (h : G a = some (.tup [x, y])) : GT (gTup K 2 (gCons (gName k) (gCons (gName l) gNil))) (.ref a) σ G ((σ.set k (some x)).set l (some y)) := fun H e Q q =>
  ⟨a, _, rfl, SqT.of (e _ _ h), rfl, x, _, rfl, y, _, rfl, rfl, q⟩
theorem gt_tup4 {k l m n : Nat} {a : Addr} {x y z w : V} (h : G a = some (.tup [x, y, z, w])) : GT (gTup K 4 (gCons (gName k) (gCons (gName l) (gCons (gName m) (gCons (gName n) gNil))))) (.ref a) σ G ((((σ.set k (some x)).set l (some y)).set m (some z)).set n (some w)) := fun H e Q q =>
  ⟨a, _, rfl, SqT.of (e _ _ h), rfl, x, _, rfl, y, _, rfl, z, _, rfl, w, _, rfl, rfl, q⟩
theorem dx_pair {v : V} {d e : PyData} (h : Dx G v (.tuple [d, e])) : ∃ a x y, v = .ref a ∧ G a = some (.tup [x, y]) ∧ Dx G x d ∧ Dx G y e := by
  obtain ⟨a, xs, rfl, ea, hx⟩ := Dx.tup_inv h
  cases hx with | cons h1 t => cases t with | cons h2 t => cases t; exact ⟨a, _, _, rfl, ea, h1, h2⟩
theorem dx_triple {v : V} {d e f : PyData} (h : Dx G v (.tuple [d, e, f])) : ∃ a x y z, v = .ref a ∧ G a = some (.tup [x, y, z]) ∧ Dx G x d ∧ Dx G y e ∧ Dx G z f := by
  obtain ⟨a, xs, rfl, ea, hx⟩ := Dx.tup_inv h
  cases hx with | cons h1 t => cases t with | cons h2 t => cases t with | cons h3 t => cases t; exact ⟨a, _, _, _, rfl, ea, h1, h2, h3⟩
theorem dx_quad {v : V} {d e f g : PyData} (h : Dx G v (.tuple [d, e, f, g])) : ∃ a x y z w, v = .ref a ∧ G a = some (.tup [x, y, z, w]) ∧ Dx G x d ∧ Dx G y e ∧ Dx G z f ∧ Dx G w g := by
  obtain ⟨a, xs, rfl, ea, hx⟩ := Dx.tup_inv h
  cases hx with | cons h1 t => cases t with | cons h2 t => cases t with | cons h3 t => cases t with | cons h4 t => cases t; exact ⟨a, _, _, _, _, rfl, ea, h1, h2, h3, h4⟩

/-! ### comprehensions -/
theorem ed_lc {wi : TI} {g : TG} {tt : TT} {vs : List Nat} {xs : List α} {Rx : α → Rel} {p : α → Bool} {f : α → PyData} (h : EI wi σ G (xs.map Rx)) (hz : xs.length ≤ 90000)
    (ht : ∀ x ∈ xs, ∀ v G1, Ex G G1 → (Rx x).r v G1 → ∃ σ2, GT g v (wipe σ vs) G1 σ2 ∧ wipe σ2 vs = wipe σ vs ∧ ET tt σ2 G1 (p x) ∧ (p x = true → ED te σ2 G1 (dt (f x)))) :
    ED (tLc wi g tt te vs) σ G (dt (.list ((xs.filter p).map f))) := fun H e Q q => h H e _ fun J G1 H1 s1 w D hD => by
  have hHD : H D = none := ex_none s1.h hD
  let Pv : Nat → Hp → Prop := fun i H' => ∃ G' acc, Step G H G' H' ∧ Ex G1 G' ∧ H' D = some (.lst acc) ∧ G' D = none ∧ DxA G' acc (((xs.take i).filter p).map f)
  refine ⟨fun i m H' => m = xs.length - i ∧ i ≤ xs.length ∧ Pv i H', ⟨xs.length, by simp, Nat.zero_le _, G1, [], s1.new hD, Ex.refl _, upd_same, ex_none s1.i hD, .nil⟩, ?_⟩
  rintro i m H' ⟨rfl, hi, G', acc, s2, g2, hacc, hGD, hdx⟩
  by_cases hlt : i < xs.length
  · refine .inr ⟨w.go i H' (by simpa using hlt) (g2.trans s2.i), fun H3 => Pv (i + 1) H3, fun H3 hp => ⟨xs.length - (i + 1), by omega, rfl, hlt, hp⟩, fun v H3 hy => ?_⟩
    have hgi : xs[i]? = some xs[i] := List.getElem?_eq_getElem hlt
    obtain ⟨G3, s3, hr⟩ := w.yld i (Rx xs[i]) H' v H3 (by rw [List.getElem?_map, hgi] <;> rfl) hy G' g2 s2.i
    obtain ⟨σ2, h1, h2, h3, h4⟩ := ht xs[i] (List.getElem_mem hlt) v G3 (s2.g.trans s3.g) hr
    refine h1 H3 s3.i _ ⟨h2, ?_⟩
    refine h3 H3 s3.i _ fun G4 H4 s4 => ?_
    have etake : xs.take (i + 1) = xs.take i ++ [xs[i]] := by rw [List.take_succ, hgi]; rfl
    cases hp : p xs[i] with
    | false =>
      refine ⟨G4, acc, (s2.trans s3).trans s4, g2.trans (s3.g.trans s4.g), s4.h _ _ (s3.h _ _ hacc), s4.s D (by rw [s3.h _ _ hacc]; intro z; cases z) (s3.s D (by rw [hacc]; intro z; cases z) hGD), ?_⟩
      rw [etake, List.filter_append, List.map_append]
      simp only [List.filter_cons, hp]
      simpa using hdx.mono (s3.g.trans s4.g)
    | true =>
      refine ((h4 hp).mono s4.g) H4 s4.i _ fun y G5 H5 s5 r5 => ?_
      have k := (s3.trans s4).trans s5
      have hD5 : G5 D = none := k.s D (by rw [hacc]; intro z; cases z) hGD
      refine ⟨acc, k.h _ _ hacc, ?_, G5, acc ++ [y], (s2.trans k).mut hHD hD5, g2.trans k.g, upd_same, hD5, ?_⟩
      · rw [hdx.length, List.length_map]
        have := List.length_filter_le p (xs.take i)
        have h5 : (xs.take i).length = i := by simp; omega
        exact sz_lt (by omega)
      · rw [etake, List.filter_append, List.map_append]
        simp only [List.filter_cons, hp, List.filter_nil, List.map_cons, List.map_nil]
        exact (hdx.mono k.g).append (.cons r5 .nil)
  · have : i = xs.length := by omega
    subst this
    refine .inl ⟨by have := w.stop H' (g2.trans s2.i); simpa using this, q _ _ _ (s2.pub hHD hGD hacc) (.lst upd_same ?_)⟩
    rw [List.take_length] at hdx
    exact hdx.mono (Ex.new hGD)
/-- .. all are kept -/
theorem ed_lc1 {wi : TI} {g : TG} {vs : List Nat} {xs : List α} {Rx : α → Rel} {f : α → PyData} (h : EI wi σ G (xs.map Rx)) (hz : xs.length ≤ 90000)
    (ht : ∀ x ∈ xs, ∀ v G1, Ex G G1 → (Rx x).r v G1 → ∃ σ2, GT g v (wipe σ vs) G1 σ2 ∧ wipe σ2 vs = wipe σ vs ∧ ED te σ2 G1 (dt (f x))) :
    ED (tLc wi g tYes te vs) σ G (dt (.list (xs.map f))) := by
  have := ed_lc (p := fun _ => true) (tt := tYes) (f := f) h hz fun x hx v G1 e r => by
    obtain ⟨σ2, h1, h2, h3⟩ := ht x hx v G1 e r
    exact ⟨σ2, h1, h2, et_yes, fun _ => h3⟩
  rwa [List.filter_eq_self.mpr (fun _ _ => rfl)] at this

/-! ### statements, with what follows -/
variable {D : Ends} {ts tw : TS}
theorem k_seq (h : ts { D with nx := tw D } σ H) : tSeq ts tw D σ H := h
theorem k_asg {k : Nat} (h : ED te σ G R) (e : Ex G H) (q : ∀ v G' H', Step G H G' H' → R.r v G' → D.nx (σ.set k (some v)) H') : tAsg te (gName k) D σ H := h H e _ q
theorem k_ret (h : ED te σ G R) (e : Ex G H) (q : ∀ v G' H', Step G H G' H' → R.r v G' → D.rt v H') : tRet te D σ H := h H e _ q
theorem k_if {b : Bool} (h : ET t σ G b) (e : Ex G H) (h1 : b = true → ∀ G' H', Step G H G' H' → ts D σ H') (h2 : b = false → ∀ G' H', Step G H G' H' → tw D σ H') : tIfS t ts tw D σ H := h H e _ fun G1 H1 s => by
  cases b with
  | true => exact h1 rfl G1 H1 s
  | false => exact h2 rfl G1 H1 s
theorem k_drop (h : ED te σ G R) (e : Ex G H) (q : ∀ v G' H', Step G H G' H' → R.r v G' → D.nx σ H') : tDrop te D σ H := h H e _ q
/-- a loop: I tells the turn, the slots, what is known, the heap -/
theorem k_for {wi : TI} {g : TG} {xs : List α} {Rx : α → Rel} (h : EI wi σ G (xs.map Rx)) (e : Ex G H) (I : Nat → L2.St → Hp → Hp → Prop) (h0 : ∀ G1 H1, Step G H G1 H1 → I 0 σ G1 H1) (hI : ∀ i σ' G' H', I i σ' G' H' → Ex G' H')
    (hs : ∀ G1, Ex G G1 → ∀ i x v σ' G' H' G2 H2, xs[i]? = some x → I i σ' G' H' → Ex G1 G' → Step G' H' G2 H2 → (Rx x).r v G2 → g v σ' H2 fun σ2 H3 => ts { D with nx := fun σ3 H4 => ∃ G4, Ex G1 G4 ∧ I (i + 1) σ3 G4 H4, ct := fun σ3 H4 => ∃ G4, Ex G1 G4 ∧ I (i + 1) σ3 G4 H4, bk := D.nx } σ2 H3)
    (hd : ∀ σ' G' H', I xs.length σ' G' H' → Ex G G' → D.nx σ' H') : tFor wi g ts D σ H := h H e _ fun J G1 H1 s1 w => by
  let N : Nat → L2.St → Hp → Prop := fun i σ' H' => ∃ G', Ex G1 G' ∧ I i σ' G' H'
  refine ⟨fun i m σ' H' => m = xs.length - i ∧ i ≤ xs.length ∧ N i σ' H', ⟨xs.length, by simp, Nat.zero_le _, G1, Ex.refl _, h0 G1 H1 s1⟩, ?_⟩
  rintro i m σ' H' ⟨rfl, hi, G', g1, hp⟩
  have e1 := hI i σ' G' H' hp
  by_cases hlt : i < xs.length
  · refine .inr ⟨w.go i H' (by simpa using hlt) (g1.trans e1), fun σ3 H3 => N (i + 1) σ3 H3, fun σ3 H3 hp => ⟨xs.length - (i + 1), by omega, rfl, hlt, hp⟩, fun v H2 hy => ?_⟩
    have hgi : xs[i]? = some xs[i] := List.getElem?_eq_getElem hlt
    obtain ⟨G2, s2, hr⟩ := w.yld i (Rx xs[i]) H' v H2 (by rw [List.getElem?_map, hgi] <;> rfl) hy G' g1 e1
    exact hs G1 s1.g i xs[i] v σ' G' H' G2 H2 hgi hp g1 s2 hr
  · have : i = xs.length := by omega
    subst this
    exact .inl ⟨by have := w.stop H' (g1.trans e1); simpa using this, hd σ' G' H' hp (s1.g.trans g1)⟩
end
end RT
end
section
set_option maxRecDepth 100000
set_option maxHeartbeats 2000000
/-! RTCalc4: dicts as data, promises of defs, calls. -/
namespace RT
open PySem PySem.Spec PyProof.Rows L2
open Evl (Ex Ex.refl Ex.trans Ex.new Ex.mut)

/-! ### dicts by keys that are ints and texts -/
def kD : Key → PyData
  | .inl i => .int i
  | .inr x => .str x
theorem kD_dx (G : Hp) : ∀ k : Key, Dx G (kV k) (kD k)
  | .inl i => .int i
  | .inr x => .str x
theorem kD_inv {G : Hp} {v : V} : ∀ {k : Key}, Dx G v (kD k) → v = kV k
  | .inl i, h => Dx.int_inv h
  | .inr x, h => Dx.str_inv h
section
variable {κ β : Type} [DecidableEq κ]
def lookG (kvs : List (κ × β)) (k : κ) : Option β := (kvs.find? fun kv => decide (kv.1 = k)).map (·.2)
def putG (kvs : List (κ × β)) (k : κ) (v : β) : List (κ × β) := if (kvs.any fun kv => decide (kv.1 = k)) = true then kvs.map (fun kv => if kv.1 = k then (kv.1, v) else kv) else kvs ++ [(k, v)]
def mergeG (kvs : List (κ × β)) : List (κ × β) := kvs.foldl (fun acc kv => putG acc kv.1 kv.2) []
theorem lookG_nil {k : κ} : lookG ([] : List (κ × β)) k = none := rfl
theorem lookG_cons {p : κ × β} {r : List (κ × β)} {k : κ} : lookG (p :: r) k = if p.1 = k then some p.2 else lookG r k := by
  unfold lookG
  rw [List.find?_cons]
  by_cases h : p.1 = k <;> simp [h]
theorem lookG_put (kvs : List (κ × β)) (k j : κ) (y : β) : lookG (putG kvs k y) j = if j = k then some y else lookG kvs j := by
  unfold putG
  split
  · rename_i h
    induction kvs with
    | nil => simp at h
    | cons p r ih =>
      rw [List.map_cons, lookG_cons, lookG_cons]
      by_cases e : p.1 = k
      · rw [if_pos e]
        dsimp only
        by_cases e2 : p.1 = j
        · rw [if_pos e2, if_pos (e2.symm.trans e)]
        · rw [if_neg e2, if_neg (fun z => e2 (e.trans z.symm)), if_neg e2]
          by_cases hr : (r.any fun kv => decide (kv.1 = k)) = true
          · rw [ih hr, if_neg (fun z => e2 (e.trans z.symm))]
          · have : r.map (fun kv => if kv.1 = k then (kv.1, y) else kv) = r := by
              have h2 : ∀ kv ∈ r, ¬ kv.1 = k := fun kv hkv z => hr (List.any_eq_true.mpr ⟨kv, hkv, by simp [z]⟩)
              rw [List.map_congr_left (g := id) fun kv hkv => by rw [if_neg (h2 kv hkv)]; rfl]
              simp
            rw [this]
      · rw [if_neg e]
        have hr : (r.any fun kv => decide (kv.1 = k)) = true := by simpa [e] using h
        by_cases e2 : p.1 = j
        · rw [if_pos e2, if_pos e2, if_neg (fun z => e (e2.trans z))]
        · rw [if_neg e2, if_neg e2, ih hr]
  · rename_i h
    have h0 : ∀ kv ∈ kvs, ¬ kv.1 = k := fun kv hkv z => h (List.any_eq_true.mpr ⟨kv, hkv, by simp [z]⟩)
    clear h
    induction kvs with
    | nil => rw [List.nil_append, lookG_cons]; by_cases e : k = j <;> simp [e, lookG_nil, eq_comm]
    | cons p r ih =>
      rw [List.cons_append, lookG_cons, lookG_cons, ih fun kv hkv => h0 kv (List.mem_cons_of_mem _ hkv)]
      by_cases e : p.1 = j
      · rw [if_pos e, if_pos e, if_neg (fun z => h0 p List.mem_cons_self (e.trans z))]
      · rw [if_neg e, if_neg e]
theorem lookG_none {kvs : List (κ × β)} {k : κ} : lookG kvs k = none ↔ ¬ k ∈ kvs.map (·.1) := by
  induction kvs with
  | nil => simp [lookG_nil]
  | cons p r ih =>
    rw [lookG_cons, List.map_cons, List.mem_cons, not_or, ← ih]
    by_cases e : p.1 = k
    · rw [if_pos e]; simp [e]
    · rw [if_neg e]
      constructor
      · intro h; exact ⟨fun z => e z.symm, h⟩
      · intro h; exact h.2
theorem putG_new {kvs : List (κ × β)} {k : κ} {v : β} (h : ¬ k ∈ kvs.map (·.1)) : putG kvs k v = kvs ++ [(k, v)] := by
  unfold putG
  rw [if_neg]
  intro z
  obtain ⟨kv, h1, h2⟩ := List.any_eq_true.mp z
  exact h (List.mem_map.mpr ⟨kv, h1, of_decide_eq_true h2⟩)
theorem putG_keys {kvs : List (κ × β)} {k : κ} {v : β} (h : k ∈ kvs.map (·.1)) : (putG kvs k v).map (·.1) = kvs.map (·.1) := by
  unfold putG
  obtain ⟨kv, h1, h2⟩ := List.mem_map.mp h
  rw [if_pos (List.any_eq_true.mpr ⟨kv, h1, by simp [h2]⟩), List.map_map]
  refine List.map_congr_left fun p _ => ?_
  show (if p.1 = k then (p.1, v) else p).1 = p.1
  split <;> rfl
theorem putG_len (kvs : List (κ × β)) (k : κ) (v : β) : kvs.length ≤ (putG kvs k v).length ∧ (putG kvs k v).length ≤ kvs.length + 1 := by
  unfold putG
  split <;> simp
theorem merge_from : ∀ (more kvs : List (κ × β)), ((kvs ++ more).map (·.1)).Nodup → more.foldl (fun acc kv => putG acc kv.1 kv.2) kvs = kvs ++ more
  | [], kvs, _ => by simp
  | p :: r, kvs, h => by
    rw [List.foldl_cons, putG_new, merge_from r (kvs ++ [p])]
    · simp
    · simpa using h
    · intro z
      rw [List.map_append, List.map_cons, List.nodup_append] at h
      exact h.2.2 p.1 z p.1 List.mem_cons_self rfl
theorem mergeG_nodup {kvs : List (κ × β)} (h : (kvs.map (·.1)).Nodup) : mergeG kvs = kvs := by
  unfold mergeG
  rw [merge_from kvs [] (by simpa using h), List.nil_append]
/-- how many keys stand in a merge: as many as there are unlike ones -/
theorem merge_len : ∀ (more kvs : List (κ × β)), (kvs.map (·.1)).Nodup → ((more.foldl (fun acc kv => putG acc kv.1 kv.2) kvs).length = kvs.length + more.length ↔ ((kvs ++ more).map (·.1)).Nodup) ∧ (more.foldl (fun acc kv => putG acc kv.1 kv.2) kvs).length ≤ kvs.length + more.length
  | [], kvs, h => by simpa using h
  | p :: r, kvs, h => by
    rw [List.foldl_cons]
    by_cases e : p.1 ∈ kvs.map (·.1)
    · have hk := putG_keys (v := p.2) e
      have hl : (putG kvs p.1 p.2).length = kvs.length := by
        have := congrArg List.length hk; simpa using this
      obtain ⟨_, h2⟩ := merge_len r (putG kvs p.1 p.2) (by rw [hk]; exact h)
      rw [hl] at h2
      refine ⟨⟨fun z => ?_, fun z => ?_⟩, by simp; omega⟩
      · simp at z; omega
      · rw [List.map_append, List.map_cons, List.nodup_append] at z
        exact absurd rfl (z.2.2 p.1 e p.1 List.mem_cons_self)
    · have hn := putG_new (v := p.2) e
      have hnd : ((kvs ++ [p]).map (·.1)).Nodup := by
        rw [List.map_append, List.nodup_append]
        refine ⟨h, by simp, fun a ha b hb => ?_⟩
        simp at hb; subst hb
        intro z; subst z; exact e ha
      obtain ⟨h1, h2⟩ := merge_len r (kvs ++ [p]) hnd
      rw [show putG kvs p.1 p.2 = kvs ++ [p] from hn]
      simp at h1 h2 ⊢
      exact ⟨by rw [← h1]; omega, by omega⟩
theorem mergeG_len {kvs : List (κ × β)} : (mergeG kvs).length = kvs.length ↔ (kvs.map (·.1)).Nodup := by
  have := (merge_len kvs [] (by simp)).1
  simpa [mergeG] using this
end
/-- the pairs of a dict, and what they stand for -/
abbrev KDx (G : Hp) : List (Key × V) → List (Key × PyData) → Prop := Paired fun p q => p.1 = q.1 ∧ Dx G p.2 q.2
theorem KDx.mono {G G' : Hp} (e : Ex G G') : ∀ {ws : List (Key × V)} {kvs : List (Key × PyData)}, KDx G ws kvs → KDx G' ws kvs
  | _, _, .nil => .nil
  | _, _, .cons h t => .cons ⟨h.1, Dx.mono e h.2⟩ (KDx.mono e t)
theorem KDx.length {G : Hp} : ∀ {ws : List (Key × V)} {kvs : List (Key × PyData)}, KDx G ws kvs → ws.length = kvs.length
  | _, _, .nil => rfl
  | _, _, .cons _ t => congrArg Nat.succ (KDx.length t)
theorem KDx.look {G : Hp} {k : Key} : ∀ {ws : List (Key × V)} {kvs : List (Key × PyData)}, KDx G ws kvs → (lookG kvs k = none ∧ valV ws k = none) ∨ ∃ v d, valV ws k = some v ∧ lookG kvs k = some d ∧ Dx G v d
  | _, _, .nil => .inl ⟨rfl, rfl⟩
  | _, _, .cons (a := p) (b := q) h t => by
    rw [lookG_cons]
    by_cases e : q.1 = k
    · rw [if_pos e]
      exact .inr ⟨p.2, q.2, valV_pos (h.1.trans e), rfl, h.2⟩
    · rw [if_neg e, valV_neg fun z => e (h.1.symm.trans z)]
      exact KDx.look t
theorem KDx.append {G : Hp} {ws ws' : List (Key × V)} {kvs kvs' : List (Key × PyData)} (h : KDx G ws kvs) (h' : KDx G ws' kvs') : KDx G (ws ++ ws') (kvs ++ kvs') := by
  induction h with
  | nil => exact h'
  | cons r _ ih => exact .cons r ih
theorem KDx.mapped {G : Hp} {k : Key} {v : V} {d : PyData} (hv : Dx G v d) : ∀ {ws : List (Key × V)} {kvs : List (Key × PyData)}, KDx G ws kvs → KDx G (ws.map fun kv => if kv.1 = k then (kv.1, v) else kv) (kvs.map fun kv => if kv.1 = k then (kv.1, d) else kv)
  | _, _, .nil => .nil
  | _, _, .cons (a := p) (b := q) h t => by
    rw [List.map_cons, List.map_cons]
    refine .cons ?_ (KDx.mapped hv t)
    by_cases e : q.1 = k
    · rw [if_pos e, if_pos (h.1.trans e)]; exact ⟨h.1, hv⟩
    · rw [if_neg e, if_neg fun z => e (h.1.symm.trans z)]; exact h
theorem KDx.anyk {G : Hp} {k : Key} : ∀ {ws : List (Key × V)} {kvs : List (Key × PyData)}, KDx G ws kvs → (ws.any fun kv => decide (kv.1 = k)) = (kvs.any fun kv => decide (kv.1 = k))
  | _, _, .nil => rfl
  | _, _, .cons h t => by rw [List.any_cons, List.any_cons, KDx.anyk t, h.1]
theorem KDx.put {G : Hp} {k : Key} {v : V} {d : PyData} {ws : List (Key × V)} {kvs : List (Key × PyData)} (h : KDx G ws kvs) (hv : Dx G v d) : KDx G (putK ws k v) (putG kvs k d) := by
  unfold putK putG
  rw [h.anyk]
  split
  · exact h.mapped hv
  · exact h.append (.cons ⟨rfl, hv⟩ .nil)
theorem KDx.merge {G : Hp} : ∀ {more : List (Key × V)} {moreD : List (Key × PyData)} {ws : List (Key × V)} {kvs : List (Key × PyData)}, KDx G more moreD → KDx G ws kvs → KDx G (mergeK ws more) (moreD.foldl (fun acc kv => putG acc kv.1 kv.2) kvs)
  | _, _, _, _, .nil, h => h
  | p :: r, q :: t, ws, kvs, .cons e l, h => by
    obtain ⟨k, v⟩ := p
    obtain ⟨k', d⟩ := q
    obtain ⟨e1, e2⟩ := e
    dsimp only at e1 e2
    subst e1
    exact KDx.merge (ws := putK ws k v) (kvs := putG kvs k d) l (h.put e2)
def dkR (kvs : List (Key × PyData)) : Rel := ⟨fun v G => ∃ a ws, v = .ref a ∧ G a = some (.dK ws) ∧ KDx G ws kvs, fun e ⟨a, ws, h1, h2, h3⟩ => ⟨a, ws, h1, e _ _ h2, KDx.mono e h3⟩⟩
section
variable {σ : L2.St} {G G' H : Hp} {ta tb tc te tl td ty tx : TE} {t u : TT} {R S1 S2 S3 : Rel} {d e : PyData} {ds es : List PyData} {K : Fg} {i j : Int} {α : Type} {kvs : List (Key × PyData)} {k : Key}
theorem ed_dget (h1 : ED td σ G (dkR kvs)) (h2 : ED ty σ G (dt (kD k))) (hk : lookG kvs k = some d) : ED (tDGet td ty) σ G (dt d) := fun H e Q q =>
  ed_two (P := True) h1 h2 H e fun x y G1 H1 s r1 r2 => by
    obtain ⟨a, ws, rfl, ea, hx⟩ := r1
    rw [kD_inv r2]
    rcases hx.look (k := k) with ⟨z, _⟩ | ⟨v, d', hv, hd, hr⟩
    · rw [hk] at z; cases z
    · rw [hk] at hd; cases hd
      exact ⟨a, v, rfl, by rw [← hv]; exact DGet.k (s.i _ _ ea), q _ G1 H1 s hr⟩
theorem ed_dget2 (h1 : ED td σ G (dkR kvs)) (h2 : ED ty σ G (dt (kD k))) (h3 : ED tx σ G (dt e)) : ED (tDGet2 td ty tx) σ G (dt ((lookG kvs k).getD e)) := fun H x Q q =>
  h1 H x _ fun v G1 H1 s1 r1 => by
    obtain ⟨a, ws, rfl, ea, hx⟩ := r1
    refine ⟨a, rfl, .inl ⟨ws, .inl (s1.i _ _ ea)⟩, ?_⟩
    refine ed_two (P := True) (h2.mono s1.g) (h3.mono s1.g) H1 s1.i fun y z G2 H2 s2 r2 r3 => ?_
    rw [kD_inv r2]
    refine ⟨_, DGet.k (s2.i _ _ (s2.g _ _ ea)), ?_⟩
    rcases (hx.mono s2.g).look (k := k) with ⟨z1, z2⟩ | ⟨w, d', hv, hd, hr⟩
    · rw [z2]; rw [z1] at q; exact q _ G2 H2 (s1.trans s2) r3
    · rw [hv]; rw [hd] at q; exact q _ G2 H2 (s1.trans s2) hr
theorem ed_lenD (h : ED te σ G (dkR kvs)) : ED (tCB (rLenU K) (tCons te tNil)) σ G (dt (.int kvs.length)) := ed_cb1 h fun v G' _ r H e Q q => by
  obtain ⟨a, ws, rfl, ea, hx⟩ := r
  refine .inr (.inr ⟨a, ws, rfl, e _ _ ea, ?_⟩)
  rw [hx.length]; exact q _ G' H (.refl e) (.int _)
theorem ed_dnew : ED tDNewK σ G (dkR []) := fun H e Q q p hp => q _ _ _ ((Step.refl e).add hp) ⟨p, [], rfl, upd_same, .nil⟩
theorem ed_dictP {kvs : List (Key × PyData)} (h : ED te σ G (dt (.list (kvs.map fun p => .tuple [kD p.1, p.2])))) : ED (tCB (rDctP K) (tCons te tNil)) σ G (dkR (mergeG kvs)) := ed_cb1 h fun v G' _ r H e Q q => by
  obtain ⟨a, xs, rfl, ea, hx⟩ := Dx.list_inv r
  have pairs : ∀ {kvs : List (Key × PyData)} {xs : List V}, DxA G' xs (kvs.map fun p => .tuple [kD p.1, p.2]) → ∃ (ps : List Addr) (ws : List (Key × V)), xs = ps.map V.ref ∧ Paired (fun p kv => SqT K H p [kV kv.1, kv.2]) ps ws ∧ KDx G' ws kvs := by
    intro kvs
    induction kvs with
    | nil => intro xs h; cases h; exact ⟨[], [], rfl, .nil, .nil⟩
    | cons p r ih =>
      intro xs h
      cases h with | cons h1 t =>
      obtain ⟨ps, ws, rfl, h2, h3⟩ := ih t
      obtain ⟨a, x, y, rfl, ea, hx, hy⟩ := dx_pair h1
      rw [kD_inv hx] at ea
      exact ⟨a :: ps, (p.1, y) :: ws, rfl, .cons (SqT.of (e _ _ ea)) h2, .cons ⟨rfl, hy⟩ h3⟩
  obtain ⟨ps, ws, rfl, h2, h3⟩ := pairs hx
  exact ⟨a, ps, ws, rfl, SqL.of (e _ _ ea), h2, fun p hp => q _ _ _ ((Step.refl e).add hp) ⟨p, _, rfl, upd_same, (KDx.merge h3 .nil).mono (Ex.new (ex_none e hp))⟩⟩
/-- a written dict's pairs -/
def EPr : List (TE × TE) → L2.St → Hp → List (Key × PyData) → Prop
  | [], _, _, kvs => kvs = []
  | (tk, tv) :: r, σ, G, kvs => ∃ k d rest, kvs = (k, d) :: rest ∧ ED tk σ G (dt (kD k)) ∧ ED tv σ G (dt d) ∧ EPr r σ G rest
theorem pairs_of : ∀ {trs : List (TE × TE)} {G : Hp} {kvs : List (Key × PyData)}, EPr trs σ G kvs → ∀ H, Ex G H → ∀ Q : List (V × V) → Hp → Prop, (∀ ws G' H', Step G H G' H' → KDx G' ws kvs → Q (ws.map fun kv => (kV kv.1, kv.2)) H') → tPairs trs σ H Q
  | [], G, _, rfl, H, e, Q, q => q [] G H (.refl e) .nil
  | (tk, tv) :: r, G, _, ⟨k, d, rest, rfl, h1, h2, h3⟩, H, e, Q, q => by
    have mono : ∀ {r : List (TE × TE)} {rest : List (Key × PyData)} {G' : Hp}, Ex G G' → EPr r σ G rest → EPr r σ G' rest := by
      intro r
      induction r with
      | nil => intro rest G' _ h; exact h
      | cons p r ih =>
        intro rest G' x h
        obtain ⟨tk, tv⟩ := p
        obtain ⟨k, d, rest', rfl, h1, h2, h3⟩ := h
        exact ⟨k, d, rest', rfl, h1.mono x, h2.mono x, ih x h3⟩
    show tk σ H fun x H1 => tv σ H1 fun y H2 => tPairs r σ H2 fun ps H3 => Q ((x, y) :: ps) H3
    refine ed_two (P := True) h1 h2 H e fun x y G1 H1 s r1 r2 => ?_
    refine pairs_of (mono s.g h3) H1 s.i _ fun ws G2 H2 s2 hw => ?_
    rw [kD_inv r1]
    exact q ((k, y) :: ws) G2 H2 (s.trans s2) (.cons ⟨rfl, Dx.mono s2.g r2⟩ hw)
theorem ed_disp {trs : List (TE × TE)} (h : EPr trs σ G kvs) (h15 : kvs.length ≤ 15) : ED (tDisp trs) σ G (dkR (mergeG kvs)) := fun H e Q q p hp => by
  have e2 : Ex G (upd H p (.dK [])) := e.trans (Ex.new hp)
  refine pairs_of h _ e2 _ fun ws G1 H1 s hw => ?_
  have s0 : Step G H G1 H1 := ((Step.refl e).new hp).trans s
  have hpd : H1 p = some (.dK []) := s.h _ _ upd_same
  have hg : G1 p = none := s.s p (by rw [upd_same]; intro z; cases z) (ex_none e hp)
  refine ⟨hpd, ws, rfl, by rw [hw.length]; exact h15, ?_⟩
  exact q _ _ _ ((s0.mut hp hg).pub hp hg upd_same) ⟨p, _, rfl, upd_same, (KDx.merge hw .nil).mono (Ex.new hg)⟩
/-- {k: v for ..} -/
theorem ed_dc {wi : TI} {g : TG} {vs : List Nat} {tk tv : TE} {xs : List α} {Rx : α → Rel} {fk : α → Key} {fv : α → PyData} (h : EI wi σ G (xs.map Rx)) (hz : xs.length ≤ 90000)
    (ht : ∀ x ∈ xs, ∀ v G1, Ex G G1 → (Rx x).r v G1 → ∃ σ2, GT g v (wipe σ vs) G1 σ2 ∧ wipe σ2 vs = wipe σ vs ∧ ED tk σ2 G1 (dt (kD (fk x))) ∧ ED tv σ2 G1 (dt (fv x))) :
    ED (tDc wi g tYes tk tv vs) σ G (dkR (mergeG (xs.map fun x => (fk x, fv x)))) := fun H e Q q => h H e _ fun J G1 H1 s1 w D hD => by
  have hHD : H D = none := ex_none s1.h hD
  let acc : Nat → List (Key × PyData) := fun i => mergeG ((xs.take i).map fun x => (fk x, fv x))
  let Pv : Nat → Hp → Prop := fun i H' => ∃ G' ws, Step G H G' H' ∧ Ex G1 G' ∧ H' D = some (.dK ws) ∧ G' D = none ∧ KDx G' ws (acc i)
  have alen : ∀ i, (acc i).length ≤ i := fun i => by
    have h1 : (acc i).length ≤ [].length + ((xs.take i).map fun x => (fk x, fv x)).length := (merge_len ((xs.take i).map fun x => (fk x, fv x)) [] (by simp)).2
    have h2 : (xs.take i).length ≤ i := by simp; omega
    rw [List.length_map] at h1
    simp only [List.length_nil, Nat.zero_add] at h1
    omega
  refine ⟨fun i m H' => m = xs.length - i ∧ i ≤ xs.length ∧ Pv i H', ⟨xs.length, by simp, Nat.zero_le _, G1, [], s1.new hD, Ex.refl _, upd_same, ex_none s1.i hD, .nil⟩, ?_⟩
  rintro i m H' ⟨rfl, hi, G', ws, s2, g2, hacc, hGD, hdx⟩
  by_cases hlt : i < xs.length
  · refine .inr ⟨w.go i H' (by simpa using hlt) (g2.trans s2.i), fun H3 => Pv (i + 1) H3, fun H3 hp => ⟨xs.length - (i + 1), by omega, rfl, hlt, hp⟩, fun v H3 hy => ?_⟩
    have hgi : xs[i]? = some xs[i] := List.getElem?_eq_getElem hlt
    obtain ⟨G3, s3, hr⟩ := w.yld i (Rx xs[i]) H' v H3 (by rw [List.getElem?_map, hgi] <;> rfl) hy G' g2 s2.i
    obtain ⟨σ2, h1, h2, h3, h4⟩ := ht xs[i] (List.getElem_mem hlt) v G3 (s2.g.trans s3.g) hr
    refine h1 H3 s3.i _ ⟨h2, ?_⟩
    show tk σ2 H3 fun y H4 => tv σ2 H4 fun z H5 => ∃ kvs k, y = kV k ∧ H5 D = some (.dK kvs) ∧ kvs.length < sizeLine ∧ Pv (i + 1) (upd H5 D (.dK (putK kvs k z)))
    refine ed_two (P := True) h3 h4 H3 s3.i fun y z G4 H4 s4 r3 r4 => ?_
    have k := s3.trans s4
    have hD4 : G4 D = none := k.s D (by rw [hacc]; intro z; cases z) hGD
    refine ⟨ws, fk xs[i], kD_inv r3, k.h _ _ hacc, by rw [hdx.length]; have := alen i; exact sz_lt (by omega), G4, _, (s2.trans k).mut hHD hD4, g2.trans k.g, upd_same, hD4, ?_⟩
    have etake : xs.take (i + 1) = xs.take i ++ [xs[i]] := by rw [List.take_succ, hgi]; rfl
    have e3 : acc (i + 1) = putG (acc i) (fk xs[i]) (fv xs[i]) := by
      show mergeG _ = putG (mergeG _) _ _
      unfold mergeG
      rw [etake, List.map_append, List.foldl_append]
      rfl
    rw [e3]
    exact (hdx.mono k.g).put r4
  · have : i = xs.length := by omega
    subst this
    refine .inl ⟨by have := w.stop H' (g2.trans s2.i); simpa using this, q _ _ _ (s2.pub hHD hGD hacc) ⟨D, ws, rfl, upd_same, ?_⟩⟩
    have e3 : acc xs.length = mergeG (xs.map fun x => (fk x, fv x)) := by show mergeG _ = _; rw [List.take_length]
    rw [e3] at hdx
    exact hdx.mono (Ex.new hGD)
end

/-! ### promises that are data in, data out -/
def FSp {α : Type} (P : α → Prop) (A : α → List Rel) (B : α → Rel) : Sp := fun vs H Q _ => ∃ a G, P a ∧ Ex G H ∧ RAll (A a) vs G ∧ ∀ v G' H', Step G H G' H' → (B a).r v G' → Q v H'
/-- a def of the module that keeps a promise -/
structure Callee (P : Program) (w : World) (K : Fg) (mg : Str → Option Value) (base : Heap) (CX : CXT) (k : Nat) (x : Str) (ps : List Str) (sp : Sp) : Prop where
  ex : ∃ f fd, FnOk P w K mg base CX k f fd ps sp ∧ mg x = some (.ref f) ∧ PySem.W.keepIn K (.ref f) = true ∧ L2.Binds K fd ps []
section
variable {X : Cx} {CX : CXT} {k j : Nat} {x : Str} {p pos : Pos} {e : Expr} {es : List Expr} {t : TA} {ps : List Str} {sp : Sp} {E : XK}
theorem pe_cl (c : Callee X.prog X.w X.K X.mg X.base CX k x ps sp) (hr : Room j X.A) (hx : Passes CX X E) (ha : PA X (e :: es) t) (hg : Gl X x := by rfl) (hkj : k ≤ j := by decide) (hdb : (x == ("__debug__" : Str)) = false := by decide)
    (he : starEach (e :: es) X.env = (false, eval e X.env) :: starEach es X.env := by rfl) (hpl : (backTo pos (starEach es X.env)).any (·.1) = false := by rfl) : PE X (.Call (.Name x p) (e :: es) [] pos) (tCall sp [] E t) := by
  obtain ⟨f, fd, F, hm, hk, hb⟩ := c.ex
  exact pe_call F (hr.mono hkj) hg hm hk hb .nil hx ha hdb he hpl
theorem ed_call {α : Type} {P : α → Prop} {A : α → List Rel} {B : α → Rel} {σ : L2.St} {G : Hp} {ta : TA} {R : Rel} (a : α) (h : EA ta σ G (A a)) (hp : P a) (hR : B a = R := by rfl) : ED (tCall (FSp P A B) [] E ta) σ G R := fun H x Q q =>
  h H x _ fun vs G1 H1 s r => by
    show FSp P A B (vs ++ []) H1 Q E
    rw [List.append_nil]
    subst hR
    exact ⟨a, G1, hp, s.i, r, fun v G2 H2 s2 r2 => q v G2 H2 (s.trans s2) r2⟩
end
/-- a def of the text that stands behind the top, without defaults -/
def DefAt (K : Fg) (mg : Str → Option Value) (x : Str) (st : Stmt) : Prop := ∃ f fd, FunD K x x (defArgs st) (defBody st) (defScope st) [] [] f fd ∧ mg x = some (.ref f)
section
variable {P : Program} {w : World} {K : Fg} {mg : Str → Option Value} {base : Heap} {x : Str} {st : Stmt} {N ps : List Str} {k : Nat}
theorem callee_sp {sp : Sp} (D : DefAt K mg x st) (S : FnScope N ps (defScope st)) (hb : ∀ (kV doc pm : Value) (an : Option Addr) (cdv ct : Value) (us : List Value), us.length = ps.length → bindArgs (PySem.W.fnOf x x (defArgs st) (defBody st) (defScope st) .none kV doc pm an cdv ct) ⟨us, []⟩ = pure (ps.zip us))
    (len : ∀ vs H Q E, sp vs H Q E → vs.length = ps.length)
    (body : ∀ (f : Addr) (cdv : Value) (A : Around) (outer : List Env) (s : Shared) (H : Hp) (vs : List V) (Q : VK) (E : XK), Room k (A.deeper (envOfC x (defScope st) s.heap.objs.size f cdv)) → sp vs H Q E →
      ∃ t, PSs (cxOf CX0 P w K mg base N x (defScope st) f cdv A outer s H E).nox (defBody st) t ∧ t { nx := fun _ H' => Q .non H', rt := Q } (start N vs) H) : Callee P w K mg base CX0 (k + 1) x ps sp := by
  obtain ⟨f, fd, F, hm⟩ := D
  refine ⟨f, fd, F.ok S len fun cdv A outer s H vs Q E hr h => ?_, hm, F.kp, fun s us _ hl => ?_⟩
  · obtain ⟨t, h1, h2⟩ := body f cdv A outer s H vs Q E hr h
    exact ⟨t, h1.nox, h2⟩
  · rw [List.append_nil] at hl ⊢
    exact F.bindsA hb s us hl
/-- .. its promise data in, data out -/
theorem callee {α : Type} {Pa : α → Prop} {A : α → List Rel} {B : α → Rel} (D : DefAt K mg x st) (S : FnScope N ps (defScope st)) (hb : ∀ (kV doc pm : Value) (an : Option Addr) (cdv ct : Value) (us : List Value), us.length = ps.length → bindArgs (PySem.W.fnOf x x (defArgs st) (defBody st) (defScope st) .none kV doc pm an cdv ct) ⟨us, []⟩ = pure (ps.zip us))
    (hl : ∀ a, (A a).length = ps.length)
    (body : ∀ (f : Addr) (cdv : Value) (Ar : Around) (outer : List Env) (s : Shared) (H0 : Hp) (E : XK), Room k (Ar.deeper (envOfC x (defScope st) s.heap.objs.size f cdv)) →
      ∃ t, PSs (cxOf CX0 P w K mg base N x (defScope st) f cdv Ar outer s H0 E).nox (defBody st) t ∧ ∀ a vs G H (D : Ends), Pa a → RAll (A a) vs G → Ex G H → (∀ v G' H', Step G H G' H' → (B a).r v G' → D.rt v H') → t D (start N vs) H) : Callee P w K mg base CX0 (k + 1) x ps (FSp Pa A B) :=
  callee_sp D S hb (fun vs H Q E h => by obtain ⟨a, G, _, _, h2, _⟩ := h; rw [h2.length, hl]) fun f cdv Ar outer s H vs Q E hr h => by
    obtain ⟨t, h1, h2⟩ := body f cdv Ar outer s H E hr
    obtain ⟨a, G, p, e, r, q⟩ := h
    exact ⟨t, h1, h2 a vs G H _ p r e q⟩
end
end RT
end
section
set_option maxRecDepth 100000
set_option maxHeartbeats 2000000
/-! RTText: the text by places; what the top leaves. Printed by gentext.py. -/
namespace RT
open PySem PySem.Spec PyProof.Rows L2
def top (i : Nat) : Stmt := PySem.Challenge.pw_refundtrees_k42_whole_few_give_backs.main.body.getD i (.Pass ⟨0, 0, 0, 0⟩)
abbrev s__law_names : Stmt := top 74
abbrev N__law_names : List Str := ["_law_book_here", "_law_row"]
theorem sc__law_names : FnScope N__law_names ["_law_book_here"] (defScope s__law_names) := ⟨rfl, rfl, rfl, by decide +kernel, rfl, by decide +kernel, by decide +kernel⟩
abbrev s__law_odd_builds : Stmt := top 91
abbrev N__law_odd_builds : List Str := ["_law_book_here", "_law_names_here", "_law_found"]
theorem sc__law_odd_builds : FnScope N__law_odd_builds ["_law_book_here"] (defScope s__law_odd_builds) := ⟨rfl, rfl, rfl, by decide +kernel, rfl, by decide +kernel, by decide +kernel⟩
abbrev s__law_subsets : Stmt := top 84
abbrev N__law_subsets : List Str := ["_law_book_here", "_law_names_here", "_law_found", "_law_level", "_law_turn", "_law_longer", "_law_build", "_law_low", "_law_name"]
theorem sc__law_subsets : FnScope N__law_subsets ["_law_book_here"] (defScope s__law_subsets) := ⟨rfl, rfl, rfl, by decide +kernel, rfl, by decide +kernel, by decide +kernel⟩
abbrev s__law_is_row_met : Stmt := top 79
abbrev N__law_is_row_met : List Str := ["_law_row", "_law_build", "_law_many", "_law_name"]
theorem sc__law_is_row_met : FnScope N__law_is_row_met ["_law_row", "_law_build"] (defScope s__law_is_row_met) := ⟨rfl, rfl, rfl, by decide +kernel, rfl, by decide +kernel, by decide +kernel⟩
abbrev s__law_tier : Stmt := top 75
abbrev N__law_tier : List Str := ["_law_book_here", "_law_name", "_law_row"]
theorem sc__law_tier : FnScope N__law_tier ["_law_book_here", "_law_name"] (defScope s__law_tier) := ⟨rfl, rfl, rfl, by decide +kernel, rfl, by decide +kernel, by decide +kernel⟩
abbrev s__law_below : Stmt := top 80
abbrev N__law_below : List Str := ["_law_book_here", "_law_build", "_law_name", "_law_other"]
theorem sc__law_below : FnScope N__law_below ["_law_book_here", "_law_build", "_law_name"] (defScope s__law_below) := ⟨rfl, rfl, rfl, by decide +kernel, rfl, by decide +kernel, by decide +kernel⟩
abbrev s__law_need : Stmt := top 76
abbrev N__law_need : List Str := ["_law_book_here", "_law_tier_here"]
theorem sc__law_need : FnScope N__law_need ["_law_book_here", "_law_tier_here"] (defScope s__law_need) := ⟨rfl, rfl, rfl, by decide +kernel, rfl, by decide +kernel, by decide +kernel⟩
abbrev s__law_is_met : Stmt := top 81
abbrev N__law_is_met : List Str := ["_law_book_here", "_law_build", "_law_name", "_law_row"]
theorem sc__law_is_met : FnScope N__law_is_met ["_law_book_here", "_law_build", "_law_name"] (defScope s__law_is_met) := ⟨rfl, rfl, rfl, by decide +kernel, rfl, by decide +kernel, by decide +kernel⟩
abbrev s__law_size_let : Stmt := top 82
abbrev N__law_size_let : List Str := ["_law_book_here", "_law_build", "_law_name", "_law_many"]
theorem sc__law_size_let : FnScope N__law_size_let ["_law_book_here", "_law_build"] (defScope s__law_size_let) := ⟨rfl, rfl, rfl, by decide +kernel, rfl, by decide +kernel, by decide +kernel⟩
abbrev s__law_holds : Stmt := top 83
abbrev N__law_holds : List Str := ["_law_book_here", "_law_build", "_law_pair", "_law_name"]
theorem sc__law_holds : FnScope N__law_holds ["_law_book_here", "_law_build"] (defScope s__law_holds) := ⟨rfl, rfl, rfl, by decide +kernel, rfl, by decide +kernel, by decide +kernel⟩
abbrev s__law_bad_builds : Stmt := top 92
abbrev N__law_bad_builds : List Str := ["_law_book_here", "_law_build"]
theorem sc__law_bad_builds : FnScope N__law_bad_builds ["_law_book_here"] (defScope s__law_bad_builds) := ⟨rfl, rfl, rfl, by decide +kernel, rfl, by decide +kernel, by decide +kernel⟩
abbrev s_mask_of : Stmt := top 22
abbrev N_mask_of : List Str := ["book", "build", "name"]
theorem sc_mask_of : FnScope N_mask_of ["book", "build"] (defScope s_mask_of) := ⟨rfl, rfl, rfl, by decide +kernel, rfl, by decide +kernel, by decide +kernel⟩
abbrev s_size_of : Stmt := top 23
abbrev N_size_of : List Str := ["mask", "many"]
theorem sc_size_of : FnScope N_size_of ["mask"] (defScope s_size_of) := ⟨rfl, rfl, rfl, by decide +kernel, rfl, by decide +kernel, by decide +kernel⟩
abbrev s_is_let : Stmt := top 24
abbrev N_is_let : List Str := ["book", "mask", "spot", "some", "many"]
theorem sc_is_let : FnScope N_is_let ["book", "mask", "spot"] (defScope s_is_let) := ⟨rfl, rfl, rfl, by decide +kernel, rfl, by decide +kernel, by decide +kernel⟩
abbrev s_points_let : Stmt := top 25
abbrev N_points_let : List Str := ["book", "mask", "name", "many"]
theorem sc_points_let : FnScope N_points_let ["book", "mask"] (defScope s_points_let) := ⟨rfl, rfl, rfl, by decide +kernel, rfl, by decide +kernel, by decide +kernel⟩
abbrev s_does_hold : Stmt := top 26
abbrev N_does_hold : List Str := ["book", "mask", "pair", "spot"]
theorem sc_does_hold : FnScope N_does_hold ["book", "mask"] (defScope s_does_hold) := ⟨rfl, rfl, rfl, by decide +kernel, rfl, by decide +kernel, by decide +kernel⟩
abbrev s_steps_at : Stmt := top 29
abbrev N_steps_at : List Str := ["book", "mask", "found", "name"]
theorem sc_steps_at : FnScope N_steps_at ["book", "mask"] (defScope s_steps_at) := ⟨rfl, rfl, rfl, by decide +kernel, rfl, by decide +kernel, by decide +kernel⟩
abbrev s_step_price : Stmt := top 30
abbrev N_step_price : List Str := ["book", "step"]
theorem sc_step_price : FnScope N_step_price ["book", "step"] (defScope s_step_price) := ⟨rfl, rfl, rfl, by decide +kernel, rfl, by decide +kernel, by decide +kernel⟩
abbrev s_Cheapest_step_cost : Stmt := inClass (top 59) 1
abbrev N_Cheapest_step_cost : List Str := ["self", "step"]
theorem sc_Cheapest_step_cost : FnScope N_Cheapest_step_cost ["self", "step"] (defScope s_Cheapest_step_cost) := ⟨rfl, rfl, rfl, by decide +kernel, rfl, by decide +kernel, by decide +kernel⟩
abbrev s_Cheapest_links : Stmt := inClass (top 59) 2
abbrev N_Cheapest_links : List Str := ["self", "cost", "many", "mask", "found", "step", "later", "told", "is_let"]
theorem sc_Cheapest_links : FnScope N_Cheapest_links ["self", "cost", "many", "mask"] (defScope s_Cheapest_links) := ⟨rfl, rfl, rfl, by decide +kernel, rfl, by decide +kernel, by decide +kernel⟩
abbrev s_Cheapest_init : Stmt := inClass (top 59) 0
abbrev N_Cheapest_init : List Str := ["self", "book", "first", "is_by_gives", "line", "cost", "many", "mask", "entry"]
theorem sc_Cheapest_init : FnScope N_Cheapest_init ["self", "book", "first", "is_by_gives"] (defScope s_Cheapest_init) := ⟨rfl, rfl, rfl, by decide +kernel, rfl, by decide +kernel, by decide +kernel⟩
abbrev s_gives_from : Stmt := top 62
abbrev N_gives_from : List Str := ["book", "build"]
theorem sc_gives_from : FnScope N_gives_from ["book", "build"] (defScope s_gives_from) := ⟨rfl, rfl, rfl, by decide +kernel, rfl, by decide +kernel, by decide +kernel⟩
abbrev s_are_unlike : Stmt := top 16
abbrev N_are_unlike : List Str := ["some", "one"]
theorem sc_are_unlike : FnScope N_are_unlike ["some"] (defScope s_are_unlike) := ⟨rfl, rfl, rfl, by decide +kernel, rfl, by decide +kernel, by decide +kernel⟩
abbrev s_is_row : Stmt := top 15
abbrev N_is_row : List Str := ["value"]
theorem sc_is_row : FnScope N_is_row ["value"] (defScope s_is_row) := ⟨rfl, rfl, rfl, by decide +kernel, rfl, by decide +kernel, by decide +kernel⟩
abbrev s_is_word : Stmt := top 14
abbrev N_is_word : List Str := ["value", "sign"]
theorem sc_is_word : FnScope N_is_word ["value"] (defScope s_is_word) := ⟨rfl, rfl, rfl, by decide +kernel, rfl, by decide +kernel, by decide +kernel⟩
abbrev s_are_skills_of : Stmt := top 19
abbrev N_are_skills_of : List Str := ["book", "value", "name"]
theorem sc_are_skills_of : FnScope N_are_skills_of ["book", "value"] (defScope s_are_skills_of) := ⟨rfl, rfl, rfl, by decide +kernel, rfl, by decide +kernel, by decide +kernel⟩
abbrev s_in_order : Stmt := top 20
abbrev N_in_order : List Str := ["book", "skills", "name"]
theorem sc_in_order : FnScope N_in_order ["book", "skills"] (defScope s_in_order) := ⟨rfl, rfl, rfl, by decide +kernel, rfl, by decide +kernel, by decide +kernel⟩
abbrev s_is_build : Stmt := top 21
abbrev N_is_build : List Str := ["book", "value"]
theorem sc_is_build : FnScope N_is_build ["book", "value"] (defScope s_is_build) := ⟨rfl, rfl, rfl, by decide +kernel, rfl, by decide +kernel, by decide +kernel⟩
abbrev s_look_at_good : Stmt := top 28
abbrev N_look_at_good : List Str := ["book", "build"]
theorem sc_look_at_good : FnScope N_look_at_good ["book", "build"] (defScope s_look_at_good) := ⟨rfl, rfl, rfl, by decide +kernel, rfl, by decide +kernel, by decide +kernel⟩
abbrev s_look_at_both : Stmt := top 53
abbrev N_look_at_both : List Str := ["book", "one", "other"]
theorem sc_look_at_both : FnScope N_look_at_both ["book", "one", "other"] (defScope s_look_at_both) := ⟨rfl, rfl, rfl, by decide +kernel, rfl, by decide +kernel, by decide +kernel⟩
abbrev s_fewest_gives : Stmt := top 63
abbrev N_fewest_gives : List Str := ["book", "one", "other"]
theorem sc_fewest_gives : FnScope N_fewest_gives ["book", "one", "other"] (defScope s_fewest_gives) := ⟨rfl, rfl, rfl, by decide +kernel, rfl, by decide +kernel, by decide +kernel⟩
abbrev s_is_whole : Stmt := top 12
abbrev N_is_whole : List Str := ["value"]
theorem sc_is_whole : FnScope N_is_whole ["value"] (defScope s_is_whole) := ⟨rfl, rfl, rfl, by decide +kernel, rfl, by decide +kernel, by decide +kernel⟩
abbrev s_look_at_many : Stmt := top 61
abbrev N_look_at_many : List Str := ["many"]
theorem sc_look_at_many : FnScope N_look_at_many ["many"] (defScope s_look_at_many) := ⟨rfl, rfl, rfl, by decide +kernel, rfl, by decide +kernel, by decide +kernel⟩
abbrev s_is_open : Stmt := top 64
abbrev N_is_open : List Str := ["book", "one", "other", "many", "told"]
theorem sc_is_open : FnScope N_is_open ["book", "one", "other", "many"] (defScope s_is_open) := ⟨rfl, rfl, rfl, by decide +kernel, rfl, by decide +kernel, by decide +kernel⟩
abbrev s__law_fell : Stmt := top 96
abbrev N__law_fell : List Str := ["_law_made_here", "_law_one_here", "_law_other", "_law_many", "e"]
theorem sc__law_fell : FnScope N__law_fell ["_law_made_here", "_law_one_here", "_law_other", "_law_many"] (defScope s__law_fell) := ⟨rfl, rfl, rfl, by decide +kernel, rfl, by decide +kernel, by decide +kernel⟩
abbrev s__law_take : Stmt := top 67
abbrev N__law_take : List Str := ["_law_pool_here", "_law_bound", "_law_result"]
theorem sc__law_take : FnScope N__law_take ["_law_pool_here", "_law_bound"] (defScope s__law_take) := ⟨rfl, rfl, rfl, by decide +kernel, rfl, by decide +kernel, by decide +kernel⟩
abbrev s__law_one : Stmt := top 68
abbrev N__law_one : List Str := ["_law_pool_here", "_law_things"]
theorem sc__law_one : FnScope N__law_one ["_law_pool_here", "_law_things"] (defScope s__law_one) := ⟨rfl, rfl, rfl, by decide +kernel, rfl, by decide +kernel, by decide +kernel⟩
abbrev s__law_turned : Stmt := top 69
abbrev N__law_turned : List Str := ["_law_pool_here", "_law_things", "_law_left", "_law_found"]
theorem sc__law_turned : FnScope N__law_turned ["_law_pool_here", "_law_things"] (defScope s__law_turned) := ⟨rfl, rfl, rfl, by decide +kernel, rfl, by decide +kernel, by decide +kernel⟩
abbrev s_looks_down : Stmt := top 48
abbrev N_looks_down : List Str := ["book", "places", "spot", "name", "want"]
theorem sc_looks_down : FnScope N_looks_down ["book"] (defScope s_looks_down) := ⟨rfl, rfl, rfl, by decide +kernel, rfl, by decide +kernel, by decide +kernel⟩
abbrev s_is_plain : Stmt := top 49
abbrev N_is_plain : List Str := ["book", "want"]
theorem sc_is_plain : FnScope N_is_plain ["book"] (defScope s_is_plain) := ⟨rfl, rfl, rfl, by decide +kernel, rfl, by decide +kernel, by decide +kernel⟩
abbrev s_price_by : Stmt := top 54
abbrev N_price_by : List Str := ["book", "name"]
theorem sc_price_by : FnScope N_price_by ["book", "name"] (defScope s_price_by) := ⟨rfl, rfl, rfl, by decide +kernel, rfl, by decide +kernel, by decide +kernel⟩
abbrev s_loose_in : Stmt := top 55
abbrev N_loose_in : List Str := ["book", "mask", "names", "name"]
theorem sc_loose_in : FnScope N_loose_in ["book", "mask"] (defScope s_loose_in) := ⟨rfl, rfl, rfl, by decide +kernel, rfl, by decide +kernel, by decide +kernel⟩
abbrev s_Book_points : Stmt := inClass (top 46) 2
abbrev N_Book_points : List Str := ["self"]
theorem sc_Book_points : FnScope N_Book_points ["self"] (defScope s_Book_points) := ⟨rfl, rfl, rfl, by decide +kernel, rfl, by decide +kernel, by decide +kernel⟩
abbrev s_spare_skill : Stmt := top 56
abbrev N_spare_skill : List Str := ["book", "one", "other", "some", "least", "name"]
theorem sc_spare_skill : FnScope N_spare_skill ["book", "one", "other"] (defScope s_spare_skill) := ⟨rfl, rfl, rfl, by decide +kernel, rfl, by decide +kernel, by decide +kernel⟩
abbrev s_look_at_plain : Stmt := top 51
abbrev N_look_at_plain : List Str := ["book"]
theorem sc_look_at_plain : FnScope N_look_at_plain ["book"] (defScope s_look_at_plain) := ⟨rfl, rfl, rfl, by decide +kernel, rfl, by decide +kernel, by decide +kernel⟩
abbrev s_look_at_question : Stmt := top 57
abbrev N_look_at_question : List Str := ["book", "one", "other"]
theorem sc_look_at_question : FnScope N_look_at_question ["book", "one", "other"] (defScope s_look_at_question) := ⟨rfl, rfl, rfl, by decide +kernel, rfl, by decide +kernel, by decide +kernel⟩
abbrev s_plain_price : Stmt := top 58
abbrev N_plain_price : List Str := ["book", "one", "other", "more", "spare", "name"]
theorem sc_plain_price : FnScope N_plain_price ["book", "one", "other"] (defScope s_plain_price) := ⟨rfl, rfl, rfl, by decide +kernel, rfl, by decide +kernel, by decide +kernel⟩
abbrev s__law_least : Stmt := top 90
abbrev N__law_least : List Str := ["_law_edges_here", "_law_goal", "_law_resets_too", "_law_found", "_law_some", "_law_turn", "_law_is_new", "_law_build", "_law_step", "_law_later", "_law_cost_here", "_law_edge"]
theorem sc__law_least : FnScope N__law_least ["_law_edges_here", "_law_goal", "_law_resets_too"] (defScope s__law_least) := ⟨rfl, rfl, rfl, by decide +kernel, rfl, by decide +kernel, by decide +kernel⟩
abbrev s__law_gives : Stmt := top 95
abbrev N__law_gives : List Str := ["_law_edges_here", "_law_goal", "_law_one_here", "_law_step", "_law_later", "_law_cost_here"]
theorem sc__law_gives : FnScope N__law_gives ["_law_edges_here", "_law_goal"] (defScope s__law_gives) := ⟨rfl, rfl, rfl, by decide +kernel, rfl, by decide +kernel, by decide +kernel⟩
abbrev s_is_number : Stmt := top 13
abbrev N_is_number : List Str := ["value", "low", "high"]
theorem sc_is_number : FnScope N_is_number ["value", "low", "high"] (defScope s_is_number) := ⟨rfl, rfl, rfl, by decide +kernel, rfl, by decide +kernel, by decide +kernel⟩
abbrev s_are_tuples : Stmt := top 17
abbrev N_are_tuples : List Str := ["value", "size", "most", "one"]
theorem sc_are_tuples : FnScope N_are_tuples ["value", "size", "most"] (defScope s_are_tuples) := ⟨rfl, rfl, rfl, by decide +kernel, rfl, by decide +kernel, by decide +kernel⟩
abbrev s_are_numbered : Stmt := top 44
abbrev N_are_numbered : List Str := ["names", "value", "low", "high", "name", "many"]
theorem sc_are_numbered : FnScope N_are_numbered ["names", "value", "low", "high"] (defScope s_are_numbered) := ⟨rfl, rfl, rfl, by decide +kernel, rfl, by decide +kernel, by decide +kernel⟩
abbrev s_are_bars : Stmt := top 43
abbrev N_are_bars : List Str := ["names", "value", "pairs", "one", "other"]
theorem sc_are_bars : FnScope N_are_bars ["names", "value"] (defScope s_are_bars) := ⟨rfl, rfl, rfl, by decide +kernel, rfl, by decide +kernel, by decide +kernel⟩
abbrev s_is_want : Stmt := top 42
abbrev N_is_want : List Str := ["names", "value", "name"]
theorem sc_is_want : FnScope N_is_want ["names", "value"] (defScope s_is_want) := ⟨rfl, rfl, rfl, by decide +kernel, rfl, by decide +kernel, by decide +kernel⟩
abbrev s_are_needs : Stmt := top 41
abbrev N_are_needs : List Str := ["value", "tiers", "tier", "many"]
theorem sc_are_needs : FnScope N_are_needs ["value"] (defScope s_are_needs) := ⟨rfl, rfl, rfl, by decide +kernel, rfl, by decide +kernel, by decide +kernel⟩
abbrev s_are_skills : Stmt := top 40
abbrev N_are_skills : List Str := ["value", "tiers", "name", "tier"]
theorem sc_are_skills : FnScope N_are_skills ["value"] (defScope s_are_skills) := ⟨rfl, rfl, rfl, by decide +kernel, rfl, by decide +kernel, by decide +kernel⟩
abbrev s_look_at_parts : Stmt := top 45
abbrev N_look_at_parts : List Str := ["parts", "name", "names", "wants", "rows", "is_right", "is_good", "tier", "want"]
theorem sc_look_at_parts : FnScope N_look_at_parts ["parts"] (defScope s_look_at_parts) := ⟨rfl, rfl, rfl, by decide +kernel, rfl, by decide +kernel, by decide +kernel⟩
abbrev s_Book_asked_by : Stmt := inClass (top 46) 1
abbrev N_Book_asked_by : List Str := ["self", "name", "tier", "below", "rows", "want", "mask", "many", "one", "other"]
theorem sc_Book_asked_by : FnScope N_Book_asked_by ["self", "name"] (defScope s_Book_asked_by) := ⟨rfl, rfl, rfl, by decide +kernel, rfl, by decide +kernel, by decide +kernel⟩
abbrev s_Book_init : Stmt := inClass (top 46) 0
abbrev N_Book_init : List Str := ["self", "skills", "points", "needs", "wants", "bars", "gives", "prices", "reset", "name", "tier", "one", "other"]
theorem sc_Book_init : FnScope N_Book_init ["self", "skills", "points", "needs", "wants", "bars", "gives", "prices", "reset"] (defScope s_Book_init) := ⟨rfl, rfl, rfl, by decide +kernel, rfl, by decide +kernel, by decide +kernel⟩
abbrev s__law_made : Stmt := top 73
abbrev N__law_made : List Str := ["_law_book_here"]
theorem sc__law_made : FnScope N__law_made ["_law_book_here"] (defScope s__law_made) := ⟨rfl, rfl, rfl, by decide +kernel, rfl, by decide +kernel, by decide +kernel⟩
abbrev s__law_all : Stmt := top 85
abbrev N__law_all : List Str := ["_law_book_here", "_law_build"]
theorem sc__law_all : FnScope N__law_all ["_law_book_here"] (defScope s__law_all) := ⟨rfl, rfl, rfl, by decide +kernel, rfl, by decide +kernel, by decide +kernel⟩
abbrev s__law_order : Stmt := top 78
abbrev N__law_order : List Str := ["_law_book_here", "_law_some", "_law_name"]
theorem sc__law_order : FnScope N__law_order ["_law_book_here", "_law_some"] (defScope s__law_order) := ⟨rfl, rfl, rfl, by decide +kernel, rfl, by decide +kernel, by decide +kernel⟩
abbrev s__law_behind : Stmt := top 86
abbrev N__law_behind : List Str := ["_law_book_here", "_law_build", "_law_step", "_law_name"]
theorem sc__law_behind : FnScope N__law_behind ["_law_book_here", "_law_build", "_law_step"] (defScope s__law_behind) := ⟨rfl, rfl, rfl, by decide +kernel, rfl, by decide +kernel, by decide +kernel⟩
abbrev s__law_steps : Stmt := top 87
abbrev N__law_steps : List Str := ["_law_book_here", "_law_build", "_law_names_here", "_law_found", "_law_name", "_law_step"]
theorem sc__law_steps : FnScope N__law_steps ["_law_book_here", "_law_build"] (defScope s__law_steps) := ⟨rfl, rfl, rfl, by decide +kernel, rfl, by decide +kernel, by decide +kernel⟩
abbrev s__law_price : Stmt := top 77
abbrev N__law_price : List Str := ["_law_book_here", "_law_name"]
theorem sc__law_price : FnScope N__law_price ["_law_book_here", "_law_name"] (defScope s__law_price) := ⟨rfl, rfl, rfl, by decide +kernel, rfl, by decide +kernel, by decide +kernel⟩
abbrev s__law_cost : Stmt := top 88
abbrev N__law_cost : List Str := ["_law_book_here", "_law_step"]
theorem sc__law_cost : FnScope N__law_cost ["_law_book_here", "_law_step"] (defScope s__law_cost) := ⟨rfl, rfl, rfl, by decide +kernel, rfl, by decide +kernel, by decide +kernel⟩
abbrev s__law_edges : Stmt := top 89
abbrev N__law_edges : List Str := ["_law_book_here", "_law_found", "_law_build", "_law_step"]
theorem sc__law_edges : FnScope N__law_edges ["_law_book_here"] (defScope s__law_edges) := ⟨rfl, rfl, rfl, by decide +kernel, rfl, by decide +kernel, by decide +kernel⟩
abbrev s__law_rows : Stmt := top 71
abbrev N__law_rows : List Str := ["_law_pool_here", "_law_names_here", "_law_top", "_law_words", "_law_is_down", "_law_found", "_law_turn", "_law_spot", "_law_others", "_law_some", "_law_word"]
theorem sc__law_rows : FnScope N__law_rows ["_law_pool_here", "_law_names_here", "_law_top", "_law_words", "_law_is_down"] (defScope s__law_rows) := ⟨rfl, rfl, rfl, by decide +kernel, rfl, by decide +kernel, by decide +kernel⟩
abbrev s__law_tree : Stmt := top 70
abbrev N__law_tree : List Str := ["_law_pool_here", "_law_top", "_law_names_here", "_law_tier_here", "_law_rows_here", "_law_name", "_law_asked"]
theorem sc__law_tree : FnScope N__law_tree ["_law_pool_here", "_law_top"] (defScope s__law_tree) := ⟨rfl, rfl, rfl, by decide +kernel, rfl, by decide +kernel, by decide +kernel⟩
abbrev s__law_book : Stmt := top 72
abbrev N__law_book : List Str := ["_law_pool_here", "_law_top", "_law_sort", "_law_rows_here", "_law_asked", "_law_names_here", "_law_words", "_law_book_here", "_law_turn", "_law_pair", "_law_row", "_law_name"]
theorem sc__law_book : FnScope N__law_book ["_law_pool_here", "_law_top", "_law_sort"] (defScope s__law_book) := ⟨rfl, rfl, rfl, by decide +kernel, rfl, by decide +kernel, by decide +kernel⟩
abbrev s__law_small : Stmt := top 93
abbrev N__law_small : List Str := ["_law_pool_here", "_law_sort"]
theorem sc__law_small : FnScope N__law_small ["_law_pool_here", "_law_sort"] (defScope s__law_small) := ⟨rfl, rfl, rfl, by decide +kernel, rfl, by decide +kernel, by decide +kernel⟩
abbrev s__law_any_sort : Stmt := top 94
abbrev N__law_any_sort : List Str := ["_law_pool_here"]
theorem sc__law_any_sort : FnScope N__law_any_sort ["_law_pool_here"] (defScope s__law_any_sort) := ⟨rfl, rfl, rfl, by decide +kernel, rfl, by decide +kernel, by decide +kernel⟩
abbrev s__law_pool : Stmt := top 66
abbrev N__law_pool : List Str := ["_law_script", "_law_k", "_law_cell", "_law_big", "_law_mixed"]
theorem sc__law_pool : FnScope N__law_pool ["_law_script", "_law_k"] (defScope s__law_pool) := ⟨rfl, rfl, rfl, by decide +kernel, rfl, by decide +kernel, by decide +kernel⟩
abbrev s_law : Stmt := top 97
abbrev N_law : List Str := ["_law_script", "_law_k", "_law_pool_here", "_law_book_here", "_law_made_here", "_law_builds", "_law_edges_here", "_law_like", "_law_goal", "_law_few", "_law_one_here", "_law_wanted", "_law_many", "_law_odd", "_law_good"]
theorem sc_law : FnScope N_law ["_law_script"] (defScope s_law) := ⟨rfl, rfl, rfl, by decide +kernel, rfl, by decide +kernel, by decide +kernel⟩
/-- what the top leaves: names that it does not bind, constants, defs -/
structure Txt (K : Fg) (mg : Str → Option Value) : Prop where
  f_all : mg "all" = none
  f_any : mg "any" = none
  f_bool : mg "bool" = none
  f_dict : mg "dict" = none
  f_enumerate : mg "enumerate" = none
  f_int : mg "int" = none
  f_isinstance : mg "isinstance" = none
  f_len : mg "len" = none
  f_list : mg "list" = none
  f_max : mg "max" = none
  f_min : mg "min" = none
  f_range : mg "range" = none
  f_repr : mg "repr" = none
  f_sorted : mg "sorted" = none
  f_str : mg "str" = none
  f_sum : mg "sum" = none
  f_tuple : mg "tuple" = none
  f_zip : mg "zip" = none
  g_MOST_LETTERS : ∃ t, mg "MOST_LETTERS" = some (.int 8 t)
  g_MOST_SKILLS : ∃ t, mg "MOST_SKILLS" = some (.int 12 t)
  g_MOST_TIERS : ∃ t, mg "MOST_TIERS" = some (.int 4 t)
  g_MOST_POINTS : ∃ t, mg "MOST_POINTS" = some (.int 12 t)
  g_MOST_WANTS : ∃ t, mg "MOST_WANTS" = some (.int 12 t)
  g_MOST_BARS : ∃ t, mg "MOST_BARS" = some (.int 6 t)
  g_MOST_GIVEN : ∃ t, mg "MOST_GIVEN" = some (.int 3 t)
  g_MOST_PRICE : ∃ t, mg "MOST_PRICE" = some (.int 99 t)
  g_LETTERS : ∃ t, mg "LETTERS" = some (.str "abcdefghijklmnopqrstuvwxyz" t)
  g_heappop : mg "heappop" = some (.builtin "_heapq.heappop")
  g_heappush : mg "heappush" = some (.builtin "_heapq.heappush")
  d__law_names : DefAt K mg "_law_names" s__law_names
  d__law_odd_builds : DefAt K mg "_law_odd_builds" s__law_odd_builds
  d__law_subsets : DefAt K mg "_law_subsets" s__law_subsets
  d__law_is_row_met : DefAt K mg "_law_is_row_met" s__law_is_row_met
  d__law_tier : DefAt K mg "_law_tier" s__law_tier
  d__law_below : DefAt K mg "_law_below" s__law_below
  d__law_need : DefAt K mg "_law_need" s__law_need
  d__law_is_met : DefAt K mg "_law_is_met" s__law_is_met
  d__law_size_let : DefAt K mg "_law_size_let" s__law_size_let
  d__law_holds : DefAt K mg "_law_holds" s__law_holds
  d__law_bad_builds : DefAt K mg "_law_bad_builds" s__law_bad_builds
  d_mask_of : DefAt K mg "mask_of" s_mask_of
  d_size_of : DefAt K mg "size_of" s_size_of
  d_is_let : DefAt K mg "is_let" s_is_let
  d_points_let : DefAt K mg "points_let" s_points_let
  d_does_hold : DefAt K mg "does_hold" s_does_hold
  d_steps_at : DefAt K mg "steps_at" s_steps_at
  d_step_price : DefAt K mg "step_price" s_step_price
  d_gives_from : DefAt K mg "gives_from" s_gives_from
  d_are_unlike : DefAt K mg "are_unlike" s_are_unlike
  d_is_row : DefAt K mg "is_row" s_is_row
  d_is_word : DefAt K mg "is_word" s_is_word
  d_are_skills_of : DefAt K mg "are_skills_of" s_are_skills_of
  d_in_order : DefAt K mg "in_order" s_in_order
  d_is_build : DefAt K mg "is_build" s_is_build
  d_look_at_good : DefAt K mg "look_at_good" s_look_at_good
  d_look_at_both : DefAt K mg "look_at_both" s_look_at_both
  d_fewest_gives : DefAt K mg "fewest_gives" s_fewest_gives
  d_is_whole : DefAt K mg "is_whole" s_is_whole
  d_look_at_many : DefAt K mg "look_at_many" s_look_at_many
  d_is_open : DefAt K mg "is_open" s_is_open
  d__law_fell : DefAt K mg "_law_fell" s__law_fell
  d__law_take : DefAt K mg "_law_take" s__law_take
  d__law_one : DefAt K mg "_law_one" s__law_one
  d__law_turned : DefAt K mg "_law_turned" s__law_turned
  d_looks_down : DefAt K mg "looks_down" s_looks_down
  d_is_plain : DefAt K mg "is_plain" s_is_plain
  d_price_by : DefAt K mg "price_by" s_price_by
  d_loose_in : DefAt K mg "loose_in" s_loose_in
  d_spare_skill : DefAt K mg "spare_skill" s_spare_skill
  d_look_at_plain : DefAt K mg "look_at_plain" s_look_at_plain
  d_look_at_question : DefAt K mg "look_at_question" s_look_at_question
  d_plain_price : DefAt K mg "plain_price" s_plain_price
  d__law_least : DefAt K mg "_law_least" s__law_least
  d__law_gives : DefAt K mg "_law_gives" s__law_gives
  d_is_number : DefAt K mg "is_number" s_is_number
  d_are_tuples : DefAt K mg "are_tuples" s_are_tuples
  d_are_numbered : DefAt K mg "are_numbered" s_are_numbered
  d_are_bars : DefAt K mg "are_bars" s_are_bars
  d_is_want : DefAt K mg "is_want" s_is_want
  d_are_needs : DefAt K mg "are_needs" s_are_needs
  d_are_skills : DefAt K mg "are_skills" s_are_skills
  d_look_at_parts : DefAt K mg "look_at_parts" s_look_at_parts
  d__law_made : DefAt K mg "_law_made" s__law_made
  d__law_all : DefAt K mg "_law_all" s__law_all
  d__law_order : DefAt K mg "_law_order" s__law_order
  d__law_behind : DefAt K mg "_law_behind" s__law_behind
  d__law_steps : DefAt K mg "_law_steps" s__law_steps
  d__law_price : DefAt K mg "_law_price" s__law_price
  d__law_cost : DefAt K mg "_law_cost" s__law_cost
  d__law_edges : DefAt K mg "_law_edges" s__law_edges
  d__law_rows : DefAt K mg "_law_rows" s__law_rows
  d__law_tree : DefAt K mg "_law_tree" s__law_tree
  d__law_book : DefAt K mg "_law_book" s__law_book
  d__law_small : DefAt K mg "_law_small" s__law_small
  d__law_any_sort : DefAt K mg "_law_any_sort" s__law_any_sort
  d__law_pool : DefAt K mg "_law_pool" s__law_pool
  d_law : DefAt K mg "law" s_law
end RT
end
section
set_option maxRecDepth 100000
set_option maxHeartbeats 2000000
/-! RTL1: displays and comprehensions of dicts whose keys are tuples. -/
namespace RT
open PySem PySem.Spec PyProof.Rows L2
open Evl (Ex Ex.refl Ex.trans Ex.new Ex.mut)
section
variable {X : Cx} {pos : Pos}
/-- {k: v}, k a tuple of ints and texts -/
def tDispT (tk tv : TE) : TE := fun σ H Q => ∀ p, H p = none → tk σ (upd H p (.dT [])) fun x H1 => tv σ H1 fun y H2 => H2 p = some (.dT []) ∧ ∃ (b : Addr) (k : List Key), x = .ref b ∧ H2 b = some (.tup (k.map kV)) ∧ Q (.ref p) (upd H2 p (.dT [(k, y)]))
theorem pe_dispT {ke ve : Expr} {tk tv : TE} (hu : X.A.units < cLine) (hk : PE X ke tk) (hv : PE X ve tv) : PE X (.Dict [some ke] [ve] pos) (tDispT tk tv) := by
  refine ⟨fun pins s σ H Q I q => ?_⟩
  have hn := I.hok.fresh (Nat.le_refl s.heap.objs.size)
  have I1 := I.laid (a := s.heap.objs.size) (o := .dT []) (h' := s.heap.push { cls := .type "dict", data := .dict #[] }) (t' := s.toks) (fun _ _ q => Heap.get?_push_of_some _ q) (Nat.le_refl _) (dt_empty s.heap I.big)
  rw [arm_eval_Dict, zip_pairTrees [some ke] [ve] X.env pos rfl rfl]
  have hl : (pairTrees [some ke] [ve] X.env pos).length = 1 := pairTrees_length [some ke] [ve] X.env pos rfl rfl
  rw [dictDisplay_pairs (pairTrees [some ke] [ve] X.env pos) (fun z => by rw [z] at hl; cases hl) (by rw [hl]; decide)]
  refine wpAny_bind (wpAny_standAt (wpAny_bind (wpAny_subDictH (knd := tupleKind (mixKind X.prog X.w)) hu (by rw [hl]; decide) ?_)))
  refine pairTrees_cons_walk (thn (hk.run pins _ σ _ _ I1 (q _ hn)) fun u s1 ⟨x, H1, I2, rx, q1⟩ => thn (hv.run pins s1 σ H1 _ I2 q1) fun w2 s2 ⟨y, H2, I3, ry, e, b, k, ex, eb, q3⟩ => pairTrees_nil_walk ?_)
  subst ex
  obtain rfl : u = Value.ref b := rx
  obtain ⟨z, hd, xs, rel, dd⟩ := dt_of I3.hok e
  cases rel
  refine ⟨[(k, b, w2)], ⟨rfl, rfl, key_of I3.hok eb, trivial⟩, dd, fun h' tk dd' hs => wpAny_pure ⟨.ref s.heap.objs.size, _, ?_, rfl, q3⟩⟩
  obtain ⟨o, es, ep, ho, h2, h3, h4, _, h5⟩ := dd'
  have e1 : storedAllH [] [(k, b, w2)] = [(k, b, w2)] := by
    show storedH [] k b w2 = _
    rw [storedH_new rfl]; rfl
  rw [e1] at h4 h5
  refine d_write I3 (by rw [e]; exact True.intro) hs ⟨o, ho⟩ ⟨by show 1 ≤ sizeLine; decide, hd, _, .cons ⟨rfl, ?_, ry⟩ .nil, o, es, ep, ho, h2, h3, h4, h5⟩
  show upd H2 s.heap.objs.size _ b = _
  rw [upd_ne (ne_of eb e (fun z => nomatch z))]
  exact eb

/-- the keys so far -/
def putT (ks : List (List Key)) : List (List Key × V) := ks.foldl (fun acc k => putK acc k (.bl true)) []
theorem putT_snoc (ks : List (List Key)) (k : List Key) : putT (ks ++ [k]) = putK (putT ks) k (.bl true) := by
  unfold putT; rw [List.foldl_append]; rfl
theorem putT_len (ks : List (List Key)) : (putT ks).length ≤ ks.length := by
  have : ∀ (ks : List (List Key)) (acc : List (List Key × V)), (ks.foldl (fun acc k => putK acc k (.bl true)) acc).length ≤ acc.length + ks.length := by
    intro ks
    induction ks with
    | nil => intro acc; simp
    | cons k r ih =>
      intro acc
      rw [List.foldl_cons]
      have h1 := ih (putK acc k (.bl true))
      have h2 := length_putK acc k (.bl true)
      simp only [List.length_cons]; omega
  have := this ks []
  simpa [putT] using this
/-- {x: True for x in l}, l a list of tuples of ints and texts -/
def tDcT (K : Fg) (tl : TE) : TE := fun σ H Q => tl σ H fun v H1 => ∃ (a : Addr) (xs : List V) (ks : List (List Key)), v = .ref a ∧ SqL K H1 a xs ∧ Paired (fun x k => ∃ b, x = V.ref b ∧ H1 b = some (.tup (List.map kV k))) xs ks ∧ ∀ D, H1 D = none → Q (.ref D) (upd H1 D (.dT (putT ks)))
theorem paired_get {α β : Type} {F : α → β → Prop} : ∀ {xs : List α} {ys : List β} {i : Nat} {x : α}, Paired F xs ys → xs[i]? = some x → ∃ y, ys[i]? = some y ∧ F x y
  | _, _, _, _, .nil, e => by simp at e
  | _, _, 0, _, .cons r _, e => by simp at e; subst e; exact ⟨_, rfl, r⟩
  | _, _, i + 1, _, .cons _ t, e => by
    obtain ⟨y, h1, h2⟩ := paired_get (i := i) t (by simpa using e)
    exact ⟨y, by simpa using h1, h2⟩
theorem is_ext {P : Program} {w : World} {h h' : Heap} {ks : List Key} {a : Addr} (x : (tupleKind (mixKind P w)).is h ks a) (k : ∀ o, h.get? a = some o → h'.get? a = some o) : (tupleKind (mixKind P w)).is h' ks a := by
  obtain ⟨o, its, n, h1, r⟩ := x
  exact ⟨o, its, n, k o h1, r⟩
theorem kt_is {P : Program} {w : World} {H : Hp} {h : Heap} (ok : HOk P w H h) {h' : Heap} (k : ∀ b xs, H b = some (.tup xs) → ∀ o, h.get? b = some o → h'.get? b = some o) : ∀ {kvs : List (List Key × V)} {xs : List (List Key × Addr × Value)}, KT H kvs xs → ∀ x ∈ xs, (tupleKind (mixKind P w)).is h' x.1 x.2.1
  | _, _, .nil, x, hx => by cases hx
  | _, _, .cons (b := q) hq t, x, hx => by
    rcases List.mem_cons.mp hx with e | hx
    · subst e
      rw [← hq.1]
      exact is_ext (key_of ok hq.2.1) (k _ _ hq.2.1)
    · exact kt_is ok k t x hx
theorem pe_dcT (K : Fg) {x : Str} {p1 p2 p3 : Pos} {pk : Nat} {l : Expr} {tl : TE} {scope : Scope} (hu : X.A.units < cLine) (hc : X.calm = true) (hl : PE X l tl) (hfree : ∀ y ∈ scope.names, y.2 ≠ .free) (hcell : ∀ y ∈ scope.names, y.2 ≠ .cell) (hkind : scope.kind = .function)
    (hnames : ∀ y ∈ scope.names, y.2 = .local → scope.names.lookup y.1 = some .local) (hx : scope.names.lookup x = some .local) (hs : ∀ v, foldedSetIterable l X.env v = pure v) (hdb : (x == ("__debug__" : Str)) = false) (hK : X.K = K := by rfl) :
    PE X (.DictComp (.Name x p1) (.Constant (.bool true) pk p2) [⟨.Name x p3, l, [], 0⟩] scope pos) (tDcT K tl) := by
  subst hK
  refine ⟨fun pins s σ H Q I q => DictComp_goes (closureFor_none hfree) hcell hkind hnames ?_ hs⟩
  refine thn (hl.run pins s σ H _ I q) fun u s1 ⟨v, H1, I1, rv, a, xs, ks, ev, hq, hp, q1⟩ => ?_
  subst ev
  obtain rfl : u = Value.ref a := rv
  obtain ⟨its, vals, L, hz⟩ := I1.list hq
  have La : s1.heap.IsList a its.toArray := L.isList
  have alt : a < s1.heap.objs.size := by obtain ⟨_, e, _⟩ := La; exact Heap.lt_size e
  refine wpAny_pyIter_list La ?_
  generalize hit : s1.heap.objs.size = it
  have pu : ∀ b o, s1.heap.get? b = some o → (s1.heap.push { cls := .type "list_iterator", data := .fields #[.ref a, .int 0 0] }).get? b = some o := fun b o e => Heap.get?_push_of_some _ e
  have psz : (s1.heap.push { cls := .type "list_iterator", data := .fields #[.ref a, .int 0 0] }).objs.size = it + 1 := by rw [Heap.size_push, hit]
  generalize hh2 : s1.heap.push { cls := .type "list_iterator", data := .fields #[.ref a, .int 0 0] } = h2 at pu psz
  have ane : a ≠ it := by rw [← hit]; exact Nat.ne_of_lt alt
  have lenx : xs.length = its.length := vals.length
  have lenk : xs.length = ks.length := Paired.length hp
  refine ⟨it, [it, a], [it], its.toArray.size, _, _, rfl, Goes.list (I1.ok.hd hc) it a ane its.toArray, ⟨⟨_, by rw [← hh2, ← hit]; exact Heap.get?_push_size _ rfl, rfl, rfl⟩, La.at fun o e => pu a o e⟩, ?_⟩
  intro D C s3 cb hD0
  obtain ⟨⟨h3, t3, rfl⟩, old, nD, nC, ne, nm⟩ := cb
  rw [psz] at nD nC
  have itD : it ≠ D := Nat.ne_of_lt nD
  have itC : it ≠ C := Nat.ne_of_lt nC
  have ait : a < it := Nat.lt_of_lt_of_eq alt hit
  have aD : a ≠ D := Nat.ne_of_lt (Nat.lt_trans ait nD)
  have aC : a ≠ C := Nat.ne_of_lt (Nat.lt_trans ait nC)
  have lt1 : ∀ {b o}, s1.heap.get? b = some o → b < it := fun {b o} e => by rw [← hit]; exact Heap.lt_size e
  refine ⟨fun i s' => ∃ h' tk m, s' = { s1 with heap := h', toks := tk } ∧ (∀ b o, s1.heap.get? b = some o → h'.get? b = some o) ∧ h'.Ns C m ∧ ∃ ws o es ep, KT H1 (putT (ks.take i)) ws ∧ h'.get? D = some o ∧ o.ExactDict ∧ o.data = .dict es ep ∧ es.toList = ws.map (entryOfKey (tupleKind (mixKind X.prog X.w))) ∧ (ws.map (·.1)).Nodup, ?_, ?_, ?_, ?_⟩
  · exact ⟨h3, t3, _, rfl, fun b o e => old b o (pu b o e), nm, [], _, #[], 0, .nil, hD0, ⟨rfl, rfl, rfl⟩, rfl, rfl, List.nodup_nil⟩
  · rintro i s' h' tk ⟨h4, t4, m, rfl, k4, n4, ws, o, es, ep, kt, ho, hx1, hx2, hx3, hx4⟩ kk _
    refine ⟨h', tk, m, rfl, fun b o e => kk b o (fun z => by rcases List.mem_cons.mp z with z | z; exact Nat.ne_of_lt (lt1 e) z; cases z) (k4 b o e), ?_, ws, o, es, ep, kt, kk D o (fun z => by rcases List.mem_cons.mp z with z | z; exact itD z.symm; cases z) ho, hx1, hx2, hx3, hx4⟩
    exact n4.at fun o e => kk C o (fun z => by rcases List.mem_cons.mp z with z | z; exact itC z.symm; cases z) e
  · rintro i v s' hi hv ⟨li, la⟩ ⟨h4, t4, m, rfl, k4, n4, ws, o, es, ep, kt, ho, hx1, hx2, hx3, hx4⟩
    have hv' : its[i]? = some v := by simpa using hv
    have hi' : i < xs.length := by rw [lenx]; simpa using hi
    obtain ⟨u, hu1, ru⟩ := vals.get (List.getElem?_eq_getElem hi')
    rw [hv'] at hu1
    cases hu1
    obtain ⟨k, hk, b, eb, hb⟩ := paired_get hp (List.getElem?_eq_getElem hi')
    rw [eb] at ru
    obtain rfl : v = Value.ref b := ru
    have cN : X.A.units < cLine := hu
    have kn : (compEnvC scope [] C X.env).kindOf x = some .local := lookup_relabel_local hx
    have kf : (compEnvC scope [] C X.env).scope.kind = .function := by simp [compEnvC, relabel, hkind]
    have pc : ((compEnvC scope [] C X.env).scope.kind == .class || ((compEnvC scope [] C X.env).scope.kind == .module && (compEnvC scope [] C X.env).locals != (compEnvC scope [] C X.env).globals)) = false := by rw [kf]; rfl
    refine wpAny_assign_Name (wpAny_storeName_local kn n4 (fun h5 n5 s5 => ?_) pc)
    have s5' : ∀ b, b ≠ C → h5.get? b = h4.get? b := s5.2
    refine wpAny_pure ?_
    rw [if_pos rfl]
    refine wpAny_Name (wpAny_loadName_local (v := .ref b) kf kn n5 (if_pos rfl) ?_) hdb
    refine wpAny_Constant_bool ?_
    have keep5 : ∀ b o, s1.heap.get? b = some o → h5.get? b = some o := fun b o e => (s5' b (Nat.ne_of_lt (Nat.lt_trans (lt1 e) nC))).trans (k4 b o e)
    have ho5 : h5.get? D = some o := (s5' D ne).trans ho
    have isb : (tupleKind (mixKind X.prog X.w)).is h5 k b := is_ext (key_of I1.hok hb) fun o e => keep5 b o e
    have dd : h5.DictOfH (tupleKind (mixKind X.prog X.w)) D ws := ⟨o, es, ep, ho5, hx1, hx2, hx3, kt_is I1.hok (fun c _ _ o e => keep5 c o e) kt, hx4⟩
    have wl : ws.length ≤ sizeLine := by
      rw [← Paired.length kt]
      have h1 := putT_len (ks.take i)
      have h2 : (ks.take i).length ≤ ks.length := by simp; omega
      omega
    refine wpAny_dictSet_heap (hsz := wl) hu isb dd fun h6 dd6 s6 => ?_
    obtain ⟨o6, es6, ep6, ho6, hy1, hy2, hy3, _, hy4⟩ := dd6
    have keep6 : ∀ c, c ≠ D → c ≠ C → h6.get? c = h4.get? c := fun c z1 z2 => (s6.2 c z1).trans (s5' c z2)
    have tk : ks.take (i + 1) = ks.take i ++ [k] := by rw [List.take_succ, hk]; rfl
    refine ⟨⟨h6, _, _, rfl, fun c o e => (keep6 c (Nat.ne_of_lt (Nat.lt_trans (lt1 e) nD)) (Nat.ne_of_lt (Nat.lt_trans (lt1 e) nC))).trans (k4 c o e), n5.at fun o e => (s6.2 C (Ne.symm ne)).trans e, _, o6, es6, ep6, ?_, ho6, hy1, hy2, hy3, hy4⟩, ?_, ?_⟩
    · rw [tk, putT_snoc]
      exact kt.put k hb rfl
    · obtain ⟨ol, e1, e2, e3⟩ := li
      exact ⟨ol, (keep6 it itD itC).trans e1, e2, e3⟩
    · exact la.at fun o e => (keep6 a aD aC).trans e
  · rintro s' ⟨h4, t4, m, rfl, k4, n4, ws, o, es, ep, kt, ho, hx1, hx2, hx3, hx4⟩
    refine ⟨m, n4, fun h5 sb => ?_⟩
    have eD : h5.get? D = some o := (sb.2 D ne).trans ho
    have kall : ∀ b o, s1.heap.get? b = some o → h5.get? b = some o := fun b o e => (sb.2 b (Nat.ne_of_lt (Nat.lt_trans (lt1 e) nC))).trans (k4 b o e)
    have hn : H1 D = none := I1.hok.fresh (by rw [hit]; exact Nat.le_of_lt nD)
    refine ⟨.ref D, _, I1.laid (t' := t4) kall (by rw [hit]; exact Nat.le_of_lt nD) ?_, rfl, q1 D hn⟩
    have e1 : ks.take its.toArray.size = ks := List.take_of_length_le (by simp; omega)
    rw [e1] at kt
    have hbig := I1.big
    refine ⟨Nat.le_trans (putT_len ks) (by rw [← lenk]; exact hz), beq_eq_false_iff_ne.mpr (Ne.symm (Nat.ne_of_lt (Nat.lt_trans (Nat.lt_of_lt_of_eq hbig hit) nD))), ws, kt.keeps fun c ys ec => ?_, o, es, ep, eD, hx1, hx2, hx3, hx4⟩
    rw [upd_ne (ne_of_none ec hn)]
    exact ec
end
end RT
end
section
set_option maxRecDepth 100000
set_option maxHeartbeats 2000000
/-! RTL2: a pair read from its end; stores in a row; repr. -/
namespace RT
open PySem PySem.Spec PyProof.Rows L2
open Evl (Ex Ex.refl Ex.trans Ex.new Ex.mut)
section
variable {prog : Program} {w : World} {A : Around} {E : Value → Shared → Prop} {s : Shared}
theorem back_pair {t sl : Addr} {x y vs : Value} {Q : Value → Shared → Prop} (ht : IsTup s.heap t #[x, y]) (hs : s.heap.IsSliceOf sl .none .none vs) (hp : IsPart vs (some (-1)))
    (h : Q (.ref s.heap.objs.size) { s with heap := s.heap.push { cls := .type "tuple", data := .seq #[y, x] } }) : wpAny (model prog w) A (getItem (.ref t) (.ref sl)) Q E s := by
  obtain ⟨os, hos, hcs, hds⟩ := id hs
  have hTs : s.TypeIs (.ref sl) "slice" := ⟨os, hos, hcs⟩
  obtain ⟨u, rfl⟩ : ∃ u, vs = .int (-1) u := by
    cases hp with | int i u => exact ⟨u, rfl⟩
  unfold getItem
  try with_reducible refine wpAny_holding ?_
  first | refine wpAny_bind (wpAny_pure ?_) | skip
  refine wpAny_bind (wpAny_sequenceKey ht.typeIs (by decide) (wpAny_bind (wpAny_callSpecial?_slot (name := Str.ofString "__getitem__") ht.typeIs slot_tuple_getitem (wpAny_call_entry slot_tuple_getitem ht.typeIs entry_tuple_getitem ?_ (args_tuple_getitem _ _)))))
  show wpAny _ _ (Builtin.Tuple.tupleItemsOf (.ref t) >>= _) _ _ s
  refine wpAny_bind (tupleItemsOf_ ht (wpAny_bind (wpAny_typeOf hTs ?_)))
  rw [if_pos (by decide)]
  have ap : ∀ {A : Around} {E : Value → Shared → Prop} {Q : Int × Int × Nat → Shared → Prop}, Q (1, -1, 2) s → wpAny (model prog w) A (Builtin.Slice.sliceApplied (.ref sl) (pure (((#[x, y] : Array Value).size : Nat) : Int))) Q E s := by
    intro A E Q hq
    unfold Builtin.Slice.sliceApplied Builtin.Slice.sliceFields
    refine wpAny_bind (wpAny_bind (wpAny_field hos hds (x := .none) rfl (wpAny_bind (wpAny_field hos hds (x := .none) rfl (wpAny_bind (wpAny_field hos hds (x := .int (-1) u) rfl (wpAny_pure ?_)))))))
    refine wpAny_bind (slicePart_int ?_)
    show wpAny _ _ (if ((-1 : Int) == 0) = true then _ else _) _ _ s
    rw [if_neg (by decide)]
    exact wpAny_bind (slicePart_none (wpAny_bind (slicePart_none (wpAny_bind (wpAny_pure (wpAny_pure (Eq.mp (congrArg (fun p => Q p s) (show ((1, -1, 2) : Int × Int × Nat) = _ by first | rfl | decide | simp [Builtin.Slice.slicePlaces])) hq)))))))
  refine wpAny_bind (ap (E := E) ?_)
  show wpAny _ _ (if ((1 : Int) == 0 && (-1 : Int) == 1 && (2 : Nat) == 2) = true then _ else _) _ _ s
  rw [if_neg (by decide)]
  have e : ((List.range 2).filterMap fun (k : Nat) => (#[x, y] : Array Value)[((1 : Int) + (k : Int) * (-1)).toNat]?).toArray = #[y, x] := rfl
  rw [e]
  have z : sizeOk (.seq #[y, x]) := by show 2 ≤ sizeLine; decide
  first
    | exact wpAny_bind (m := Builtin.Tuple.tupleExact _) (wpAny_newObj_type (wpAny_pure ⟨_, rfl, wpAny_pure h⟩) z)
    | exact wpAny_bind (m := Builtin.Tuple.tupleExact _) (wpAny_newObj_type (wpAny_bind (wpAny_pure (wpAny_pure ⟨_, rfl, wpAny_pure h⟩))) z)
end
section
variable {X : Cx}
def tRevT (K : Fg) (te : TE) : TE := fun σ H Q => te σ H fun v H1 => ∃ (a : Addr) (x y : V), v = .ref a ∧ SqT K H1 a [x, y] ∧ ∀ p, H1 p = none → Q (.ref p) (upd H1 p (.tup [y, x]))
theorem pe_revT (K : Fg) {e : Expr} {te : TE} {k : Nat} {p1 p2 p3 pos : Pos} (he : PE X e te) (hK : X.K = K := by rfl) : PE X (.Subscript e (.Slice none none (some (.UnaryOp .USub (.Constant (.int 1) k p1) p2)) p3) pos) (tRevT K te) := by
  subst hK
  refine ⟨fun pins s σ H Q I h => Subscript_ (thn (he.run pins s σ H _ I h) fun v s1 ⟨x, H1, I1, r1, a, y, z, ex, hx, q⟩ => ?_)⟩
  subst ex
  cases r1
  have step : PO X (some (.UnaryOp .USub (.Constant (.int 1) k p1) p2)) (tPart (tUn (rU fun i => .int (-i)) (tC (.int 1)))) := po_some (pe_un un_neg pe_int)
  refine wpAny_Slice (thn (po_none.run pins s1 σ H1 (fun o H2 => o = none ∧ H2 = H1) I1 ⟨rfl, rfl⟩) fun vl s2 ⟨l, H2, I2, pl, el, e2⟩ => ?_)
  subst el e2
  refine thn (po_none.run pins s2 σ H2 (fun o H3 => o = none ∧ H3 = H2) I2 ⟨rfl, rfl⟩) fun vu s3 ⟨u, H3, I3, pu, eu, e3⟩ => ?_
  subst eu e3
  refine thn (step.run pins s3 σ H3 (fun o H4 => o = some (-1) ∧ H4 = H3) I3 ⟨1, rfl, -1, rfl, rfl, rfl⟩) fun vs s4 ⟨o, H4, I4, ps, eo, e4⟩ => ?_
  subst eo e4
  cases pl
  cases pu
  have I5 : Inv X pins σ H4 { s4 with heap := s4.heap.push { cls := .type "slice", data := .fields #[.none, .none, vs] } } := I4.kept (t' := s4.toks) fun b ob q => Heap.get?_push_of_some _ q
  obtain ⟨its, r, ht, hz⟩ := I5.tuple hx
  cases r with | cons ry r => cases r with | cons rz r =>
  cases r
  refine tail_any (ops := [.ref a, .ref s4.heap.objs.size]) ht.typeIs slot_tuple_getitem.lookup ?_ (by with_unfolding_all rfl)
  refine back_pair ht (Heap.IsSliceOf.new _ .none .none vs) ps ?_
  refine ⟨.ref _, _, I5.laid (t' := s4.toks) (o := .tup [z, y]) (fun b ob q => Heap.get?_push_of_some _ q) (Nat.le_refl _) ?_, rfl, q _ (I5.hok.fresh (Nat.le_refl _))⟩
  exact ⟨by show 2 ≤ sizeLine; decide, _, .cons rz (.cons ry .nil), ⟨_, Heap.get?_push_size _ rfl, rfl, 0, rfl⟩⟩
end
end RT
end
section
set_option maxRecDepth 100000
set_option maxHeartbeats 2000000
/-! RTL3: promises kept where no repr is under way; repr. -/
namespace RT
open PySem PySem.Spec PyProof.Rows L2
open Evl (Ex Ex.refl Ex.trans Ex.new Ex.mut)
/-- no repr is under way -/
abbrev Gd (A : Around) : Prop := A.guards = some []
/-- a def's promise, asked only where no repr is under way -/
structure FnG (P : Program) (w : World) (K : Fg) (mg : Str → Option Value) (base : Heap) (CX : CXT) (k : Nat) (f : Addr) (fd : FuncData) (ps : List Str) (sp : Sp) : Prop where
  len : ∀ vs H Q E, sp vs H Q E → vs.length = ps.length
  run : ∀ (A : Around) (outer : List Env) (s : Shared) (H : Hp) (args : Args) (us : List Value) (vs : List V) (Q : VK) (E : XK), Gd A → Room k A → Env0 P w K mg base A outer s H → BindsTo s fd args (ps.zip us) → Vals vs us → sp vs H Q E →
    codeAny (model P w) A (.call (.ref f) args) (CR CX outer P w H s Q E) s
section
variable {CX : CXT} {P : Program} {w : World} {K : Fg} {mg : Str → Option Value} {base : Heap} {k : Nat} {x qual : Str} {params : Arguments} {body : List Stmt} {scope : Scope} {dvs : List V} {kws : List (Str × V)} {f : Addr} {fd : FuncData} {N ps : List Str} {sp : Sp}
theorem fnG_of (F : FunD K x qual params body scope dvs kws f fd) (S : FnScope N ps scope) (len : ∀ vs H Q E, sp vs H Q E → vs.length = ps.length)
    (hbody : ∀ (cdv : Value) (A : Around) (outer : List Env) (s : Shared) (H : Hp) (vs : List V) (Q : VK) (E : XK), Gd A → Room k (A.deeper (envOfC qual scope s.heap.objs.size f cdv)) → sp vs H Q E →
      ∃ t, PSs (cxOf CX P w K mg base N qual scope f cdv A outer s H E) body t ∧ t { nx := fun _ H' => Q .non H', rt := Q } (start N vs) H) : FnG P w K mg base CX (k + 1) f fd ps sp := by
  obtain ⟨oc, od, dV, kV, doc, pm, an, cdv, ct, osl, rfl, lk, hcd, _, _⟩ := F.ex
  refine ⟨len, fun A outer s H args us vs Q E hg hr e0 bt rl hs => ?_⟩
  have hin : K.In s.heap := e0.mod.kin.keeps fun b o e => (e0.bs b o e).1
  have hno : s.heap.NoLimit := e0.mod.nolimit.keeps fun b o e => (e0.bs b o e).1
  refine codeAny_call_function hr.depth (hin _ _ lk) rfl S.co S.gen rfl (PySem.W.codeRec_of hin hcd) (bt _ _ _ _ ?_)
  refine wpAny_newFunctionEnv_cells S.kind (fun q hq => ?_) fun env he s1 hx => ?_
  · obtain ⟨n, v⟩ := q
    rcases S.par n (List.of_mem_zip hq).1 with z | z
    · exact .inl z
    · exact .inr ⟨z, PySem.W.cellsFrom_some _ _ _ (.inl z)⟩
  · subst he
    obtain ⟨t, ht, hq⟩ := hbody cdv A outer s H vs Q E hg (hr.deeper _) hs
    have I := inv_start (CX := CX) (E := E) S hr.hd e0 (len _ _ _ _ hs) rl hx
    refine ⟨hno.keeps hx.toInCall.keep, codeAny_func (wpAny_mono (ht.run [] s1 (start N vs) H _ I hq) (fun fl s' hf => ?_) fun e s' hf => hf)⟩
    have done : ∀ (σ' : L2.St) (H' : Hp) (v : V) (u : Value), Inv (cxOf CX P w K mg base N qual scope f cdv A outer s H E) [] σ' H' s' → RelV v u → Q v H' → CE outer P w H s Q u s' :=
      fun σ' H' v u J rv q => ⟨v, H', J.os, J.bare, J.base, J.hok, rv, q⟩
    match fl, hf with
    | .ret u, ⟨v, σ', H', J, rv, q⟩ => exact done σ' H' v u J rv q
    | .next, ⟨σ', H', J, q⟩ => exact done σ' H' .non .none J rfl q
    | .brk, ⟨_, _, _, q⟩ => exact q.elim
    | .cont, ⟨_, _, _, q⟩ => exact q.elim
end
section
variable {X : Cx} {CX : CXT} {k j : Nat} {f : Addr} {fd : FuncData} {ps : List Str} {sp : Sp} {E : XK} {x : Str} {p pos : Pos} {e : Expr} {es : List Expr} {t : TA}
/-- a def of the module that keeps such a promise -/
structure CalleeG (P : Program) (w : World) (K : Fg) (mg : Str → Option Value) (base : Heap) (CX : CXT) (k : Nat) (x : Str) (ps : List Str) (sp : Sp) : Prop where
  ex : ∃ f fd, FnG P w K mg base CX k f fd ps sp ∧ mg x = some (.ref f) ∧ PySem.W.keepIn K (.ref f) = true ∧ L2.Binds K fd ps []
theorem pe_clG (c : CalleeG X.prog X.w X.K X.mg X.base CX k x ps sp) (hgd : Gd X.A) (hr : Room j X.A) (hx : Passes CX X E) (ha : PA X (e :: es) t) (hg : Gl X x := by rfl) (hkj : k ≤ j := by decide) (hdb : (x == ("__debug__" : Str)) = false := by decide)
    (he : starEach (e :: es) X.env = (false, eval e X.env) :: starEach es X.env := by rfl) (hpl : (backTo pos (starEach es X.env)).any (·.1) = false := by rfl) : PE X (.Call (.Name x p) (e :: es) [] pos) (tCall sp [] E t) := by
  obtain ⟨f, fd, F, hm, hk, hb⟩ := c.ex
  refine ⟨fun pins s σ H Q I h => wpAny_Call_Name_kw (ld_glob I hg hm (PySem.W.callWith_K (h₀ := X.base) I.ok.mod.kin hk (thn (ha.run pos pins s σ H _ I h) fun us s1 ⟨vs, H1, I1, r, q⟩ => ⟨I1.kIn, ?_⟩) he hpl) hdb)⟩
  have q : sp (vs ++ []) H1 Q E := q
  rw [List.append_nil] at q
  have hl : us.length = ps.length := by rw [← r.length]; exact F.len _ _ _ _ q
  refine wpAny_call (codeAny_mono (F.run X.A X.stack s1 H1 ⟨us, []⟩ us vs Q E hgd (hr.mono hkj) I1.env0 (by have := hb s1 us I1.kIn (by rw [List.append_nil]; exact hl); rwa [List.append_nil] at this) r q) fun r' s' hq => ?_)
  match r', hq with
  | .error er, hq => exact hx pins σ H1 s1 er s' I1 hq
  | .ok (.ret u), hq => exact I1.after hq
  | .ok .next, hq => exact hq.elim
  | .ok .brk, hq => exact hq.elim
  | .ok .cont, hq => exact hq.elim
end

/-! ### repr -/
section
variable {X : Cx}
def rReprD (K : Fg) : List V → Hp → VK → Prop := fun xs H Q => ∃ v d, xs = [v] ∧ ((Dp K H v d ∧ d.showable = true ∧ d.hasDict = false ∧ d.depth ≤ 8 ∧ d.shown.length ≤ 100000) ∨ (d = .dict [] ∧ ∃ a, v = .ref a ∧ H a = some (.dK []))) ∧ Q (.str d.shown) H
theorem call_reprD (hg : Gd X.A) (hu : X.A.units + 64 < cLine) : CallR X (.builtin "repr") (rReprD X.K) := by
  intro pins s σ H xs us Q I rl h
  obtain ⟨v, d, rfl, hd, q⟩ := h
  cases rl with | cons r rr =>
  cases rr
  have fin : ∀ (h' : Heap) (u : Tok) (tk : Nat), (∀ b o, s.heap.get? b = some o → h'.get? b = some o) → EP X pins σ Q (.str d.shown u) { s with heap := h', toks := tk } := fun h' u tk kk => ⟨.str d.shown, H, I.kept (t' := tk) kk, ⟨u, rfl⟩, q⟩
  have fin0 : ∀ (u : Tok) (tk : Nat), EP X pins σ Q (.str d.shown u) { s with toks := tk } := fun u tk => fin s.heap u tk fun _ _ e => e
  rcases hd with ⟨hd, h1, h2, h3, h4⟩ | ⟨rfl, a, rfl, ha⟩
  · obtain ⟨as, rd⟩ := Dp.reads I d v _ hd r
    have hz : d.shown.length ≤ sizeLine := Nat.le_trans h4 (by decide)
    cases rd with
    | none => exact PySem.P.repr_of_none (fin0 _ _)
    | bool b => exact PySem.P.repr_of_bool (by have := fin0 s.toks (s.toks + 1); simp only [PyData.shown] at this; exact this)
    | int i t => exact PySem.P.repr_of_int (by simpa [PyData.showable] using h1) (by have := fin0 s.toks (s.toks + 1); simp only [PyData.shown] at this; exact this)
    | str x t => exact PySem.P.repr_of_str (fin0 _ _) hz
    | list ho hc hdd hr => exact repr_of_reads' (.list ho hc hdd hr) h1 (fun z => by rw [h2] at z; cases z) hg (by omega) (fun _ _ e => e) (fun h' u tk kk => fin h' u tk kk) hz
    | tuple ho hc hdd hr => exact repr_of_reads' (.tuple ho hc hdd hr) h1 (fun z => by rw [h2] at z; cases z) hg (by omega) (fun _ _ e => e) (fun h' u tk kk => fin h' u tk kk) hz
    | dict ho hc hdd hr hr2 => cases h2
  · obtain ⟨_, hns, vs, rel, o, es, ep, ho, hc, hdd, he, _⟩ := dk_of I.hok ha
    cases rel
    obtain rfl : _ = Value.ref a := r
    have e0 : es.toList = [] := by
      rename_i hpr
      have := hpr.1
      cases q0 : es.toList with
      | nil => rfl
      | cons z zs => rw [q0] at this; cases this
    exact repr_of_reads' (as := [a] ++ []) (.dict (kvs := []) ho hc.1 hdd (by rw [e0]; exact .nil) (by rw [e0]; exact .nil)) (by decide) (fun _ z => by simp at z; subst z; simp at hns) hg (Nat.lt_of_le_of_lt (Nat.add_le_add_left (show (PyData.dict []).depth + 1 ≤ 64 by decide) _) hu) (fun _ _ e => e) (fun h' u tk kk => fin h' u tk kk) (by decide +kernel)
end
end RT
end
section
set_option maxRecDepth 100000
set_option maxHeartbeats 2000000
/-! RTL4: an own exception two steps above ValueError, made by super().__init__(text); self.f = x. -/
namespace RT
open PySem PySem.Spec PyProof.Rows L2
open PySem.W (KxsFacts)
open Evl (Ex Ex.refl Ex.trans Ex.new Ex.mut)
/-- what is asked of such a class and its __init__ -/
structure IniF (P : Program) (K : Fg) (C f : Addr) (fld : Str) (N ps : List Str) (fd : FuncData) (st : Stmt) : Prop where
  ox : OexC K C
  sc : NdefX.NScope N ps ["__class__"] (defScope st)
  at_ : ∃ (name qual : Str) (dV kV doc pm ct oc : Value) (an od : Option Addr) (osl : Array (Option Value)) (cda cc : Addr), fd = PySem.W.fnX name qual (defArgs st) (defBody st) (defScope st) [("__class__", cc)] dV kV doc pm an (.ref cda) ct ∧ K.lookup f = some ⟨oc, od, .func fd, osl⟩ ∧ PySem.W.codeIn K (.ref cda) qual = true ∧
    (∃ (cl : Value) (cld : Option Addr) (csl : Array (Option Value)), K.lookup cc = some ⟨cl, cld, .cell (some (.ref C)), csl⟩) ∧ ∃ (ccl : Value) (cdd : Option Addr) (vs : Array Value) (ccs : Array (Option Value)) (file : Str) (tf : Tok), K.lookup cda = some ⟨ccl, cdd, .fields vs, ccs⟩ ∧ vs[2]? = some (.str file tf) ∧ ((P.main.file : Str) == file) = true
  sub : PySem.W.mroIn K C (.ref C) = some true
  ve : PySem.W.subIn K (.ref C) (.type "ValueError") = some true
  along : PySem.W.ks_superIn K C C "__init__" = some (some (.builtin "ValueError.__init__"))
  nosup : PySem.W.nsIn K mainGlobals "super" = some none
  ho : PySem.W.nsIn K cStatics "thirdparty.any" = some none
  no : PySem.W.findIn K (.ref C) fld = some none
  top : (P.main.scope.names.lookup ("super" : Str)).isSome = false
/-- __init__'s promise -/
def iniSp (C : Addr) (fld : Str) : Sp := fun vs H Q _ => ∃ a v, vs = [.ref a, v] ∧ H a = some (exo a C none) ∧ ∀ dx, H dx = none → dx ≠ a → Q .non (upd (upd H dx (exd dx [(fld, v)])) a (exo a C (some dx)))
section
variable {CX : CXT} {P : Program} {w : World} {K : Fg} {mg : Str → Option Value} {base : Heap} {k : Nat} {C f : Addr} {fld prm : Str} {N ps : List Str} {fd : FuncData} {st : Stmt}
/-- super().__init__(text), in the code that runs -/
theorem super_init {X : Cx} {body : List Stmt} {σ : L2.St} {H : Hp} {s : Shared} {E : Value → Shared → Prop} {Q : Value → Shared → Prop} {p0 p1 p2 p3 p4 : Pos} {txt : Str} {kk : Nat} {a cc cda : Addr} {fds : FuncData} {ar : Arg}
    (F : ∃ (fld : Str) (N ps : List Str), IniF X.prog X.K C f fld N ps fds st) (I : Inv X [] σ H s) (hf : X.env.func = some f) (hco : X.env.code = .ref cda) (hk : X.env.scope.kind = .function) (hks : X.env.scope.names.lookup ("super" : Str) = some .globalImplicit) (hkc : X.env.scope.names.lookup ("__class__" : Str) = some .free)
    (hmg : X.mg "super" = none) (hcell : X.env.cells.lookup ("__class__" : Str) = some cc) (hcc : s.heap.IsCell cc (some (.ref C)))
    (har : (fds.params.posonlyargs ++ fds.params.args).head? = some ar) (hself : ∀ {Q : Value → Shared → Prop}, Q (.ref a) s → wpAny (model X.prog X.w) X.A (loadName X.env ar.arg) Q E s)
    (hfs : ∃ oc od osl, s.heap.get? f = some ⟨oc, od, .func fds, osl⟩) (hcode : ∃ ccl cdd vs ccs file tf, s.heap.get? cda = some ⟨ccl, cdd, .fields vs, ccs⟩ ∧ vs[2]? = some (.str file tf) ∧ ((X.prog.main.file : Str) == file) = true)
    (e : H a = some (exo a C none)) (h : ∀ v s', Inv X [] σ H s' → Q v s') {pl : Sem Bool}
    (he : eval (.Call (.Attribute (.Call (.Name "super" p0) [] [] p1) "__init__" p2) [.Constant (.str txt) kk p3] [] p4) X.env = (do
      let ov ← attributeBase (.Call (.Name "super" p0) [] [] p1) "__init__" X.env (eval (.Call (.Name "super" p0) [] [] p1) X.env)
      standAt p2.atName
      let (g, first) ← holding [ov] (getMethod ov "__init__" pl)
      callWith p4 g first (backTo p4 (starEach [.Constant (.str txt) kk p3] X.env)) [])) (htxt : txt.length ≤ 1000) :
    _root_.PySem.wpAt (model X.prog X.w) X.A (.func body X.env) (eval (.Call (.Attribute (.Call (.Name "super" p0) [] [] p1) "__init__" p2) [.Constant (.str txt) kk p3] [] p4) X.env) Q E s := by
  obtain ⟨fld, N, ps, F⟩ := F
  obtain ⟨oc, od, osl, hfs⟩ := hfs
  obtain ⟨ccl, cdd, vs, ccs, file, tf, hc1, hc2, hc3⟩ := hcode
  have X0 : X.K.In s.heap := I.kIn
  obtain ⟨nm, q, N', bs, bm, sn, sub, ab, col, dd, k0, k1, k2, k3, k5, hC, hbm⟩ := F.ox.cls
  have hcl : PySem.W.clsIn X.K C = some { name := nm, bases := bs, mro := .ref C :: bm, ns := N', qualname := q, hasDict := true, slotNames := sn, subclasses := sub, abstract := ab, collection := col, hasDel := false } := by unfold PySem.W.clsIn; rw [hC] <;> rfl
  obtain ⟨t1, hoa⟩ := exo_at I.hok e
  have hD1 := X0 _ _ hC
  refine ks_wpAt_MethodCall (ks_wpAt_super_base hks hkc (by decide) hf hfs rfl har hco hc1 rfl hc2 hc3 F.top ?_) he
  obtain ⟨mb, b1, b2⟩ := I.mod.blt
  refine PySem.W.ks_loadName_global hk hks (Calls.loadGlobal_builtin (by rw [I.ok.glob]; exact I.mod.glob.keeps I.bk) hmg (by rw [I.ok.blt]; exact b1.keeps I.bk) ((b2 _ (by decide)).trans (by first | rfl | kernel_rfl | decide +kernel)) ⟨rfl, ?_⟩)
  refine wpAny_loadName_free hk hkc hcell hcc (hself (ks_wpAny_isType_cls hD1 rfl ⟨rfl, ?_⟩))
  obtain ⟨hh, g, d, t, os⟩ := s
  refine ks_wpAny_call_super hD1 rfl hoa rfl (fun c e => by cases e) (PySem.W.looks_mroIn X0 F.sub) fun h1 e1 k1' => ?_
  generalize hso : hh.objs.size = so at e1
  have X1 : X.K.In h1 := fun b o z => k1' _ _ (X0 b o z)
  have hmro : PySem.W.Looks (model X.prog X.w) h1 (mroOf (.ref C)) (.ref C :: bm) := fun A Q E s k q => wpAny_bind ((PySem.W.looks_clsIn X1 hcl) A _ E s k (wpAny_pure q))
  have al : PySem.W.alongIn X.K "__init__" (((.ref C :: bm : List Value).dropWhile (· != .ref C)).drop 1) = some (some (.builtin "ValueError.__init__")) := by
    have := F.along
    unfold PySem.W.ks_superIn at this
    rw [hcl] at this
    exact this
  have inst : PySem.W.InstAt h1 a ({ cls := .ref C, dict := none, data := .fields #[.ref t1, .none, .none, .none, .bool false, .none] } : Obj) C none := ⟨k1' _ _ hoa, rfl, rfl, trivial⟩
  have isVE : PySem.W.Looks (model X.prog X.w) h1 (isInstance (.ref a) (.type "ValueError")) true := inst.type.andThen (PySem.W.looks_subIn X1 F.ve)
  have aC : a ≠ C := fun z => by
    rw [z] at hoa
    rw [hD1] at hoa
    cases hoa
  refine PySem.W.kxs_getMethod PySem.W.kxs_ValueError e1 (PySem.W.looks_opaque X1 F.ho) hmro rfl X1 al isVE aC (by decide) ?_
  generalize hmw : h1.objs.size = mw
  have mwo : (h1.push (PySem.W.kxs_mw "ValueError.__init__" a)).get? mw = some (PySem.W.kxs_mw "ValueError.__init__" a) := by rw [← hmw]; exact Heap.get?_push_at rfl rfl
  have k2' : ∀ b o, hh.get? b = some o → (h1.push (PySem.W.kxs_mw "ValueError.__init__" a)).get? b = some o := fun b o z => Heap.get?_push_of_some _ (k1' _ _ z)
  generalize hh2 : h1.push (PySem.W.kxs_mw "ValueError.__init__" a) = h2 at mwo k2'
  refine PySem.W.kxs_callWith (i := "ValueError.__init__") (x := a) rfl (PySem.Calls.evalArgs_plain ?_)
  refine spliced_more (wpAny_Constant_str (spliced_none ⟨mwo, ?_⟩))
  have he2 : h2.get? a = some ({ cls := .ref C, dict := none, data := .fields #[.ref t1, .none, .none, .none, .bool false, .none] } : Obj) := k2' _ _ hoa
  refine wpAny_call (codeAny_of_tree ?_)
  show wpAny _ X.A.in1 (callAny (.ref mw) ⟨[.str txt (t + 1)], []⟩) _ _ _
  simp only [callAny]
  refine wpAny_bind (wpAny_load mwo ?_)
  simp only [PySem.W.kxs_mw, show (Value.type "method-wrapper" == Value.type "method" || Value.type "method-wrapper" == Value.type "builtin_function_or_method" || Value.type "method-wrapper" == Value.type "method-wrapper") = true by decide, if_true]
  refine PySem.W.KFB.if_so (by decide) ?_
  refine wpAny_bind (PySem.W.check_bound_init PySem.F.excBase_ValueError.toExcCallFacts (k2' _ _ hD1) he2 rfl (wpAny_bind (wpAny_pure (wpAny_pure ?_))))
  refine ⟨plainId_quiet PySem.F.excBase_ValueError.init.plain _, codeAny_builtin PySem.F.excBase_ValueError.initEntry ?_⟩
  refine PySem.W.exc_init_tree (cls := .ref C) (t0 := t1) (dv := none) (c2 := .none) (c3 := .none) (b4 := .bool false) he2 (by show 1 ≤ sizeLine; decide) fun h3 k3 e3 _ => ?_
  have J := I.write (t' := t + 1 + 1) (x := a) (e := a) (o := exo a C none) (by rw [e]; exact True.intro) (.inl rfl) (fun b o hb z => k3 b o hb (k2' b o z)) ⟨_, e3⟩ (exo_ok e3)
  have eu : upd H a (exo a C none) = H := by
    funext b
    unfold upd
    split
    · rename_i hb; rw [hb, e]
    · rfl
  rw [eu] at J
  exact h _ _ J
/-- the body of such an __init__ -/
theorem ini_body {X : Cx} {body : List Stmt} {H : Hp} {s : Shared} {D : Ends} {ar : Arg} {p0 p1 p2 p3 p4 p5 p6 p7 p8 p9 : Pos} {txt : Str} {kk : Nat} {a cc cda : Addr} {v : V} {fds : FuncData}
    (F : ∃ (fld : Str) (N ps : List Str), IniF X.prog X.K C f fld N ps fds st) (hno : PySem.W.findIn X.K (.ref C) fld = some none) (I : Inv X [] [some (.ref a), some v, none] H s) (hN : X.N = (["self", prm, "__class__"] : List Str)) (hpx : Vis X.env.scope prm) (hsx : Vis X.env.scope "self") (hf : X.env.func = some f) (hco : X.env.code = .ref cda) (hk : X.env.scope.kind = .function) (hks : X.env.scope.names.lookup ("super" : Str) = some .globalImplicit)
    (hkc : X.env.scope.names.lookup ("__class__" : Str) = some .free) (hmg : X.mg "super" = none) (hcell : X.env.cells.lookup ("__class__" : Str) = some cc) (hcc : s.heap.IsCell cc (some (.ref C))) (har : (fds.params.posonlyargs ++ fds.params.args).head? = some ar)
    (hself : ∀ {E Q : Value → Shared → Prop}, Q (.ref a) s → wpAny (model X.prog X.w) X.A (loadName X.env ar.arg) Q E s) (hfs : ∃ oc od osl, s.heap.get? f = some ⟨oc, od, .func fds, osl⟩)
    (hcode : ∃ ccl cdd vs ccs file tf, s.heap.get? cda = some ⟨ccl, cdd, .fields vs, ccs⟩ ∧ vs[2]? = some (.str file tf) ∧ ((X.prog.main.file : Str) == file) = true) (e : H a = some (exo a C none)) {pl : Sem Bool}
    (he : eval (.Call (.Attribute (.Call (.Name "super" p0) [] [] p1) "__init__" p2) [.Constant (.str txt) kk p3] [] p4) X.env = (do
      let ov ← attributeBase (.Call (.Name "super" p0) [] [] p1) "__init__" X.env (eval (.Call (.Name "super" p0) [] [] p1) X.env)
      standAt p2.atName
      let (g, first) ← holding [ov] (getMethod ov "__init__" pl)
      callWith p4 g first (backTo p4 (starEach [.Constant (.str txt) kk p3] X.env)) [])) (htxt : txt.length ≤ 1000) (hi : interactive X.env = false) (hsw : swapsWith (.Call (.Attribute (.Call (.Name "super" p0) [] [] p1) "__init__" p2) [.Constant (.str txt) kk p3] [] p4) none p5.line X.env = pure false)
    (hsw2 : swapsWith (.Name prm p8) (some (.Attribute (.Name "self" p6) fld p7)) p9.line X.env = pure false) (hd1 : (prm == ("__debug__" : Str)) = false) (hd2 : (prm == ("__classdict__" : Str)) = false)
    (hq : ∀ dx, H dx = none → dx ≠ a → D.nx [some (.ref a), some v, none] (upd (upd H dx (exd dx [(fld, v)])) a (exo a C (some dx)))) :
    _root_.PySem.wpAt (model X.prog X.w) X.A (.func body X.env) (execs [.Expr (.Call (.Attribute (.Call (.Name "super" p0) [] [] p1) "__init__" p2) [.Constant (.str txt) kk p3] [] p4) p5, .Assign [.Attribute (.Name "self" p6) fld p7] (.Name prm p8) p9] X.env) (SP X [] D) X.xe s := by
  have ox : OexC X.K C := by obtain ⟨_, _, _, G⟩ := F; exact G.ox
  refine ks_wpAt_execs_cons (ks_wpAt_Expr_any (super_init F I hf hco hk hks hkc hmg hcell hcc har (hself (E := X.xe)) hfs hcode e (fun _ s' J => ?_) he htxt) hi hsw)
  have two : PSs X [.Assign [.Attribute (.Name "self" p6) fld p7] (.Name prm p8) p9] (tOst X.K fld (tVar 0) (tVar 1)) := pss_one (ps_ost (pe_var (by rw [hN]; rfl) hsx) (pe_var (by rw [hN]; rfl) hpx hd1 hd2) hsw2)
  exact wpAt_of_wpAny (two.run [] s' _ H D J ⟨v, rfl, .ref a, rfl, a, C, rfl, ox, hno, .inl ⟨e, hq⟩⟩)
/-- __init__ keeps its promise -/
theorem ini_fn {ar : Arg} {p0 p1 p2 p3 p4 p5 p6 p7 p8 p9 : Pos} {txt : Str} {kk : Nat} (F : IniF P K C f fld ["self", prm, "__class__"] ["self", prm] fd st)
    (hbody : defBody st = [.Expr (.Call (.Attribute (.Call (.Name "super" p0) [] [] p1) "__init__" p2) [.Constant (.str txt) kk p3] [] p4) p5, .Assign [.Attribute (.Name "self" p6) fld p7] (.Name prm p8) p9]) (har : ((defArgs st).posonlyargs ++ (defArgs st).args).head? = some ar) (hself : ar.arg = "self")
    (he : ∀ env : Env, ∃ pl : Sem Bool, eval (.Call (.Attribute (.Call (.Name "super" p0) [] [] p1) "__init__" p2) [.Constant (.str txt) kk p3] [] p4) env = (do
      let ov ← attributeBase (.Call (.Name "super" p0) [] [] p1) "__init__" env (eval (.Call (.Name "super" p0) [] [] p1) env)
      standAt p2.atName
      let (g, first) ← holding [ov] (getMethod ov "__init__" pl)
      callWith p4 g first (backTo p4 (starEach [.Constant (.str txt) kk p3] env)) []))
    (hi : ∀ env : Env, env.scope = defScope st → interactive env = false) (hsw : ∀ env : Env, env.scope = defScope st → swapsWith (.Call (.Attribute (.Call (.Name "super" p0) [] [] p1) "__init__" p2) [.Constant (.str txt) kk p3] [] p4) none p5.line env = pure false)
    (hsw2 : ∀ env : Env, env.scope = defScope st → swapsWith (.Name prm p8) (some (.Attribute (.Name "self" p6) fld p7)) p9.line env = pure false)
    (hks : (defScope st).names.lookup ("super" : Str) = some .globalImplicit) (htxt : txt.length ≤ 1000) (hd1 : (prm == ("__debug__" : Str)) = false) (hd2 : (prm == ("__classdict__" : Str)) = false) : FnOk P w K mg base CX (k + 1) f fd ["self", prm] (iniSp C fld) := by
  have S := F.sc
  refine ⟨fun vs H Q E h => by obtain ⟨a, v, rfl, _⟩ := h; rfl, fun A outer s H args us vs Q E hr e0 hb r hsp => ?_⟩
  obtain ⟨a, v, rfl, ea, hq⟩ := hsp
  obtain ⟨name, qual, dV, kV, doc, pm, ct, oc, an, od, osl, cda, cc, hfd, lk, hcd, ⟨cl, cld, csl, lcc⟩, ccl, cdd, vs2, ccs, file, tf, lcd, hv2, hfile⟩ := F.at_
  have hin : K.In s.heap := e0.mod.kin.keeps fun b o e => (e0.bs b o e).1
  have hno : s.heap.NoLimit := e0.mod.nolimit.keeps fun b o e => (e0.bs b o e).1
  subst hfd
  refine ks_codeAny_call_defAt (body := defBody st) (binds := (["self", prm] : List Str).zip us) hr.depth (hin _ _ lk) rfl hno (PySem.W.codeRec_of hin hcd) rfl hb S.nocell (fun y hy => S.par y.1 (List.of_mem_zip (show (y.1, y.2) ∈ _ from hy)).1) (fun h1 hns kp => ?_) S.co S.gen S.kind
  let NFx : NdefX.NF := ⟨name, qual, defArgs st, defBody st, defScope st, [("__class__", cc)], cda⟩
  have cells : NdefX.CellsAt [("__class__", cc)] ["__class__"] [none] s.heap H := by
    have hcell : s.heap.IsCell cc (some (.ref C)) := ⟨_, hin _ _ lcc, rfl⟩
    refine ⟨rfl, fun y c z => ?_, fun x y c z1 z2 => ?_, fun i y z => ?_⟩
    · have : c = cc := by
        simp only [List.lookup] at z
        split at z
        · cases z; rfl
        · cases z
      subst this
      exact ⟨(e0.bs _ _ (e0.mod.kin _ _ lcc)).2, _, hcell⟩
    · have key : ∀ {x : Str}, List.lookup x ([("__class__", cc)] : List (Str × Addr)) = some c → x = "__class__" := fun {x} z => by
        simp only [List.lookup] at z
        split at z
        · rename_i h; exact eq_of_beq h
        · cases z
      rw [key z1, key z2]
    · cases i with
      | zero => cases z; exact ⟨cc, by simp, fun v z => by cases z⟩
      | succ i => cases i <;> cases z
  have I := NdefX.inv_startN (CX := CX) (E := E) (F := NFx) (f := f) (h₁ := h1) (tk := s.toks + ((["self", prm] : List Str).zip us).length) S hr.hd e0 rfl r cells hns kp
  have hmg : mg "super" = none := PySem.W.mg_none_of e0.mod.kin e0.mod.glob F.nosup
  show PySem.wpAt (model P w) (NdefX.ncx CX P w K mg base ["self", prm, "__class__"] NFx f A outer s H E).A (.func (defBody st) (NdefX.ncx CX P w K mg base ["self", prm, "__class__"] NFx f A outer s H E).env) (execs (defBody st) (NdefX.ncx CX P w K mg base ["self", prm, "__class__"] NFx f A outer s H E).env) _ _ _
  refine ks_wpAt_mono (Q := SP (NdefX.ncx CX P w K mg base ["self", prm, "__class__"] NFx f A outer s H E) [] { nx := fun _ H' => Q .non H', rt := Q }) (E := (NdefX.ncx CX P w K mg base ["self", prm, "__class__"] NFx f A outer s H E).xe) ?_ (fun fl s' hs => ?_) (fun e s' h => h)
  · obtain ⟨pl, he⟩ := he (NdefX.envF NFx f s.heap.objs.size)
    rw [hbody]
    have vs' : ∀ {x : Str}, x ∈ (["self", prm] : List Str) → Vis (defScope st) x := fun {x} hx => .inl (S.par x hx)
    refine ini_body (X := NdefX.ncx CX P w K mg base ["self", prm, "__class__"] NFx f A outer s H E) ⟨_, _, _, F⟩ F.no I rfl (vs' (by simp)) (vs' (by simp)) rfl rfl S.kind hks (S.frk _ (by simp)) hmg (by first | rfl | simp [NdefX.ncx]) ?_ har (fun {E Q} q => ?_) ⟨_, _, _, kp _ _ (hin _ _ lk)⟩ ⟨_, _, _, _, _, _, kp _ _ (hin _ _ lcd), hv2, hfile⟩ ea he htxt (hi _ rfl) (hsw _ rfl) (hsw2 _ rfl) hd1 hd2 hq
    · exact ⟨_, kp _ _ (hin _ _ lcc), rfl⟩
    · rw [hself]
      obtain ⟨u1, u2, rfl, r1, r2⟩ : ∃ u1 u2, us = [u1, u2] ∧ RelV (.ref a) u1 ∧ RelV v u2 := by
        cases r with | cons r1 r => cases r with | cons r2 r => cases r; exact ⟨_, _, rfl, r1, r2⟩
      obtain rfl : u1 = Value.ref a := r1
      have ne : (("self" : Str) == prm) = false := by
        have := S.nd
        rw [beq_eq_false_iff_ne]
        intro z
        rw [← z] at this
        simp at this
      refine wpAny_loadName_local S.kind (S.par _ (by simp)) hns ?_ q
      show List.lookup ("self" : Str) [(prm, u2), (("self" : Str), Value.ref a)] = _
      rw [List.lookup, ne]
      rfl
  · have fin : ∀ {σ' : L2.St} {H' : Hp} {v : V} {u : Value}, Inv (NdefX.ncx CX P w K mg base ["self", prm, "__class__"] NFx f A outer s H E) [] σ' H' s' → RelV v u → Q v H' → CE outer P w H s Q u s' := fun {σ' H' v u} J rv q => ⟨v, H', J.os, J.bare, J.base, J.hok, rv, q⟩
    match fl, hs with
    | .ret u, ⟨v, σ', H', J, rv, q⟩ => exact fin J rv q
    | .next, ⟨σ', H', J, q⟩ => exact fin (v := .non) (u := .none) J rfl q
    | .brk, ⟨_, _, _, q⟩ => exact q.elim
    | .cont, ⟨_, _, _, q⟩ => exact q.elim
end
end RT
end
section
set_option maxRecDepth 100000
set_option maxHeartbeats 0
/-! RTHd1: what the top leaves: facts, a Hook, the run. Printed by gen_hd.py. -/
namespace RT
open PySem PySem.Spec PyProof.Rows L2
abbrev s_NoBuild_init : Stmt := inClass (top 6) 0
abbrev s_NoNumber_init : Stmt := inClass (top 8) 0
def fa : List He.Fa := [.free "all",
  .free "any",
  .free "bool",
  .free "dict",
  .free "enumerate",
  .free "int",
  .free "isinstance",
  .free "len",
  .free "list",
  .free "max",
  .free "min",
  .free "range",
  .free "repr",
  .free "sorted",
  .free "str",
  .free "sum",
  .free "tuple",
  .free "zip",
  .int "MOST_LETTERS" 8,
  .int "MOST_SKILLS" 12,
  .int "MOST_TIERS" 4,
  .int "MOST_POINTS" 12,
  .int "MOST_WANTS" 12,
  .int "MOST_BARS" 6,
  .int "MOST_GIVEN" 3,
  .int "MOST_PRICE" 99,
  .str "LETTERS" "abcdefghijklmnopqrstuvwxyz",
  .glo "_law_names",
  .glo "_law_odd_builds",
  .glo "_law_subsets",
  .glo "_law_is_row_met",
  .glo "_law_tier",
  .glo "_law_below",
  .glo "_law_need",
  .glo "_law_is_met",
  .glo "_law_size_let",
  .glo "_law_holds",
  .glo "_law_bad_builds",
  .glo "mask_of",
  .glo "size_of",
  .glo "is_let",
  .glo "points_let",
  .glo "does_hold",
  .glo "steps_at",
  .glo "step_price",
  .glo "gives_from",
  .glo "are_unlike",
  .glo "is_row",
  .glo "is_word",
  .glo "are_skills_of",
  .glo "in_order",
  .glo "is_build",
  .glo "look_at_good",
  .glo "look_at_both",
  .glo "fewest_gives",
  .glo "is_whole",
  .glo "look_at_many",
  .glo "is_open",
  .glo "_law_fell",
  .glo "_law_take",
  .glo "_law_one",
  .glo "_law_turned",
  .glo "looks_down",
  .glo "is_plain",
  .glo "price_by",
  .glo "loose_in",
  .glo "spare_skill",
  .glo "look_at_plain",
  .glo "look_at_question",
  .glo "plain_price",
  .glo "_law_least",
  .glo "_law_gives",
  .glo "is_number",
  .glo "are_tuples",
  .glo "are_numbered",
  .glo "are_bars",
  .glo "is_want",
  .glo "are_needs",
  .glo "are_skills",
  .glo "look_at_parts",
  .glo "_law_made",
  .glo "_law_all",
  .glo "_law_order",
  .glo "_law_behind",
  .glo "_law_steps",
  .glo "_law_price",
  .glo "_law_cost",
  .glo "_law_edges",
  .glo "_law_rows",
  .glo "_law_tree",
  .glo "_law_book",
  .glo "_law_small",
  .glo "_law_any_sort",
  .glo "_law_pool",
  .glo "law",
  .glo "Book",
  .glo "Cheapest",
  .glo "NoBuild",
  .glo "NoNumber",
  .cls "Book",
  .cls "Cheapest",
  .noat "Book" "record",
  .noat "Book" "own_points",
  .noat "Book" "own_reset",
  .noat "Book" "own_names",
  .noat "Book" "own_tiers",
  .noat "Book" "tier_by",
  .noat "Book" "spots",
  .noat "Book" "bits",
  .noat "Book" "own_needs",
  .noat "Book" "own_prices",
  .noat "Book" "own_given",
  .noat "Book" "barred",
  .noat "Book" "asked",
  .noat "Cheapest" "book",
  .noat "Cheapest" "is_by_gives",
  .noat "Cheapest" "costs",
  .noat "Cheapest" "came",
  .noat "Cheapest" "settled",
  .mkr "Book",
  .mkr "Cheapest",
  .meth "Book" "asked_by",
  .meth "Cheapest" "step_cost",
  .meth "Cheapest" "links",
  .exm "NoBuild" "NoBuild" true,
  .exm "NoNumber" "NoBuild" false,
  .exm "NoNumber" "NoNumber" true]
def fn : List He.DefD := [⟨("_law_names", none), "_law_names", "_law_names", defArgs s__law_names, defBody s__law_names, defScope s__law_names, [], []⟩,
  ⟨("_law_odd_builds", none), "_law_odd_builds", "_law_odd_builds", defArgs s__law_odd_builds, defBody s__law_odd_builds, defScope s__law_odd_builds, [], []⟩,
  ⟨("_law_subsets", none), "_law_subsets", "_law_subsets", defArgs s__law_subsets, defBody s__law_subsets, defScope s__law_subsets, [], []⟩,
  ⟨("_law_is_row_met", none), "_law_is_row_met", "_law_is_row_met", defArgs s__law_is_row_met, defBody s__law_is_row_met, defScope s__law_is_row_met, [], []⟩,
  ⟨("_law_tier", none), "_law_tier", "_law_tier", defArgs s__law_tier, defBody s__law_tier, defScope s__law_tier, [], []⟩,
  ⟨("_law_below", none), "_law_below", "_law_below", defArgs s__law_below, defBody s__law_below, defScope s__law_below, [], []⟩,
  ⟨("_law_need", none), "_law_need", "_law_need", defArgs s__law_need, defBody s__law_need, defScope s__law_need, [], []⟩,
  ⟨("_law_is_met", none), "_law_is_met", "_law_is_met", defArgs s__law_is_met, defBody s__law_is_met, defScope s__law_is_met, [], []⟩,
  ⟨("_law_size_let", none), "_law_size_let", "_law_size_let", defArgs s__law_size_let, defBody s__law_size_let, defScope s__law_size_let, [], []⟩,
  ⟨("_law_holds", none), "_law_holds", "_law_holds", defArgs s__law_holds, defBody s__law_holds, defScope s__law_holds, [], []⟩,
  ⟨("_law_bad_builds", none), "_law_bad_builds", "_law_bad_builds", defArgs s__law_bad_builds, defBody s__law_bad_builds, defScope s__law_bad_builds, [], []⟩,
  ⟨("mask_of", none), "mask_of", "mask_of", defArgs s_mask_of, defBody s_mask_of, defScope s_mask_of, [], []⟩,
  ⟨("size_of", none), "size_of", "size_of", defArgs s_size_of, defBody s_size_of, defScope s_size_of, [], []⟩,
  ⟨("is_let", none), "is_let", "is_let", defArgs s_is_let, defBody s_is_let, defScope s_is_let, [], []⟩,
  ⟨("points_let", none), "points_let", "points_let", defArgs s_points_let, defBody s_points_let, defScope s_points_let, [], []⟩,
  ⟨("does_hold", none), "does_hold", "does_hold", defArgs s_does_hold, defBody s_does_hold, defScope s_does_hold, [], []⟩,
  ⟨("steps_at", none), "steps_at", "steps_at", defArgs s_steps_at, defBody s_steps_at, defScope s_steps_at, [], []⟩,
  ⟨("step_price", none), "step_price", "step_price", defArgs s_step_price, defBody s_step_price, defScope s_step_price, [], []⟩,
  ⟨("gives_from", none), "gives_from", "gives_from", defArgs s_gives_from, defBody s_gives_from, defScope s_gives_from, [], []⟩,
  ⟨("are_unlike", none), "are_unlike", "are_unlike", defArgs s_are_unlike, defBody s_are_unlike, defScope s_are_unlike, [], []⟩,
  ⟨("is_row", none), "is_row", "is_row", defArgs s_is_row, defBody s_is_row, defScope s_is_row, [], []⟩,
  ⟨("is_word", none), "is_word", "is_word", defArgs s_is_word, defBody s_is_word, defScope s_is_word, [], []⟩,
  ⟨("are_skills_of", none), "are_skills_of", "are_skills_of", defArgs s_are_skills_of, defBody s_are_skills_of, defScope s_are_skills_of, [], []⟩,
  ⟨("in_order", none), "in_order", "in_order", defArgs s_in_order, defBody s_in_order, defScope s_in_order, [], []⟩,
  ⟨("is_build", none), "is_build", "is_build", defArgs s_is_build, defBody s_is_build, defScope s_is_build, [], []⟩,
  ⟨("look_at_good", none), "look_at_good", "look_at_good", defArgs s_look_at_good, defBody s_look_at_good, defScope s_look_at_good, [], []⟩,
  ⟨("look_at_both", none), "look_at_both", "look_at_both", defArgs s_look_at_both, defBody s_look_at_both, defScope s_look_at_both, [], []⟩,
  ⟨("fewest_gives", none), "fewest_gives", "fewest_gives", defArgs s_fewest_gives, defBody s_fewest_gives, defScope s_fewest_gives, [], []⟩,
  ⟨("is_whole", none), "is_whole", "is_whole", defArgs s_is_whole, defBody s_is_whole, defScope s_is_whole, [], []⟩,
  ⟨("look_at_many", none), "look_at_many", "look_at_many", defArgs s_look_at_many, defBody s_look_at_many, defScope s_look_at_many, [], []⟩,
  ⟨("is_open", none), "is_open", "is_open", defArgs s_is_open, defBody s_is_open, defScope s_is_open, [], []⟩,
  ⟨("_law_fell", none), "_law_fell", "_law_fell", defArgs s__law_fell, defBody s__law_fell, defScope s__law_fell, [], []⟩,
  ⟨("_law_take", none), "_law_take", "_law_take", defArgs s__law_take, defBody s__law_take, defScope s__law_take, [], []⟩,
  ⟨("_law_one", none), "_law_one", "_law_one", defArgs s__law_one, defBody s__law_one, defScope s__law_one, [], []⟩,
  ⟨("_law_turned", none), "_law_turned", "_law_turned", defArgs s__law_turned, defBody s__law_turned, defScope s__law_turned, [], []⟩,
  ⟨("looks_down", none), "looks_down", "looks_down", defArgs s_looks_down, defBody s_looks_down, defScope s_looks_down, [], []⟩,
  ⟨("is_plain", none), "is_plain", "is_plain", defArgs s_is_plain, defBody s_is_plain, defScope s_is_plain, [], []⟩,
  ⟨("price_by", none), "price_by", "price_by", defArgs s_price_by, defBody s_price_by, defScope s_price_by, [], []⟩,
  ⟨("loose_in", none), "loose_in", "loose_in", defArgs s_loose_in, defBody s_loose_in, defScope s_loose_in, [], []⟩,
  ⟨("spare_skill", none), "spare_skill", "spare_skill", defArgs s_spare_skill, defBody s_spare_skill, defScope s_spare_skill, [], []⟩,
  ⟨("look_at_plain", none), "look_at_plain", "look_at_plain", defArgs s_look_at_plain, defBody s_look_at_plain, defScope s_look_at_plain, [], []⟩,
  ⟨("look_at_question", none), "look_at_question", "look_at_question", defArgs s_look_at_question, defBody s_look_at_question, defScope s_look_at_question, [], []⟩,
  ⟨("plain_price", none), "plain_price", "plain_price", defArgs s_plain_price, defBody s_plain_price, defScope s_plain_price, [], []⟩,
  ⟨("_law_least", none), "_law_least", "_law_least", defArgs s__law_least, defBody s__law_least, defScope s__law_least, [], []⟩,
  ⟨("_law_gives", none), "_law_gives", "_law_gives", defArgs s__law_gives, defBody s__law_gives, defScope s__law_gives, [], []⟩,
  ⟨("is_number", none), "is_number", "is_number", defArgs s_is_number, defBody s_is_number, defScope s_is_number, [], []⟩,
  ⟨("are_tuples", none), "are_tuples", "are_tuples", defArgs s_are_tuples, defBody s_are_tuples, defScope s_are_tuples, [], []⟩,
  ⟨("are_numbered", none), "are_numbered", "are_numbered", defArgs s_are_numbered, defBody s_are_numbered, defScope s_are_numbered, [], []⟩,
  ⟨("are_bars", none), "are_bars", "are_bars", defArgs s_are_bars, defBody s_are_bars, defScope s_are_bars, [], []⟩,
  ⟨("is_want", none), "is_want", "is_want", defArgs s_is_want, defBody s_is_want, defScope s_is_want, [], []⟩,
  ⟨("are_needs", none), "are_needs", "are_needs", defArgs s_are_needs, defBody s_are_needs, defScope s_are_needs, [], []⟩,
  ⟨("are_skills", none), "are_skills", "are_skills", defArgs s_are_skills, defBody s_are_skills, defScope s_are_skills, [], []⟩,
  ⟨("look_at_parts", none), "look_at_parts", "look_at_parts", defArgs s_look_at_parts, defBody s_look_at_parts, defScope s_look_at_parts, [], []⟩,
  ⟨("_law_made", none), "_law_made", "_law_made", defArgs s__law_made, defBody s__law_made, defScope s__law_made, [], []⟩,
  ⟨("_law_all", none), "_law_all", "_law_all", defArgs s__law_all, defBody s__law_all, defScope s__law_all, [], []⟩,
  ⟨("_law_order", none), "_law_order", "_law_order", defArgs s__law_order, defBody s__law_order, defScope s__law_order, [], []⟩,
  ⟨("_law_behind", none), "_law_behind", "_law_behind", defArgs s__law_behind, defBody s__law_behind, defScope s__law_behind, [], []⟩,
  ⟨("_law_steps", none), "_law_steps", "_law_steps", defArgs s__law_steps, defBody s__law_steps, defScope s__law_steps, [], []⟩,
  ⟨("_law_price", none), "_law_price", "_law_price", defArgs s__law_price, defBody s__law_price, defScope s__law_price, [], []⟩,
  ⟨("_law_cost", none), "_law_cost", "_law_cost", defArgs s__law_cost, defBody s__law_cost, defScope s__law_cost, [], []⟩,
  ⟨("_law_edges", none), "_law_edges", "_law_edges", defArgs s__law_edges, defBody s__law_edges, defScope s__law_edges, [], []⟩,
  ⟨("_law_rows", none), "_law_rows", "_law_rows", defArgs s__law_rows, defBody s__law_rows, defScope s__law_rows, [], []⟩,
  ⟨("_law_tree", none), "_law_tree", "_law_tree", defArgs s__law_tree, defBody s__law_tree, defScope s__law_tree, [], []⟩,
  ⟨("_law_book", none), "_law_book", "_law_book", defArgs s__law_book, defBody s__law_book, defScope s__law_book, [], []⟩,
  ⟨("_law_small", none), "_law_small", "_law_small", defArgs s__law_small, defBody s__law_small, defScope s__law_small, [], []⟩,
  ⟨("_law_any_sort", none), "_law_any_sort", "_law_any_sort", defArgs s__law_any_sort, defBody s__law_any_sort, defScope s__law_any_sort, [], []⟩,
  ⟨("_law_pool", none), "_law_pool", "_law_pool", defArgs s__law_pool, defBody s__law_pool, defScope s__law_pool, [], []⟩,
  ⟨("law", none), "law", "law", defArgs s_law, defBody s_law, defScope s_law, [], []⟩,
  ⟨("Book", some "__init__"), "__init__", "Book.__init__", defArgs s_Book_init, defBody s_Book_init, defScope s_Book_init, [], [("reset", .non)]⟩,
  ⟨("Book", some "asked_by"), "asked_by", "Book.asked_by", defArgs s_Book_asked_by, defBody s_Book_asked_by, defScope s_Book_asked_by, [], []⟩,
  ⟨("Cheapest", some "__init__"), "__init__", "Cheapest.__init__", defArgs s_Cheapest_init, defBody s_Cheapest_init, defScope s_Cheapest_init, [.bl false], []⟩,
  ⟨("Cheapest", some "step_cost"), "step_cost", "Cheapest.step_cost", defArgs s_Cheapest_step_cost, defBody s_Cheapest_step_cost, defScope s_Cheapest_step_cost, [], []⟩,
  ⟨("Cheapest", some "links"), "links", "Cheapest.links", defArgs s_Cheapest_links, defBody s_Cheapest_links, defScope s_Cheapest_links, [], []⟩]
/-! ### a function by its address -/
def fnA (K : Fg) (a : Addr) : He.FnW := match K.lookup a with
  | some ⟨_, _, .func fd, _⟩ => some (fd.name, fd.qualname, fd.params, fd.body, fd.scope, fd.globals, fd.closure, fd.builtins)
  | _ => none
def okA (K : Fg) (a : Addr) (q : Str) : Bool := PySem.W.keepIn K (.ref a) && (match K.lookup a with
  | some ⟨_, _, .func fd, _⟩ => PySem.W.codeIn K fd.code q && (He.dflB K fd.defaults [] && He.kwdB K fd.kwdefaults [])
  | _ => false)
def prA (K : Fg) : Addr := match PySem.W.findIn K (.ref (He.ga K "Book")) "points" with
  | some (some (.ref p)) => p
  | _ => 0
def prG (K : Fg) : Addr := match PySem.W.recIn K (prA K) "property" with
  | some (.ref g :: _) => g
  | _ => 0
/-! ### an exception's __init__ -/
abbrev FnI : Type := Option (Str × Str × Arguments × FuncBody × Scope × Addr × List Str × Addr)
def fnI (K : Fg) (a : Addr) : FnI := match K.lookup a with
  | some ⟨_, _, .func fd, _⟩ => some (fd.name, fd.qualname, fd.params, fd.body, fd.scope, fd.globals, fd.closure.map (·.1), fd.builtins)
  | _ => none
def iniB (K : Fg) (C f : Addr) (q file : Str) : Bool := match K.lookup f with
  | some ⟨_, _, .func fd, _⟩ => (match fd.closure, fd.code, fd.defaults with
    | [(_, cc)], .ref cda, .none => PySem.W.codeIn K (.ref cda) q && ((match K.lookup cc with
        | some ⟨_, _, .cell (some (.ref C')), _⟩ => decide (C' = C)
        | _ => false) && (match K.lookup cda with
        | some ⟨_, _, .fields vs, _⟩ => (match (vs[2]? : Option Value) with
          | some (.str fl _) => decide (fl = file)
          | _ => false)
        | _ => false))
    | _, _, _ => false)
  | _ => false
def oexB (K : Fg) (C : Addr) : Bool := match K.lookup C with
  | some ⟨.type "type", _, .cls cd, sl⟩ => (match cd.mro, sl.toList with
    | .ref C' :: bm, [_, _, _, _, some (.builtin n), _] => decide (C' = C) && (decide (n = "ValueError.__new__") && (!cd.hasDel && (cd.hasDict && PySem.HandSPX.refsVE bm)))
    | _, _ => false)
  | _ => false
def eC (K : Fg) (x : Str) : Addr := He.ga K x
def eF (K : Fg) (x : Str) : Addr := He.ma K (He.ga K x) "__init__"
abbrev theFile : Str := "/claim/cut.py"
/-- all that is asked of such a class -/
def excL (K : Fg) (x fld q : Str) : List Bool := [
  oexB K (eC K x),
  He.eqO (PySem.W.findIn K (.ref (eC K x)) "__setattr__") (some (some (.builtin "object.__setattr__"))),
  decide (PySem.W.subIn K (.ref (eC K x)) (.type "BaseException") = some true),
  decide (PySem.W.typeIn K (.ref (eC K x)) = some (.type "type")),
  PySem.W.keepIn K (.ref (eC K x)),
  iniB K (eC K x) (eF K x) q theFile,
  decide (PySem.W.mroIn K (eC K x) (.ref (eC K x)) = some true),
  decide (PySem.W.subIn K (.ref (eC K x)) (.type "ValueError") = some true),
  He.eqO (PySem.W.ks_superIn K (eC K x) (eC K x) "__init__") (some (some (.builtin "ValueError.__init__"))),
  He.eqO (PySem.W.nsIn K mainGlobals "super") (some none),
  He.eqO (PySem.W.nsIn K cStatics "thirdparty.any") (some none),
  He.eqO (PySem.W.findIn K (.ref (eC K x)) fld) (some none),
  He.eqO (PySem.W.findIn K (.ref (eC K x)) "__init__") (some (some (.ref (eF K x)))),
  decide (PySem.W.typeIn K (.ref (eF K x)) = some (.type "function")),
  xfB K (eC K x)]
def othL (K : Fg) : List Bool := [
  He.eqO (PySem.W.nsIn K mainGlobals "heappop") (some (some (.builtin "_heapq.heappop"))),
  He.eqO (PySem.W.nsIn K mainGlobals "heappush") (some (some (.builtin "_heapq.heappush"))),
  He.tupB K "PARTS" [.str "skills", .str "points", .str "needs", .str "wants", .str "bars", .str "gives", .str "prices", .str "reset"],
  He.eqO (PySem.W.findIn K (.ref (He.ga K "Book")) "points") (some (some (.ref (prA K)))),
  He.eqO (PySem.W.specialIn K (.ref (prA K)) "__get__") (some (some (.builtin "property.__get__"))),
  decide (PySem.W.takesIn K (.ref (prA K)) = some true),
  (match PySem.W.recIn K (prA K) "property" with
    | some (.ref _ :: _) => true
    | _ => false),
  okA K (prG K) "Book.points",
  (He.Fa.glo "PARTS").ok K]
abbrev AlR : Type := Bool × List He.FnW × He.FnW × List FnI
def obR (K : Fg) : AlR := ((fa.all fun f => f.ok K) && ((fn.all fun d => d.ok K) && ((excL K "NoBuild" "build" "NoBuild.__init__").all id && ((excL K "NoNumber" "value" "NoNumber.__init__").all id && (othL K).all id))), fn.map fun d => He.fnW K d.at_, fnA K (prG K), [fnI K (eF K "NoBuild"), fnI K (eF K "NoNumber")])
def valR : AlR := (true, fn.map He.DefD.val, some ("points", "Book.points", defArgs s_Book_points, .stmts (defBody s_Book_points), defScope s_Book_points, mainGlobals, [], builtinsNs),
  [some ("__init__", "NoBuild.__init__", defArgs s_NoBuild_init, .stmts (defBody s_NoBuild_init), defScope s_NoBuild_init, mainGlobals, ["__class__"], builtinsNs), some ("__init__", "NoNumber.__init__", defArgs s_NoNumber_init, .stmts (defBody s_NoNumber_init), defScope s_NoNumber_init, mainGlobals, ["__class__"], builtinsNs)])
def SaysR (K : Fg) : Prop := obR K = valR
/-! ### the objects that are looked at -/
def rfV : Value → List Addr → List Addr
  | .ref a, r => a :: r
  | _, r => r
/-- a def: its code, defaults, cells; a class: its names; a property: what it calls -/
def rfO (o : Option Obj) (r : List Addr) : List Addr := match o with
  | some ⟨c, _, d, _⟩ => (match d with
    | .func fd => rfV fd.code (rfV fd.defaults (rfV fd.kwdefaults (fd.closure.foldr (fun p r => p.2 :: r) r)))
    | .cls cd => cd.ns :: r
    | .fields vs => (match c with
      | .type "property" => vs.toList.foldr rfV r
      | _ => r)
    | _ => r)
  | none => r
def rfD (o : Option Obj) (r : List Addr) : List Addr := match o with
  | some ⟨_, _, .dict es _, _⟩ => es.toList.foldr (fun e r => rfV e.val r) r
  | _ => r
def asR (g : Addr → Option Obj) : List Addr :=
  let l1 := rfD (g mainGlobals) []
  let l2 := l1.foldr (fun a r => rfO (g a) r) []
  let l3 := l2.foldr (fun a r => rfD (g a) r) []
  let l4 := l3.foldr (fun a r => rfO (g a) r) []
  let l5 := l4.foldr (fun a r => rfO (g a) r) []
  mainGlobals :: cStatics :: (l1 ++ (l2 ++ (l3 ++ (l4 ++ l5))))
def obRG (g : Addr → Option Obj) : AlR := obR (He.frG g (asR g))
def hookR : PySem.W.Hook where
  α := AlR
  obs := fun s => obRG s.heap.get?
  val := fun _ => valR
  says := fun _ h => ∃ K : PySem.W.Frag, K.In h ∧ SaysR K
  of := fun _ _ e => ⟨_, He.frG_in, e⟩
  keeps := fun _ _ _ ⟨K, hK, c⟩ k => ⟨K, PySem.W.Frag.In.keeps hK k, c⟩
def obS (s : PySem.W.SharedT) : AlR := obRG (HandSHeadRun.getT s)
theorem obS_eq (s : PySem.W.SharedT) : obS s = hookR.obs s.abs := by
  have e : HandSHeadRun.getT s = s.abs.heap.get? := funext fun a => HandSHeadRun.getT_eq s a
  show obRG _ = obRG _
  rw [e]
abbrev Rw : PySem.W.OpenRow := PySem.W.OpenLaw.row PySem.Challenge.rw_refundtrees_k42_whole_few_give_backs
abbrev qv : Program := PySem.W.view Rw.prog [0, 97]
def names0 : List PySem.Str := ["_wall", "TreeError", "NoBook", "NoSkill", "NoBuild", "NoPlain", "NoNumber", "LETTERS", "MOST_LETTERS", "is_whole", "is_number", "is_word", "is_row"]
def names1 : List PySem.Str := ["are_unlike", "are_tuples", "are_skills_of", "in_order", "is_build", "mask_of", "size_of", "is_let", "points_let", "does_hold", "look_at_good", "steps_at", "step_price", "PARTS", "MOST_SKILLS"]
def names2 : List PySem.Str := ["MOST_TIERS", "MOST_POINTS", "MOST_WANTS", "MOST_BARS", "MOST_GIVEN", "MOST_PRICE", "are_skills", "are_needs", "is_want", "are_bars", "are_numbered", "look_at_parts", "Book", "looks_down", "is_plain"]
def names3 : List PySem.Str := ["look_at_plain", "look_at_both", "price_by", "loose_in", "spare_skill", "look_at_question", "plain_price", "Cheapest", "look_at_many", "gives_from", "fewest_gives", "is_open", "_law_pool", "_law_take", "_law_one"]
def names4 : List PySem.Str := ["_law_turned", "_law_tree", "_law_rows", "_law_book", "_law_made", "_law_names", "_law_tier", "_law_need", "_law_price", "_law_order", "_law_is_row_met", "_law_below", "_law_is_met", "_law_size_let", "_law_holds"]
def names5 : List PySem.Str := ["_law_subsets", "_law_all", "_law_behind", "_law_steps", "_law_cost", "_law_edges", "_law_least", "_law_odd_builds", "_law_bad_builds", "_law_small", "_law_any_sort", "_law_gives", "_law_fell"]
def names : List PySem.Str := names0 ++ names1 ++ names2 ++ names3 ++ names4 ++ names5
theorem the_run (w : World) : HandSHeadRun.RunEqI Rw qv hookR obS 30000 names w := by
  unfold HandSHeadRun.RunEqI
  kernel_rfl
end RT
end
section
set_option maxRecDepth 100000
set_option maxHeartbeats 2000000
/-! RTL5: two clauses 'except C as n'. -/
namespace RT
open PySem PySem.Spec PyProof.Rows L2
open Evl (Ex Ex.refl Ex.trans Ex.new Ex.mut)
/-- what such a clause wishes of an exception -/
abbrev Cls2 := Value × (Addr → Value → Option Addr → TS)
def endAs (i : Nat) (D : Ends) : Ends := { nx := fun σ' H' => D.nx (σ'.set i none) H', rt := D.rt, bk := fun σ' H' => D.bk (σ'.set i none) H', ct := fun σ' H' => D.ct (σ'.set i none) H' }
def wAsL (K : Fg) (i : Nat) (Wout : WX) (D : Ends) : List Cls2 → WX
  | [] => Wout
  | q :: r => fun cls d σ H => ∃ b, PySem.W.exmOne K cls q.1 = some b ∧ (b = true → ∀ a, H a = none → q.2 a cls d (endAs i D) (σ.set i (some (.ref a))) H) ∧ (b = false → wAsL K i Wout D r cls d σ H)
inductive AsOk (X : Cx) (n : Str) : List ExceptHandler → List Cls2 → Prop
  | nil : AsOk X n [] []
  | cons {x : Str} {c : Value} {ts : Addr → Value → Option Addr → TS} {st : Stmt} {more : List Stmt} {p q : Pos} {hs : List ExceptHandler} {l : List Cls2} (nm : Names X x c)
      (suite : ∀ (a : Addr) (o : Obj) (cls : Value) (d : Option Addr) (pn : List (Addr × Obj)), Zc cls d o → (∃ vs, o.data = .fields vs) → PSs (X.suite a ((a, o) :: pn)) (st :: more) (ts a cls d)) (rest : AsOk X n hs l) :
      AsOk X n (.ExceptHandler (some (.Name x p)) (some n) (st :: more) q :: hs) ((c, ts) :: l)
section
variable {X : Cx} {n : Str} {i : Nat} {body : List Stmt} {h1 : ExceptHandler} {hs : List ExceptHandler} {l : List Cls2} {pos : Pos} {tb : WX → TS} {Wout : WX}
theorem ps_try_asL (hst : X.stack = X.env :: X.outer) (hfr : X.env.frame = some X.env.locals) (hN : X.N.Nodup) (hi : X.N[i]? = some n) (hln : X.env.kindOf n = some .local) (tk : Takes X Wout)
    (hb : ∀ (W : WX) (pn : List (Addr × Obj)) (xe : Value → Shared → Prop), Takes (X.tr pn xe) W → PassesOwn (model X.prog X.w) X.A X.env xe → PSs (X.tr pn xe) body (tb W)) (ok : AsOk X n (h1 :: hs) l) :
    PS X (.Try body (h1 :: hs) [] [] pos) (fun D σ H => tb (wAsL X.K i Wout D l) D σ H) := by
  refine ⟨fun pins s σ H D I h => wpAny_Try_except ?_⟩
  have xok := I.ok
  have frames : X.A.frames = some (X.env :: X.outer) := by rw [xok.frames, hst]
  refine wpAny_mono ((hb (wAsL X.K i Wout D l) (X.pn ++ pins) _ (fun u s' caught => ?_) PassesOwn.looking).run [] s σ H D (I.toTry _) h) (fun fl s1 hsp => ?_) (fun _ _ he => he)
  · obtain ⟨a, B, sI, pins', σ', H', cls, d, rfl, J0, nb, up, sky, na, os, ag, wish⟩ := caught
    have J : Inv X pins σ' H' sI := J0.ofTry xok
    rw [show X.stack = X.env :: X.outer from hst] at sky
    refine Sky.land Zc.steady frames hfr sky fun g3 held up3 => ?_
    have J3 : Inv X pins σ' H' { s' with heap := g3 } := J.landed nb held.1 (up.trans up3) os ag
    obtain ⟨o3, v3, get3, z3, d3⟩ := held.there
    have inF : a ∉ frs (X.env :: X.outer) := fun hm => by
      obtain ⟨_, o', e', hnf⟩ := held.2.2.1.mem hm
      rw [get3] at e'
      cases e'
      exact hnf _ d3
    have aL : a ≠ X.env.locals := fun z => inF (List.mem_filterMap.mpr ⟨X.env, List.mem_cons_self, by rw [hfr, z]⟩)
    have aF : a ∉ X.fs := fun hm => by
      obtain ⟨e, he, q⟩ := List.mem_filterMap.mp hm
      exact inF (List.mem_filterMap.mpr ⟨e, List.mem_cons_of_mem _ he, q⟩)
    have S3 := J3.suite get3 d3 na aL aF
    have clsLook : PySem.W.Looks (model X.prog X.w) g3 (typeOf (.ref a)) cls := fun A Q E s k q => wpAny_typeOf_ref (k _ _ get3) (by rw [z3.1]; exact q)
    suffices go : ∀ {hs' : List ExceptHandler} {l' : List Cls2}, AsOk X n hs' l' → wAsL X.K i Wout D l' cls d σ' H' → wpAny (model X.prog X.w) X.A (handleBy (.ref a) X.env hs') (SP X pins D) X.xe { s' with heap := g3 } from go ok wish
    intro hs' l' hk
    induction hk with
    | nil =>
      intro w
      obtain ⟨k1, k2, k3, oe, vs, T, oT, ts', he, hz, hd, h1, hr⟩ := id held
      refine wpAny_handleBy_nil ?_
      unfold PySem.passOn
      refine wpAny_bind (wpAny_field he hd h1 ?_)
      rw [if_neg (show ¬ ((Value.ref T == Value.none) = true) from by simp)]
      have out : wpAny (model X.prog X.w) X.A (setFlight (.ref a) X.env.frame) (fun _ s4 => wpAny (model X.prog X.w) X.A (throw (.ref a) : Sem Flow) (SP X pins D) X.xe s4) X.xe { s' with heap := g3 } := by
        rw [hfr]
        exact HandSPX.setFlight_upZ held fun g4 hh4 up4 => wpAny_throw (tk _ _ ⟨a, B, sI, pins, σ', H', cls, d, rfl, J, nb, (up.trans up3).trans up4, .inr (.inr (by rw [hst]; exact hh4)), na, os, ag, w⟩)
      first
        | exact wpAny_bind (wpAny_pure (wpAny_bind out))
        | exact wpAny_bind out
    | @cons x c ts st more p q hs2 l2 nm suite rest ih =>
      rintro ⟨b, hb1, yes, no⟩
      refine wpAny_handleBy_cons (codeAny_handlers_test ?_) (fun z => by cases z)
      have named : ∀ {Q : Value → Shared → Prop} {E : Value → Shared → Prop}, Q c { s' with heap := g3 } → wpAny (model X.prog X.w) (X.A.mark (some (.ref a))) (eval (.Name x p) X.env) Q E { s' with heap := g3 } := fun {Q E} k => by
        obtain ⟨hg, hdb, hm | ⟨hm, hv, hnn⟩⟩ := nm
        · exact ld_glob (X := X.suite a ((a, o3) :: (X.pn ++ pins))) S3 hg hm k hdb
        · exact ld_blt (X := X.suite a ((a, o3) :: (X.pn ++ pins))) S3 hg hm hv k hnn hdb
      refine named ((PySem.W.exm_one (M := model X.prog X.w) J3.kIn clsLook hb1).here ?_)
      cases b with
      | false => exact ih (no rfl)
      | true =>
        refine codeAny_handlers_suite_as (HandSPX.lands_againZ held fun g4 held4 up4 => ?_)
        have J4 : Inv X pins σ' H' { s' with heap := g4 } := J.landed nb held4.1 ((up.trans up3).trans up4) os ag
        obtain ⟨o4, v4, get4, z4, d4⟩ := held4.there
        refine store_ok (X := X.suite a ((a, o4) :: (X.pn ++ pins))) (v := .ref a) (J4.suite get4 d4 na aL aF) hN hi (.inl hln) rfl (fun s5 S5 => ?_) (.inr hln)
        refine wpAny_mono ((suite a o4 cls d (X.pn ++ pins) z4 ⟨_, d4⟩).run [] s5 _ H' _ S5 (yes rfl a na)) (fun fl s6 hsp => ?_) (fun _ _ z => z.elim)
        have gone : ∀ {σ6 : L2.St} {H6 : Hp} {Q : Shared → Prop}, Inv (X.suite a ((a, o4) :: (X.pn ++ pins))) [] σ6 H6 s6 → (∀ s7, Inv X pins (σ6.set i none) H6 s7 → Q s7) →
            wpAny (model X.prog X.w) X.A (do bindName X.env n .none; unbindBehindTheSuite X.env n q) (fun _ s7 => Q s7) X.xe s6 := fun {σ6 H6 Q} S6 hq => gone_ok (S6.unsuite xok) hN hi hln hq
        match fl, hsp with
        | .next, ⟨σ6, H6, S6, q6⟩ => exact gone S6 fun s7 J7 => ⟨_, _, J7, q6⟩
        | .brk, ⟨σ6, H6, S6, q6⟩ => exact gone S6 fun s7 J7 => ⟨_, _, J7, q6⟩
        | .cont, ⟨σ6, H6, S6, q6⟩ => exact gone S6 fun s7 J7 => ⟨_, _, J7, q6⟩
        | .ret u, ⟨v6, σ6, H6, S6, r6, q6⟩ => exact gone S6 fun s7 J7 => ⟨_, _, _, J7, r6, q6⟩
  · match fl, hsp with
    | .next, ⟨σ', H', J', q⟩ => exact wpAny_execs_nil ⟨σ', H', J'.ofTry xok, q⟩
    | .brk, ⟨σ', H', J', q⟩ => exact ⟨σ', H', J'.ofTry xok, q⟩
    | .cont, ⟨σ', H', J', q⟩ => exact ⟨σ', H', J'.ofTry xok, q⟩
    | .ret u, ⟨v, σ', H', J', r, q⟩ => exact ⟨v, σ', H', J'.ofTry xok, r, q⟩
end
end RT
end
section
set_option maxRecDepth 100000
set_option maxHeartbeats 2000000
/-! RTL6: dict(zip(t, u)) of two tuples; of two lists. -/
namespace RT
open PySem PySem.Spec PyProof.Rows L2
open Evl (Ex Ex.refl Ex.trans Ex.new Ex.mut)
section
variable {prog : Program} {w : World} {A : Around} {E : Value → Shared → Prop} {s : Shared} {z TI TO T i1 i2 t1 t2 : Addr} {f : Bool} {oT : Obj} {k1 k2 : Nat} {xs ys : Array Value} {x y : Value}
theorem ztItem {Q : Value → Shared → Prop} (D : ZipApart z TI TO i1 i2 t1 t2) (zh : IsZipHeld s.heap z TI TO T f) (tg : s.heap.get? T = some oT) (tip : IsPair s.heap TI (.ref i1) (.ref i2)) (j1 : s.heap.IsTupleIter i1 t1 k1) (j2 : s.heap.IsTupleIter i2 t2 k2)
    (u1 : s.heap.IsTuple t1 xs) (u2 : s.heap.IsTuple t2 ys) (ex : xs[k1]? = some x) (ey : ys[k2]? = some y)
    (q : ∀ g, IsZipHeld g z TI TO T true → g.IsTupleIter i1 t1 (k1 + 1) → g.IsTupleIter i2 t2 (k2 + 1) → IsPair g s.heap.objs.size x y → (∀ c o, c ≠ z → c ≠ i1 → c ≠ i2 → s.heap.get? c = some o → g.get? c = some o) → Q (.ref s.heap.objs.size) { s with heap := g }) :
    wpAny (model prog w) A (Builtin.«zip.__next__» ⟨[.ref z], []⟩) (fun fin s' => ∃ v, fin = .done (.ret v) ∧ Q v s') E s := by
  show wpAny _ _ (field (.ref z) 2 >>= fun _ => _) _ _ _
  refine wpAny_bind (wpAny_field (x := .bool false) zh rfl rfl ?_)
  show wpAny _ _ (field (.ref z) 3 >>= fun _ => _) _ _ _
  refine wpAny_bind (wpAny_field (x := .ref TI) zh rfl rfl (wpAny_bind (wpAny_seqItems tip rfl ?_)))
  show wpAny _ _ (Builtin.SmallTypes.ownedTupleIsFree (.ref z) >>= fun _ => _) _ _ _
  refine wpAny_bind (wpAny_tupleHeld_zip zh tg fun g1 zh1 sb1 => ?_)
  simp only [Bool.false_eq_true, if_false]
  refine wpAny_bind ?_
  rw [← Array.forIn_toList]
  simp only [List.forIn_cons, List.forIn_nil]
  refine wpAny_bind (wpAny_bind (wpAny_holding ?_))
  have a1 : g1.IsTupleIter i1 t1 k1 := j1.extBut sb1.extBut D.i1z
  have b1 : g1.IsTuple t1 xs := u1.extBut sb1.extBut D.l1z
  show wpAny _ _ (Builtin.SmallTypes.nextOf (.ref i1) >>= fun _ => _) _ _ _
  refine wpAny_bind (RZ.nextOf_tuple_item (s := { s with heap := g1 }) a1 b1 ex fun g2 a2 sb2 => wpAny_pure (wpAny_pure (wpAny_bind (wpAny_bind (wpAny_holding ?_)))))
  have a3 : g2.IsTupleIter i2 t2 k2 := (j2.extBut sb1.extBut D.i2z).extBut sb2.extBut D.i12.symm
  have b3 : g2.IsTuple t2 ys := (u2.extBut sb1.extBut D.l2z).extBut sb2.extBut D.l2i1
  show wpAny _ _ (Builtin.SmallTypes.nextOf (.ref i2) >>= fun _ => _) _ _ _
  refine wpAny_bind (RZ.nextOf_tuple_item (s := { s with heap := g2 }) a3 b3 ey fun g3 a4 sb3 => wpAny_pure (wpAny_pure (wpAny_pure ?_)))
  show wpAny _ _ (newTuple [x, y] >>= fun _ => _) _ _ _
  have sz : g3.objs.size = s.heap.objs.size := by rw [sb3.1, sb2.1, sb1.1]
  have zh3 : IsZipHeld g3 z TI TO T true := sb3.extBut _ _ D.i2z.symm (sb2.extBut _ _ D.i1z.symm zh1)
  have kp : ∀ c o, c ≠ z → c ≠ i1 → c ≠ i2 → s.heap.get? c = some o → g3.get? c = some o := fun c o c1 c2 c3 e => sb3.extBut _ _ c3 (sb2.extBut _ _ c2 (sb1.extBut _ _ c1 e))
  have a5 : g3.IsTupleIter i1 t1 (k1 + 1) := a2.extBut sb3.extBut D.i12
  refine wpAny_bind (wpAny_newTuple (wpAny_pure ⟨_, rfl, ?_⟩))
  have up : ∀ c o, g3.get? c = some o → (g3.push { cls := .type "tuple", data := .seq #[x, y] }).get? c = some o := fun c o e => Heap.get?_push_of_some _ e
  have pr : IsPair (g3.push { cls := .type "tuple", data := .seq #[x, y] }) g3.objs.size x y := Heap.get?_push_size _ rfl
  show Q (.ref g3.objs.size) _
  rw [sz] at pr ⊢
  exact q _ (up _ _ zh3) (a5.at (up i1)) (a4.at (up i2)) pr fun c o c1 c2 c3 e => up c o (kp c o c1 c2 c3 e)
theorem ztEnd {Q : Fin → Shared → Prop} (hh : A.handled = none) (D : ZipApart z TI TO i1 i2 t1 t2) (zh : IsZipHeld s.heap z TI TO T f) (tg : s.heap.get? T = some oT) (tip : IsPair s.heap TI (.ref i1) (.ref i2)) (j1 : s.heap.IsTupleIter i1 t1 k1)
    (u1 : s.heap.IsTuple t1 xs) (ex : xs[k1]? = none)
    (q : ∀ g e, (∀ c o, c ≠ z → c ≠ i1 → s.heap.get? c = some o → g.get? c = some o) → (∃ o, g.get? e = some o ∧ o.cls = .type "StopIteration") → E (.ref e) { s with heap := g }) : wpAny (model prog w) A (Builtin.«zip.__next__» ⟨[.ref z], []⟩) Q E s := by
  show wpAny _ _ (field (.ref z) 2 >>= fun _ => _) _ _ _
  refine wpAny_bind (wpAny_field (x := .bool false) zh rfl rfl ?_)
  show wpAny _ _ (field (.ref z) 3 >>= fun _ => _) _ _ _
  refine wpAny_bind (wpAny_field (x := .ref TI) zh rfl rfl (wpAny_bind (wpAny_seqItems tip rfl ?_)))
  show wpAny _ _ (Builtin.SmallTypes.ownedTupleIsFree (.ref z) >>= fun _ => _) _ _ _
  refine wpAny_bind (wpAny_tupleHeld_zip zh tg fun g1 zh1 sb1 => ?_)
  simp only [Bool.false_eq_true, if_false]
  refine wpAny_bind ?_
  rw [← Array.forIn_toList]
  simp only [List.forIn_cons, List.forIn_nil]
  refine wpAny_bind (wpAny_bind (wpAny_holding ?_))
  show wpAny _ _ (Builtin.SmallTypes.nextOf (.ref i1) >>= fun _ => _) _ _ _
  exact wpAny_bind (RZ.nextOf_tuple_end (s := { s with heap := g1 }) hh (j1.extBut sb1.extBut D.i1z) (u1.extBut sb1.extBut D.l1z) ex fun g2 e sb2 he => q g2 e (fun c o c1 c2 k => sb2 _ _ c2 (sb1.extBut _ _ c1 k)) he)
end
/-- zip over two tuples of one length, as what dict() is made of -/
theorem ztArg {prog : Program} {w : World} (z TI TO i1 i2 t1 t2 : Addr) (D : ZipApart z TI TO i1 i2 t1 t2) (xs ys : Array Value) (hl : xs.size = ys.size) :
    PairArg prog w "zip" z [z, TI, TO, i1, i2, t1, t2] [z, TO, i1, i2] xs.size (fun i k v => xs[i]? = some k ∧ ys[i]? = some v)
      (fun h => IsZip h z TI TO .none ∧ IsPair h TI (.ref i1) (.ref i2) ∧ (∃ a b, IsPair h TO a b) ∧ h.IsTupleIter i1 t1 0 ∧ h.IsTupleIter i2 t2 0 ∧ h.IsTuple t1 xs ∧ h.IsTuple t2 ys) where
  type := fun s ok => ⟨_, ok.1, rfl⟩
  notDict := by decide
  keep := fun g g' ⟨h1, h2, ⟨a, b, h3⟩, h4, h5, h6, h7⟩ k => ⟨k _ _ h1, k _ _ h2, ⟨a, b, k _ _ h3⟩, h4.at (k _), h5.at (k _), h6.at (k _), h7.at (k _)⟩
  there := fun g ⟨h1, h2, ⟨a, b, h3⟩, ⟨o4, h4, _⟩, ⟨o5, h5, _⟩, ⟨o6, h6, _⟩, ⟨o7, h7, _⟩⟩ c hc => by
    simp only [List.mem_cons, List.not_mem_nil, or_false] at hc
    rcases hc with e | e | e | e | e | e | e <;> subst e <;> first | exact ⟨_, h1⟩ | exact ⟨_, h2⟩ | exact ⟨_, h3⟩ | exact ⟨_, h4⟩ | exact ⟨_, h5⟩ | exact ⟨_, h6⟩ | exact ⟨_, h7⟩
  sub := fun c hc => by
    simp only [List.mem_cons, List.not_mem_nil, or_false] at hc ⊢
    rcases hc with e | e | e | e <;> simp [e]
  noKeys := fun A s Q E hA ok k => getAttrOr_miss_zip ok.1 rfl rfl rfl zip_no_keys (by decide +kernel) hA k
  iter := fun A s d Q E hA ⟨h1, h2, ⟨a, b, h3⟩, h4, h5, h6, h7⟩ hd hdf k => by
    simp only [List.mem_cons, List.not_mem_nil, or_false, not_or] at hdf
    obtain ⟨dz, dI, dO, d1, d2, dt1, dt2⟩ := hdf
    refine wpAny_pyIter_zip h1 (k z [z, TO, i1, i2] (fun i g => IsPair g TI (.ref i1) (.ref i2) ∧ g.IsTupleIter i1 t1 i ∧ g.IsTupleIter i2 t2 i ∧ g.IsTuple t1 xs ∧ g.IsTuple t2 ys ∧
      ((IsZip g z TI TO .none ∧ ∃ a b, IsPair g TO a b) ∨ ∃ T f oT, IsZipHeld g z TI TO T f ∧ g.get? T = some oT ∧ T ≠ z ∧ T ≠ i1 ∧ T ≠ i2 ∧ T ≠ d)) s.heap s.toks ?_ ⟨h2, h4, h5, h6, h7, .inl ⟨h1, a, b, h3⟩⟩ (fun _ _ e => e) fun _ hb => .inl hb)
    refine ⟨fun hm => ?_, fun i g g' st kk => ?_, fun i s1 Q1 E1 hi st hds hQ => ?_, fun s1 Q1 E1 st hQ => ?_⟩
    · simp only [List.mem_cons, List.not_mem_nil, or_false] at hm
      rcases hm with e | e | e | e
      · exact dz e
      · exact dO e
      · exact d1 e
      · exact d2 e
    · obtain ⟨s2, s3, s4, s5, s6, s7⟩ := st
      refine ⟨kk _ _ (Ne.symm dI) s2, s3.at fun o => kk _ o (Ne.symm d1), s4.at fun o => kk _ o (Ne.symm d2), s5.at fun o => kk _ o (Ne.symm dt1), s6.at fun o => kk _ o (Ne.symm dt2), ?_⟩
      rcases s7 with ⟨y1, a, b, y2⟩ | ⟨T, f, oT, y1, y2, r1, r2, r3, r4⟩
      · exact .inl ⟨kk _ _ (Ne.symm dz) y1, a, b, kk _ _ (Ne.symm dO) y2⟩
      · exact .inr ⟨T, f, oT, kk _ _ (Ne.symm dz) y1, kk _ _ r4 y2, r1, r2, r3, r4⟩
    · obtain ⟨s2, s3, s4, s5, s6, s7⟩ := st
      have ex := Array.getElem?_eq_getElem hi
      have ey := Array.getElem?_eq_getElem (Nat.lt_of_lt_of_eq hi hl)
      have fr : ∀ {c o}, s1.heap.get? c = some o → s1.heap.objs.size ≠ c := fun e => Nat.ne_of_gt (Heap.lt_size e)
      have n1 : s1.heap.objs.size ≠ i1 := let ⟨_, e, _⟩ := s3; fr e
      have n2 : s1.heap.objs.size ≠ i2 := let ⟨_, e, _⟩ := s4; fr e
      have off : ∀ {c : Addr}, c ∉ [z, TO, i1, i2] → c ≠ z ∧ c ≠ TO ∧ c ≠ i1 ∧ c ≠ i2 := fun {c} hc => by simpa using hc
      rcases s7 with ⟨y1, a, b, y2⟩ | ⟨T, f, oT, y1, y2, r1, r2, r3, r4⟩
      · refine RZ.pyNext_zipT_item D y1 s2 y2 s3 s4 s5 s6 ex ey fun g a1 a2 a3 a4 a5 _ kp => ?_
        exact hQ s1.heap.objs.size _ _ g s1.toks ⟨ex, ey⟩ (.inl ⟨_, a5, rfl, _, rfl⟩) ⟨kp _ _ D.TIz D.TITO D.TIi1 D.TIi2 s2, a3, a4, s5.at fun o => kp _ o D.l1z D.l1TO D.l1i1 D.l1i2, s6.at fun o => kp _ o D.l2z D.l2TO D.l2i1 D.l2i2,
          .inr ⟨s1.heap.objs.size, false, _, a1, a5, fr y1, n1, n2, Nat.ne_of_gt hds⟩⟩ fun c o hc e => kp c o (off hc).1 (off hc).2.1 (off hc).2.2.1 (off hc).2.2.2 e
      · have ty : s1.TypeIs (.ref z) "zip" := ⟨_, y1, rfl⟩
        unfold pyNext
        refine wpAny_bind (wpAny_attempt (wpAny_callSpecial?_slot (name := Str.ofString "__next__") ty F.slot_zip_next (wpAny_call_entry F.slot_zip_next ty F.entry_zip_next (ztItem D y1 y2 s2 s3 s4 s5 s6 ex ey fun g a1 a2 a3 a4 kp => wpAny_pure ?_) (F.args_zip_next_1 _))))
        exact hQ s1.heap.objs.size _ _ g s1.toks ⟨ex, ey⟩ (.inl ⟨_, a4, rfl, _, rfl⟩) ⟨kp _ _ D.TIz D.TIi1 D.TIi2 s2, a2, a3, s5.at fun o => kp _ o D.l1z D.l1i1 D.l1i2, s6.at fun o => kp _ o D.l2z D.l2i1 D.l2i2,
          .inr ⟨T, true, oT, a1, kp _ _ r1 r2 r3 y2, r1, r2, r3, r4⟩⟩ fun c o hc e => kp c o (off hc).1 (off hc).2.2.1 (off hc).2.2.2 e
    · obtain ⟨s2, s3, s4, s5, s6, s7⟩ := st
      have ex : xs[xs.size]? = none := Array.getElem?_eq_none (Nat.le_refl _)
      have off : ∀ {c : Addr}, c ∉ [z, TO, i1, i2] → c ≠ z ∧ c ≠ TO ∧ c ≠ i1 ∧ c ≠ i2 := fun {c} hc => by simpa using hc
      rcases s7 with ⟨y1, a, b, y2⟩ | ⟨T, f, oT, y1, y2, r1, r2, r3, r4⟩
      · exact RZ.pyNext_zipT_end hA D y1 s2 y2 s3 s4 s5 s6 (.inl ex) fun g kp => hQ g s1.toks fun c o hc e => kp c o (off hc).1 (off hc).2.1 (off hc).2.2.1 (off hc).2.2.2 e
      · have ty : s1.TypeIs (.ref z) "zip" := ⟨_, y1, rfl⟩
        unfold pyNext
        refine wpAny_bind (wpAny_attempt (wpAny_callSpecial?_slot (name := Str.ofString "__next__") ty F.slot_zip_next (wpAny_call_entry F.slot_zip_next ty F.entry_zip_next (ztEnd hA D y1 y2 s2 s3 s5 ex fun g e kp he => ?_) (F.args_zip_next_1 _))))
        obtain ⟨o, ho, hc⟩ := he
        exact wpAny_bind (wpAny_isInstance (T := "StopIteration") (b := true) ⟨o, ho, hc⟩ isSubtype_stop (wpAny_pure (hQ g s1.toks fun c o hc e => kp c o (off hc).1 (off hc).2.2.1 e)))
/-! ### the expression dict(zip(e, f)) -/
def tDictZip (K : Fg) (ta : TA) : TE := fun σ H Q => ta σ H fun vs H1 => ∃ (a b : Addr) (ks : List Key) (ws : List V), vs = [.ref a, .ref b] ∧ ks.length = ws.length ∧ ((SqL K H1 a (ks.map kV) ∧ SqL K H1 b ws) ∨ (SqT K H1 a (ks.map kV) ∧ SqT K H1 b ws)) ∧
  ∀ p, H1 p = none → Q (.ref p) (upd H1 p (.dK (mergeK [] (ks.zip ws))))
theorem kv_zip : ∀ {ks : List Key} {ws : List V} {us : List Value}, Vals ws us → ks.length = ws.length → KV (ks.zip ws) (ks.zip us)
  | [], [], _, .nil, _ => .nil
  | k :: ks, v :: ws, u :: us, .cons r t, h => .cons ⟨rfl, r⟩ (kv_zip t (by simpa using h))
theorem pairs_zip {P : Program} {w : World} {ks : List Key} {its its2 : List Value} {ws : List V} (h1 : Vals (ks.map kV) its) (h2 : Vals ws its2) (hl : ks.length = ws.length) {n : Nat} (hn : n = its.length) :
    PairsHave (mixKind P w) n (fun i k v => its.toArray[i]? = some k ∧ its2.toArray[i]? = some v) (ks.zip its2) := by
  have l1 : its.length = ks.length := by have := h1.length; rw [List.length_map] at this; exact this.symm
  have l2 : its2.length = ws.length := h2.length.symm
  refine ⟨by rw [List.length_zip, hn]; omega, fun i key v ⟨e1, e2⟩ => ?_⟩
  have e1 : its[i]? = some key := by simpa using e1
  have e2 : its2[i]? = some v := by simpa using e2
  have hi : i < ks.length := by rw [← l1]; exact (List.getElem?_eq_some_iff.mp e1).1
  obtain ⟨u, hu, ru⟩ := h1.get (show (ks.map kV)[i]? = some (kV ks[i]) by rw [List.getElem?_map, List.getElem?_eq_getElem hi]; rfl)
  rw [e1] at hu
  cases hu
  exact ⟨ks[i], (List.getElem?_zip_eq_some (z := (ks[i], v))).mpr ⟨List.getElem?_eq_getElem hi, e2⟩, kV_is ru⟩
section
variable {X : Cx}
theorem pe_dictZip (K : Fg) {e e2 : Expr} {ta : TA} {p p2 q pos : Pos} (hc : X.calm = true) (hg : Gl X "dict") (hm : X.mg "dict" = none) (hg2 : Gl X "zip") (hm2 : X.mg "zip" = none) (ha : PA X [e, e2] ta)
    (hs : starEach [e, e2] X.env = (false, eval e X.env) :: starEach [e2] X.env := by rfl) (hpl : (backTo q (starEach [e2] X.env)).any (·.1) = false := by rfl)
    (hs2 : starEach [.Call (.Name "zip" p2) [e, e2] [] q] X.env = (false, eval (.Call (.Name "zip" p2) [e, e2] [] q) X.env) :: starEach [] X.env := by rfl) (hpl2 : (backTo pos (starEach [] X.env)).any (·.1) = false := by rfl) (hK : X.K = K := by rfl) :
    PE X (.Call (.Name "dict" p) [.Call (.Name "zip" p2) [e, e2] [] q] [] pos) (tDictZip K ta) := by
  subst hK
  refine ⟨fun pins s σ H Q I h => Call_ (ld_blt I hg hm (by first | rfl | kernel_rfl) (PyProof.Rows.callWith_type1 (spliced_more (Call_ (ld_blt I hg2 hm2 PyProof.Rows.boot_zip (PyProof.Rows.callWith_type1 (thn (ha.run q pins s σ H _ I h) fun us s1 ⟨vs, H1, I1, r1, a, b, ks, ws, ev, hl, hq, k⟩ => ?_) hs hpl))) hs2) hs2 hpl2))⟩
  subst ev
  cases r1 with | cons r r1 => cases r1 with | cons r' r1 =>
  cases r1
  cases r
  cases r'
  have hd := I1.ok.hd hc
  have fin : ∀ (h' h2 : Heap) (tk : Nat) (its2 : List Value), (∀ c o, s1.heap.get? c = some o → h'.get? c = some o) → s1.heap.objs.size ≤ h'.objs.size → (∀ c o, s1.heap.get? c = some o → h2.get? c = some o) → Vals ws its2 → ws.length ≤ sizeLine → h2.DictOf (mixKind X.prog X.w) h'.objs.size (merged [] (ks.zip its2)) →
      EP X pins σ Q (.ref h'.objs.size) { s1 with heap := h2, toks := tk } := fun h' h2 tk its2 k1 le k2 rv hz dd => by
    have hn : H1 h'.objs.size = none := I1.hok.fresh le
    refine ⟨.ref h'.objs.size, _, I1.laid (t' := tk) k2 le (dk_new ?_ (beq_eq_false_iff_ne.mpr (Ne.symm (Nat.ne_of_lt (Nat.lt_of_lt_of_le I1.big le)))) ((kv_zip rv hl).merge .nil) dd), rfl, k _ hn⟩
    have h1 := length_mergeK (ks.zip ws) []
    rw [List.length_nil, List.length_zip] at h1
    omega
  have lenK : ∀ {its its2 : List Value}, Vals (ks.map kV) its → Vals ws its2 → its.length = its2.length := fun {its its2} h1 h2 => by
    have a1 := h1.length
    have a2 := h2.length
    rw [List.length_map] at a1
    omega
  rcases hq with ⟨hq1, hq2⟩ | ⟨hq1, hq2⟩
  · obtain ⟨its, rv, p1, z1⟩ := I1.list hq1
    obtain ⟨its2, rv2, p2, z2⟩ := I1.list hq2
    refine call_zip_2 p1.isList p2.isList fun h' g1 g2 g3 g4 g5 gs gk => spliced_none ?_
    have D := PySem.W.ktu_apart s1.heap.objs.size a b p1.lt p2.lt
    have lsz : s1.heap.objs.size ≤ h'.objs.size := by rw [gs]; exact Nat.le_add_right _ _
    refine call_dict_pairs (knd := mixKind X.prog X.w) (kvs := ks.zip its2) (PairArg.zip _ _ _ _ _ _ _ D its.toArray its2.toArray) hd ⟨g1, g2, ⟨_, _, g3⟩, g4, g5, p1.isList.at fun o => gk _ o, p2.isList.at fun o => gk _ o⟩ (pairs_zip rv rv2 hl ?_) ?_ fun h2 tk dd kp => ?_
    · have := lenK rv rv2
      simp only [List.size_toArray]; omega
    · have := rv2.length
      have := Nat.min_le_right its.toArray.size its2.toArray.size
      simp only [List.size_toArray] at this ⊢
      omega
    · refine fin h' h2 tk its2 gk lsz (fun c o z => kp c o (fun hm => ?_) (gk c o z)) rv2 z2 dd
      have lt := Heap.lt_size z
      simp only [List.mem_cons, List.not_mem_nil, or_false] at hm
      rcases hm with e | e | e | e <;> rw [e] at lt <;> first | exact absurd lt (Nat.not_lt.mpr (Nat.le_add_right _ _)) | exact absurd lt (Nat.lt_irrefl _)
  · obtain ⟨its, rv, p1, z1⟩ := I1.tuple hq1
    obtain ⟨its2, rv2, p2, z2⟩ := I1.tuple hq2
    obtain ⟨o1, ho1, _⟩ := id p1
    obtain ⟨o2, ho2, _⟩ := id p2
    refine RZ.call_zipT (show s1.heap.IsTuple a its.toArray from p1) (show s1.heap.IsTuple b its2.toArray from p2) fun h' g1 g2 g3 g4 g5 gs gk => spliced_none ?_
    have D := PySem.W.ktu_apart s1.heap.objs.size a b (Heap.lt_size ho1) (Heap.lt_size ho2)
    have lsz : s1.heap.objs.size ≤ h'.objs.size := by rw [gs]; exact Nat.le_add_right _ _
    have el : its.toArray.size = its2.toArray.size := by
      have := lenK rv rv2
      simp only [List.size_toArray]; exact this
    refine call_dict_pairs (knd := mixKind X.prog X.w) (kvs := ks.zip its2) (ztArg _ _ _ _ _ _ _ D its.toArray its2.toArray el) hd ⟨g1, g2, ⟨_, _, g3⟩, g4, g5, Heap.IsTuple.at p1 fun o => gk _ o, Heap.IsTuple.at p2 fun o => gk _ o⟩ (pairs_zip rv rv2 hl (by simp)) ?_ fun h2 tk dd kp => ?_
    · have := rv2.length
      rw [el]
      simp only [List.size_toArray]
      omega
    · refine fin h' h2 tk its2 gk lsz (fun c o z => kp c o (fun hm => ?_) (gk c o z)) rv2 z2 dd
      have lt := Heap.lt_size z
      simp only [List.mem_cons, List.not_mem_nil, or_false] at hm
      rcases hm with e | e | e | e <;> rw [e] at lt <;> first | exact absurd lt (Nat.not_lt.mpr (Nat.le_add_right _ _)) | exact absurd lt (Nat.lt_irrefl _)
end
end RT
end
section
set_option maxRecDepth 100000
set_option maxHeartbeats 2000000
/-! RTCalc5: chains, tests, comprehensions over one name or a pair, dicts by tuples. -/
namespace RT
open PySem PySem.Spec PyProof.Rows L2
open Evl (Ex Ex.refl Ex.trans Ex.new Ex.mut)
section
variable {σ : L2.St} {G G' H : Hp} {ta tb tc te tl td ty : TE} {t u : TT} {R S1 S2 S3 : Rel} {d e : PyData} {ds es : List PyData} {K : Fg} {i j k : Int} {α : Type} {kvs : List (Key × PyData)} {ky : Key}
theorem ed_chainLe (ha : ED ta σ G (dt (.int i))) (hb : ED tb σ G (dt (.int j))) (hc : ED tc σ G (dt (.int k))) : ED (tChain rLe rLe ta tb tc) σ G (dt (.bool (decide (i ≤ j) && decide (j ≤ k)))) := fun H e Q q =>
  ed_two (P := True) ha hb H e fun x y G1 H1 s r1 r2 => by
    rw [Dx.int_inv r1, Dx.int_inv r2]
    refine ⟨i, j, rfl, rfl, _, rfl, ?_⟩
    by_cases h : i ≤ j
    · rw [if_pos (by simp [h])]
      refine (hc.mono s.g) H1 s.i _ fun z G2 H2 s2 r3 => ?_
      rw [Dx.int_inv r3]
      refine ⟨j, k, rfl, rfl, q _ G2 H2 (s.trans s2) ?_⟩
      simp only [h, decide_true, Bool.true_and]
      exact .bl _
    · rw [if_neg (by simp [h])]
      refine q _ G1 H1 s ?_
      simp only [h, decide_false, Bool.false_and]
      exact .bl _
theorem et_tb {b : Bool} (h : ED te σ G (dt (.bool b))) : ET (tTruth K te) σ G b := et_bool h
theorem et_ti {i : Int} (h : ED te σ G (dt (.int i))) : ET (tTruth K te) σ G (i != 0) := et_int h
theorem ed_notTb {b : Bool} (h : ED te σ G (dt (.bool b))) : ED (tNotT K te) σ G (dt (.bool (!b))) := fun H e Q q => h H e _ fun x G1 H1 s r => ⟨b, by rw [Dx.bl_inv r]; exact rfl, q _ G1 H1 s (.bl _)⟩
theorem ed_notTi {i : Int} (h : ED te σ G (dt (.int i))) : ED (tNotT K te) σ G (dt (.bool (!(i != 0)))) := fun H e Q q => h H e _ fun x G1 H1 s r => ⟨i != 0, by rw [Dx.int_inv r]; exact rfl, q _ G1 H1 s (.bl _)⟩
/-! ### slots -/
theorem wipe_set {σ : L2.St} {k : Nat} {x : Option V} : ∀ {vs : List Nat}, k ∈ vs → wipe (σ.set k x) vs = wipe σ vs
  | v :: vs, h => by
    unfold wipe
    by_cases hv : k ∈ vs
    · rw [wipe_set hv]
    · have e : v = k := by
        rcases List.mem_cons.mp h with z | z
        · exact z.symm
        · exact absurd z hv
      subst e
      clear h
      induction vs generalizing σ with
      | nil => unfold wipe; rw [List.set_set]
      | cons w vs ih =>
        unfold wipe
        have hw : v ≠ w := fun z => hv (by rw [z]; exact List.mem_cons_self)
        have hv2 : v ∉ vs := fun z => hv (List.mem_cons_of_mem _ z)
        have := ih (σ := σ) hv2
        rw [List.set_comm _ _ (Ne.symm hw), this, List.set_comm _ _ hw]
theorem wipe_wipe {σ : L2.St} (vs : List Nat) : wipe (wipe σ vs) vs = wipe σ vs := by
  have : ∀ (l : List Nat), (∀ v ∈ l, v ∈ vs) → wipe (wipe σ l) vs = wipe σ vs := by
    intro l
    induction l with
    | nil => intro _; rfl
    | cons v l ih =>
      intro hl
      show wipe ((wipe σ l).set v none) vs = _
      rw [wipe_set (hl v List.mem_cons_self), ih fun w hw => hl w (List.mem_cons_of_mem _ hw)]
  exact this vs fun _ h => h
/-- a comprehension over one name -/
theorem ed_lcN {wi : TI} {tt : TT} {k : Nat} {xs : List α} {Rx : α → Rel} {p : α → Bool} {f : α → PyData} (h : EI wi σ G (xs.map Rx)) (hz : xs.length ≤ 90000)
    (ht : ∀ x ∈ xs, ∀ v G1, Ex G G1 → (Rx x).r v G1 → ET tt ((wipe σ [k]).set k (some v)) G1 (p x) ∧ (p x = true → ED te ((wipe σ [k]).set k (some v)) G1 (dt (f x)))) :
    ED (tLc wi (gName k) tt te [k]) σ G (dt (.list ((xs.filter p).map f))) := ed_lc h hz fun x hx v G1 e r => by
  obtain ⟨h1, h2⟩ := ht x hx v G1 e r
  exact ⟨_, gt_name, by rw [wipe_set (by simp), wipe_wipe], h1, h2⟩
theorem ed_lcN1 {wi : TI} {k : Nat} {xs : List α} {Rx : α → Rel} {f : α → PyData} (h : EI wi σ G (xs.map Rx)) (hz : xs.length ≤ 90000)
    (ht : ∀ x ∈ xs, ∀ v G1, Ex G G1 → (Rx x).r v G1 → ED te ((wipe σ [k]).set k (some v)) G1 (dt (f x))) :
    ED (tLc wi (gName k) tYes te [k]) σ G (dt (.list (xs.map f))) := ed_lc1 h hz fun x hx v G1 e r => ⟨_, gt_name, by rw [wipe_set (by simp), wipe_wipe], ht x hx v G1 e r⟩
/-- .. over pairs -/
theorem ed_lcP {wi : TI} {tt : TT} {k l : Nat} {xs : List α} {a b : α → PyData} {p : α → Bool} {f : α → PyData} (h : EI wi σ G (xs.map fun x => dt (.tuple [a x, b x]))) (hz : xs.length ≤ 90000)
    (ht : ∀ x ∈ xs, ∀ y z G1, Ex G G1 → Dx G1 y (a x) → Dx G1 z (b x) → ET tt (((wipe σ [k, l]).set k (some y)).set l (some z)) G1 (p x) ∧ (p x = true → ED te (((wipe σ [k, l]).set k (some y)).set l (some z)) G1 (dt (f x)))) :
    ED (tLc wi (gTup K 2 (gCons (gName k) (gCons (gName l) gNil))) tt te [k, l]) σ G (dt (.list ((xs.filter p).map f))) := ed_lc h hz fun x hx v G1 e r => by
  obtain ⟨c, y, z, rfl, ec, ry, rz⟩ := dx_pair r
  obtain ⟨h1, h2⟩ := ht x hx y z G1 e ry rz
  exact ⟨_, gt_tup2 ec, by rw [wipe_set (by simp), wipe_set (by simp), wipe_wipe], h1, h2⟩
theorem ed_lcP1 {wi : TI} {k l : Nat} {xs : List α} {a b : α → PyData} {f : α → PyData} (h : EI wi σ G (xs.map fun x => dt (.tuple [a x, b x]))) (hz : xs.length ≤ 90000)
    (ht : ∀ x ∈ xs, ∀ y z G1, Ex G G1 → Dx G1 y (a x) → Dx G1 z (b x) → ED te (((wipe σ [k, l]).set k (some y)).set l (some z)) G1 (dt (f x))) :
    ED (tLc wi (gTup K 2 (gCons (gName k) (gCons (gName l) gNil))) tYes te [k, l]) σ G (dt (.list (xs.map f))) := ed_lc1 h hz fun x hx v G1 e r => by
  obtain ⟨c, y, z, rfl, ec, ry, rz⟩ := dx_pair r
  exact ⟨_, gt_tup2 ec, by rw [wipe_set (by simp), wipe_set (by simp), wipe_wipe], ht x hx y z G1 e ry rz⟩
/-- .. over the results' truth -/
theorem ed_lcNb {wi : TI} {k : Nat} {xs : List α} {Rx : α → Rel} {f : α → Bool} (h : EI wi σ G (xs.map Rx)) (hz : xs.length ≤ 90000)
    (ht : ∀ x ∈ xs, ∀ v G1, Ex G G1 → (Rx x).r v G1 → ED te ((wipe σ [k]).set k (some v)) G1 (dt (.bool (f x)))) :
    ED (tLc wi (gName k) tYes te [k]) σ G (dt (.list ((xs.map f).map .bool))) := by
  rw [List.map_map]; exact ed_lcN1 h hz ht
theorem ed_lcPb {wi : TI} {k l : Nat} {xs : List α} {a b : α → PyData} {f : α → Bool} (h : EI wi σ G (xs.map fun x => dt (.tuple [a x, b x]))) (hz : xs.length ≤ 90000)
    (ht : ∀ x ∈ xs, ∀ y z G1, Ex G G1 → Dx G1 y (a x) → Dx G1 z (b x) → ED te (((wipe σ [k, l]).set k (some y)).set l (some z)) G1 (dt (.bool (f x)))) :
    ED (tLc wi (gTup K 2 (gCons (gName k) (gCons (gName l) gNil))) tYes te [k, l]) σ G (dt (.list ((xs.map f).map .bool))) := by
  rw [List.map_map]; exact ed_lcP1 h hz ht
theorem ed_allM {xs : List α} {f : α → Bool} (h : ED te σ G (dt (.list ((xs.map f).map .bool)))) : ED (tCB (rAll K) (tCons te tNil)) σ G (dt (.bool (xs.all f))) := (ed_all h).eq (by rw [List.all_map]; rfl)
theorem ed_anyM {xs : List α} {f : α → Bool} (h : ED te σ G (dt (.list ((xs.map f).map .bool)))) : ED (tCB (rAny K) (tCons te tNil)) σ G (dt (.bool (xs.any f))) := (ed_any h).eq (by rw [List.any_map]; rfl)
/-! ### is it in a dict -/
theorem ed_din (h1 : ED ty σ G (dt (kD ky))) (h2 : ED td σ G (dkR kvs)) : ED (tDIn ty td) σ G (dt (.bool (lookG kvs ky).isSome)) := fun H e Q q =>
  ed_two (P := True) h1 h2 H e fun x y G1 H1 s r1 r2 => by
    obtain ⟨a, ws, rfl, ea, hx⟩ := r2
    rw [kD_inv r1]
    refine ⟨a, _, rfl, DGet.k (s.i _ _ ea), ?_⟩
    rcases hx.look (k := ky) with ⟨z1, z2⟩ | ⟨v, d', hv, hd, _⟩
    · rw [z1] at q; rw [z2]; exact q _ G1 H1 s (.bl _)
    · rw [hd] at q; rw [hv]; exact q _ G1 H1 s (.bl _)
theorem ed_dnin (h1 : ED ty σ G (dt (kD ky))) (h2 : ED td σ G (dkR kvs)) : ED (tDNotIn ty td) σ G (dt (.bool (!(lookG kvs ky).isSome))) := fun H e Q q =>
  ed_two (P := True) h1 h2 H e fun x y G1 H1 s r1 r2 => by
    obtain ⟨a, ws, rfl, ea, hx⟩ := r2
    rw [kD_inv r1]
    refine ⟨a, _, rfl, DGet.k (s.i _ _ ea), ?_⟩
    rcases hx.look (k := ky) with ⟨z1, z2⟩ | ⟨v, d', hv, hd, _⟩
    · rw [z1] at q; rw [z2]; exact q _ G1 H1 s (.bl _)
    · rw [hd] at q; rw [hv]; exact q _ G1 H1 s (.bl _)
/-! ### dict(zip(a, b)) -/
theorem kd_vals : ∀ {ks : List Key} {vs : List V}, DxA G vs (ks.map kD) → vs = ks.map kV
  | [], _, .nil => rfl
  | k :: ks, _, .cons r t => by rw [kD_inv r, kd_vals t]; rfl
theorem kdx_zip : ∀ {ks : List Key} {vs : List V} {ds : List PyData}, DxA G vs ds → KDx G (ks.zip vs) (ks.zip ds)
  | [], _, _, _ => .nil
  | _ :: _, _, _, .nil => .nil
  | _ :: _, _, _, .cons r t => .cons ⟨rfl, r⟩ (kdx_zip t)
theorem ed_dictZipL {ks : List Key} (h1 : ED ta σ G (dt (.list (ks.map kD)))) (h2 : ED tb σ G (dt (.list ds))) (hl : ks.length = ds.length) : ED (tDictZip K (tCons ta (tCons tb tNil))) σ G (dkR (mergeG (ks.zip ds))) := fun H e Q q =>
  ed_two (P := True) h1 h2 H e fun x y G1 H1 s r1 r2 => by
    obtain ⟨a, xs, rfl, ea, hx⟩ := Dx.list_inv r1
    obtain ⟨b, ys, rfl, eb, hy⟩ := Dx.list_inv r2
    rw [kd_vals hx] at ea
    refine ⟨a, b, ks, ys, rfl, by rw [hy.length]; exact hl, .inl ⟨SqL.of (s.i _ _ ea), SqL.of (s.i _ _ eb)⟩, fun p hp => ?_⟩
    exact q _ _ _ (s.add hp) ⟨p, _, rfl, upd_same, (KDx.merge (kdx_zip hy) .nil).mono (Ex.new (ex_none s.i hp))⟩
theorem ed_dictZipT {ks : List Key} (h1 : ED ta σ G (dt (.tuple (ks.map kD)))) (h2 : ED tb σ G (dt (.tuple ds))) (hl : ks.length = ds.length) : ED (tDictZip K (tCons ta (tCons tb tNil))) σ G (dkR (mergeG (ks.zip ds))) := fun H e Q q =>
  ed_two (P := True) h1 h2 H e fun x y G1 H1 s r1 r2 => by
    obtain ⟨a, xs, rfl, ea, hx⟩ := Dx.tup_inv r1
    obtain ⟨b, ys, rfl, eb, hy⟩ := Dx.tup_inv r2
    rw [kd_vals hx] at ea
    refine ⟨a, b, ks, ys, rfl, by rw [hy.length]; exact hl, .inr ⟨SqT.of (s.i _ _ ea), SqT.of (s.i _ _ eb)⟩, fun p hp => ?_⟩
    exact q _ _ _ (s.add hp) ⟨p, _, rfl, upd_same, (KDx.merge (kdx_zip hy) .nil).mono (Ex.new (ex_none s.i hp))⟩
theorem ed_revT (h : ED te σ G (dt (.tuple [d, e]))) : ED (tRevT K te) σ G (dt (.tuple [e, d])) := fun H x Q q => h H x _ fun v G1 H1 s r => by
  obtain ⟨a, y, z, rfl, ea, ry, rz⟩ := dx_pair r
  refine ⟨a, y, z, rfl, SqT.of (s.i _ _ ea), fun p hp => q _ _ _ (s.add hp) (.tup upd_same ?_)⟩
  have m := Ex.new (o := HO.tup [z, y]) (ex_none s.i hp)
  exact .cons (Dx.mono m rz) (.cons (Dx.mono m ry) .nil)
theorem ed_revL (h : ED te σ G (dt (.list ds))) : ED (tRevL K te) σ G (dt (.list ds.reverse)) := fun H x Q q => h H x _ fun v G1 H1 s r => by
  obtain ⟨a, xs, rfl, ea, hx⟩ := Dx.list_inv r
  exact ⟨a, xs, rfl, SqL.of (s.i _ _ ea), fun p hp => q _ _ _ (s.add hp) (.lst upd_same (hx.reverse.mono (Ex.new (ex_none s.i hp))))⟩
end
end RT
end
section
set_option maxRecDepth 100000
set_option maxHeartbeats 4000000
/-! RTW1: words, numbers. -/
namespace RT
open PySem PySem.Spec PyProof.Rows L2
open Evl (Ex Ex.refl Ex.trans Ex.new Ex.mut)
/-! ### a value's type -/
inductive TyN (G : Hp) : V → String → Prop where
  | non : TyN G .non "NoneType"
  | bl (b : Bool) : TyN G (.bl b) "bool"
  | int (i : Int) : TyN G (.int i) "int"
  | str (x : Str) : TyN G (.str x) "str"
  | lst {a : Addr} {xs : List V} : G a = some (.lst xs) → TyN G (.ref a) "list"
  | tup {a : Addr} {xs : List V} : G a = some (.tup xs) → TyN G (.ref a) "tuple"
  | dK {a : Addr} {kvs : List (Key × V)} : G a = some (.dK kvs) → TyN G (.ref a) "dict"
theorem TyN.mono {G G' : Hp} {v : V} {T : String} (e : Ex G G') (h : TyN G v T) : TyN G' v T := by
  cases h with
  | non => exact .non
  | bl b => exact .bl b
  | int i => exact .int i
  | str x => exact .str x
  | lst h => exact .lst (e _ _ h)
  | tup h => exact .tup (e _ _ h)
  | dK h => exact .dK (e _ _ h)
theorem TyN.tyx {K : Fg} {G : Hp} {v : V} {T : String} (h : TyN G v T) : TyX K G v (.type T) := by
  cases h with
  | non => exact .base .non
  | bl b => exact .base (.bl b)
  | int i => exact .base (.int i)
  | str x => exact .base (.str x)
  | lst h => exact .base (.lst h)
  | tup h => exact .base (.tup h)
  | dK h => exact .base (.dK h)
def tyR (T : String) : Rel := ⟨fun v G => TyN G v T, fun e h => h.mono e⟩
def tyD : PyData → String
  | .none => "NoneType"
  | .bool _ => "bool"
  | .int _ => "int"
  | .str _ => "str"
  | .list _ => "list"
  | .tuple _ => "tuple"
  | .dict _ => "dict"
theorem Dx.ty {G : Hp} {v : V} {d : PyData} (h : Dx G v d) : TyN G v (tyD d) := by
  cases h with
  | non => exact .non
  | bl b => exact .bl b
  | int i => exact .int i
  | str x => exact .str x
  | lst h _ => exact .lst h
  | tup h _ => exact .tup h
theorem ED.imp {te : TE} {σ : L2.St} {G : Hp} {R R' : Rel} (h : ED te σ G R) (hr : ∀ v G', R.r v G' → R'.r v G') : ED te σ G R' := fun H e Q q => h H e Q fun v G' H' s r => q v G' H' s (hr v G' r)
theorem ed_ty {te : TE} {σ : L2.St} {G : Hp} {d : PyData} (h : ED te σ G (dt d)) : ED te σ G (tyR (tyD d)) := h.imp fun _ _ r => Dx.ty r
def TYS : List String := ["NoneType", "bool", "int", "str", "list", "tuple", "dict"]
def isT (T c : String) : Bool := T == c || (T == "bool" && c == "int")
theorem kit_all : ∀ T ∈ TYS, ∀ c ∈ ["int", "bool", "str", "list", "tuple"], kitB T c = some (isT T c) := by decide +kernel
theorem tyD_mem (d : PyData) : tyD d ∈ TYS := by cases d <;> simp [tyD, TYS]
section
variable {σ : L2.St} {G : Hp} {ta tb : TE} {K : Fg} {T c : String}
theorem ed_isi (h : ED ta σ G (tyR T)) (hT : T ∈ TYS) (hc : c ∈ ["int", "bool", "str", "list", "tuple"]) : ED (tCB (rIsiU K) (tCons ta (tCons (tC (.ty c)) tNil))) σ G (dt (.bool (isT T c))) := fun H e Q q =>
  h H e _ fun v G1 H1 s r => .inl ⟨v, .ty c, .type T, .type c, isT T c, rfl, .ty c, (TyN.mono s.i r).tyx, kit_ty (kit_all T hT c hc), q _ G1 H1 s (.bl _)⟩
/-- isinstance(x, (list, tuple)) -/
theorem ed_isi2 (h : ED ta σ G (tyR T)) (hT : T ∈ TYS) : ED (tCB (rIsiU K) (tCons ta (tCons (tTup (tCons (tC (.ty "list")) (tCons (tC (.ty "tuple")) tNil))) tNil))) σ G (dt (.bool (isT T "list" || isT T "tuple"))) := fun H e Q q =>
  h H e _ fun v G1 H1 s r => ⟨by show 2 ≤ sizeLine; decide, fun p hp => .inr ⟨v, p, [.ty "list", .ty "tuple"], .type T, [.type "list", .type "tuple"], isT T "list" || isT T "tuple", rfl, upd_same, .cons (.ty _) (.cons (.ty _) .nil), (TyN.mono (s.i.trans (Ex.new hp)) r).tyx,
    kitAny_cons (kit_ty (kit_all T hT "list" (by decide))) (fun e1 => kitAny_cons (kit_ty (kit_all T hT "tuple" (by decide))) (fun e2 => by rw [e1, e2] <;> rfl) (fun e2 => by rw [e2]; simp)) (fun e1 => by rw [e1]; rfl), q _ G1 _ (s.new hp) (.bl _)⟩⟩
end
section
variable {P : Program} {w : World} {K : Fg} {mg : Str → Option Value} {base : Heap}
theorem room0 {k : Nat} {A : Around} (hr : Room k A) : A.units < cLine ∧ A.units + 1 < cLine ∧ A.units + 64 < cLine ∧ A.units + 65 < cLine := by
  have := hr.un
  exact ⟨by omega, by omega, by omega, by omega⟩
theorem RAll.one {R : Rel} {vs : List V} {G : Hp} (h : RAll [R] vs G) : ∃ v, vs = [v] ∧ R.r v G := by
  cases h with | cons h1 t => cases t; exact ⟨_, rfl, h1⟩
theorem RAll.two {R S : Rel} {vs : List V} {G : Hp} (h : RAll [R, S] vs G) : ∃ v x, vs = [v, x] ∧ R.r v G ∧ S.r x G := by
  cases h with | cons h1 t => obtain ⟨x, rfl, h2⟩ := t.one; exact ⟨_, _, rfl, h1, h2⟩
theorem RAll.three {R S U : Rel} {vs : List V} {G : Hp} (h : RAll [R, S, U] vs G) : ∃ v x y, vs = [v, x, y] ∧ R.r v G ∧ S.r x G ∧ U.r y G := by
  cases h with | cons h1 t => obtain ⟨x, y, rfl, h2⟩ := t.two; exact ⟨_, _, _, rfl, h1, h2⟩
theorem RAll.four {R S U W : Rel} {vs : List V} {G : Hp} (h : RAll [R, S, U, W] vs G) : ∃ v x y z, vs = [v, x, y, z] ∧ R.r v G ∧ S.r x G ∧ U.r y G ∧ W.r z G := by
  cases h with | cons h1 t => obtain ⟨x, y, z, rfl, h2⟩ := t.three; exact ⟨_, _, _, _, rfl, h1, h2⟩
theorem c_is_whole (T : Txt K mg) : Callee P w K mg base CX0 1 "is_whole" ["value"] (FSp (fun t : String => t ∈ TYS) (fun t => [tyR t]) (fun t => dt (.bool (isT t "int" && !isT t "bool")))) := by
  refine callee T.d_is_whole sc_is_whole (fun _ _ _ _ _ _ us hl => match us, hl with | [_], _ => rfl) (fun _ => rfl) fun f cdv Ar outer s H0 E hr => ?_
  refine ⟨_, (pss_one (ps_ret (pe_and (pe_callB (call_isiU K) (by rfl) T.f_isinstance (by decide +kernel) (pa_cons (pv 0) (pa_cons (pe_bltn (v := .ty "int") (by rfl) T.f_int (by decide +kernel) rfl) pa_nil))) (pe_one (pe_not (pe_callB (call_isiU K) (by rfl) T.f_isinstance (by decide +kernel) (pa_cons (pv 0) (pa_cons (pe_bltn (v := .ty "bool") (by rfl) T.f_bool (by decide +kernel) rfl) pa_nil)))))))), fun a vs G H D hP hA e q => ?_⟩
  obtain ⟨v, rfl, h1⟩ := hA.one
  exact k_ret (ed_andV (ed_isi (ed_var (by rfl) h1) hP (by decide)) fun _ => ed_notV (ed_isi (ed_var (by rfl) h1) hP (by decide))) e q
theorem c_is_number (T : Txt K mg) : Callee P w K mg base CX0 2 "is_number" ["value", "low", "high"] (FSp (fun _ : Int × Int × Int => True) (fun a => [dt (.int a.1), dt (.int a.2.1), dt (.int a.2.2)]) (fun a => dt (.bool (decide (a.2.1 ≤ a.1) && decide (a.1 ≤ a.2.2))))) := by
  have c_is_whole := c_is_whole (P := P) (w := w) (base := base) T
  refine callee T.d_is_number sc_is_number (fun _ _ _ _ _ _ us hl => match us, hl with | [_, _, _], _ => rfl) (fun _ => rfl) fun f cdv Ar outer s H0 E hr => ?_
  refine ⟨_, (pss_one (ps_ret (pe_and (pe_cl c_is_whole hr pass0 (pa_cons (pv 0) pa_nil)) (pe_one (pe_chain op_le1 op_le1 (pv 1) (pv 0) (pv 2)))))), fun a vs G H D hP hA e q => ?_⟩
  obtain ⟨v, x, y, rfl, h1, h2, h3⟩ := hA.three
  exact k_ret (ed_andV (ed_call "int" (ea_cons (ed_ty (ed_var (by rfl) h1)) ea_nil) (by decide)) fun _ => ed_chainLe (ed_var (by rfl) h2) (ed_var (by rfl) h1) (ed_var (by rfl) h3)) e q
/-- whether a datum is a word -/
def wordS (s : Str) : Bool := decide (1 ≤ (s.length : Int)) && decide ((s.length : Int) ≤ 8) && s.cps.toList.all fun c => decide (c ∈ ("abcdefghijklmnopqrstuvwxyz" : Str).cps.toList)
def wordD : PyData → Bool
  | .str s => wordS s
  | _ => false
theorem c_is_word (T : Txt K mg) : Callee P w K mg base CX0 1 "is_word" ["value"] (FSp (fun d : PyData => ∀ s, d = .str s → s.length ≤ 80000) (fun d => [dt d]) (fun d => dt (.bool (wordD d)))) := by
  refine callee T.d_is_word sc_is_word (fun _ _ _ _ _ _ us hl => match us, hl with | [_], _ => rfl) (fun _ => rfl) fun f cdv Ar outer s H0 E hr => ?_
  obtain ⟨hu0, hu, hu64, hu65⟩ := room0 hr
  refine ⟨_, (pss_cons (ps_if (PW.pt (pw_or (pt_not (pt_truthK K (pe_callB (call_isiU K) (by rfl) T.f_isinstance (by decide +kernel) (pa_cons (pv 0) (pa_cons (pe_bltn (v := .ty "str") (by rfl) T.f_str (by decide +kernel) rfl) pa_nil))))) (pw_or1 (pt_not (pt_chain op_le1 op_le1 pe_int (pe_callB (call_lenU K) (by rfl) T.f_len (by decide +kernel) (pa_cons (pv 0) pa_nil)) (pe_gint (by rfl) T.g_MOST_LETTERS)))))) (pss_one (ps_ret pe_bl)) pss_nil) (pss_one (ps_ret (pe_callB (call_allU K) (by rfl) T.f_all (by decide +kernel) (pa_cons (pe_lc (own := [("sign", 1)]) rfl sc_is_word.nd (pi_str (pv 0)) (blkOk_by (own := [("sign", 1)]) (N := N_is_word) (sc := defScope s_is_word) (by decide +kernel)) (fun _ _ _ _ _ => (pg_name (i := 1) sc_is_word.nd rfl (Or.inl rfl))) (fun _ _ _ _ _ => pts_nil) (fun _ _ _ _ _ => (pe_cmpR (op_inU K hu65) (pv 1) (pe_gstr (by rfl) T.g_LETTERS) (by rfl)))) pa_nil))))), fun a vs G H D hP hA e q => ?_⟩
  obtain ⟨v, rfl, h1⟩ := hA.one
  have isi : ED (tCB (rIsiU K) (tCons (tVar 0) (tCons (tC (.ty "str")) tNil))) (L2.start N_is_word [v]) G (dt (.bool (isT (tyD a) "str"))) := ed_isi (ed_ty (ed_var (by rfl) h1)) (tyD_mem a) (by decide)
  cases a with
  | str x =>
    have hx : x.length ≤ 80000 := hP x rfl
    refine k_seq (k_if (b := !(decide (1 ≤ (x.length : Int)) && decide ((x.length : Int) ≤ 8))) ((et_or (et_not (et_tb isi)) fun _ => et_not (et_test (ed_chainLe ed_int (ed_lenS (ed_var (by rfl) h1) (by omega)) ed_int))).eq (by simp [isT, tyD])) e (fun hb G1 H1 s1 => ?_) fun hb G1 H1 s1 => ?_)
    · refine k_ret (R := dt (.bool false)) ed_bl s1.i fun v G2 H2 s2 r => q v G2 H2 (s1.trans s2) ?_
      have : wordD (.str x) = false := by simp only [wordD, wordS]; simp only [Bool.not_eq_true'] at hb; rw [hb]; rfl
      rw [this]; exact r
    · refine k_ret (R := dt (.bool (x.cps.toList.all fun c => decide (c ∈ ("abcdefghijklmnopqrstuvwxyz" : Str).cps.toList)))) (ed_allM (ed_lcNb (ei_str ((ed_var (by rfl) h1).mono s1.g)) (by simpa [Str.length] using Nat.le_trans hx (by decide)) fun c _ v G2 g2 rv => ed_inS (ed_var (by rfl) rv) ed_str)) s1.i fun v G2 H2 s2 r => q v G2 H2 (s1.trans s2) ?_
      have : wordD (.str x) = x.cps.toList.all fun c => decide (c ∈ ("abcdefghijklmnopqrstuvwxyz" : Str).cps.toList) := by simp only [wordD, wordS]; simp only [Bool.not_eq_false'] at hb; rw [hb]; rfl
      rw [this]; exact r
  | _ =>
    refine k_seq (k_if (b := true) ((et_or (et_not (et_tb isi)) fun z => by simp [isT, tyD] at z).eq (b := _ || true) (by simp [isT, tyD])) e (fun _ G1 H1 s1 => k_ret ed_bl s1.i fun v G2 H2 s2 r => q v G2 H2 (s1.trans s2) r) fun z => by cases z)
theorem c_is_row (T : Txt K mg) : Callee P w K mg base CX0 1 "is_row" ["value"] (FSp (fun t : String => t ∈ TYS) (fun t => [tyR t]) (fun t => dt (.bool (isT t "list" || isT t "tuple")))) := by
  refine callee T.d_is_row sc_is_row (fun _ _ _ _ _ _ us hl => match us, hl with | [_], _ => rfl) (fun _ => rfl) fun f cdv Ar outer s H0 E hr => ?_
  refine ⟨_, (pss_one (ps_ret (pe_callB (call_isiU K) (by rfl) T.f_isinstance (by decide +kernel) (pa_cons (pv 0) (pa_cons (pe_tup (pa_cons (pe_bltn (v := .ty "list") (by rfl) T.f_list (by decide +kernel) rfl) (pa_cons (pe_bltn (v := .ty "tuple") (by rfl) T.f_tuple (by decide +kernel) rfl) pa_nil))) pa_nil))))), fun a vs G H D hP hA e q => ?_⟩
  obtain ⟨v, rfl, h1⟩ := hA.one
  exact k_ret (ed_isi2 (ed_var (by rfl) h1) hP) e q
theorem nodup_map {α β : Type} {f : α → β} (hf : ∀ a b, f a = f b → a = b) {l : List α} : (l.map f).Nodup ↔ l.Nodup := by
  unfold List.Nodup
  rw [List.pairwise_map]
  exact ⟨fun h => h.imp fun n z => n (congrArg f z), fun h => h.imp fun n z => n (hf _ _ z)⟩
theorem merge_nodup {α β κ : Type} [DecidableEq κ] {f : α → κ} (hf : ∀ a b, f a = f b → a = b) (g : α → β) (l : List α) : (mergeG (l.map fun x => (f x, g x))).length = l.length ↔ l.Nodup := by
  have h1 : l.length = (l.map fun x => (f x, g x)).length := by simp
  rw [h1, mergeG_len, List.map_map]
  exact nodup_map hf
theorem pairs_keys {G H1 : Hp} (e1 : Ex G H1) : ∀ {ps : List (Str × Str)} {xs : List V}, DxA G xs (ps.map fun p => .tuple [.str p.1, .str p.2]) → Paired (fun x k => ∃ b, x = V.ref b ∧ H1 b = some (HO.tup (List.map kV k))) xs (ps.map fun p => ([Sum.inr p.1, Sum.inr p.2] : List Key))
  | [], _, .nil => .nil
  | p :: r, _, .cons hp ht => by
    obtain ⟨b, y, z, rfl, eb, ry, rz⟩ := dx_pair hp
    cases Dx.str_inv ry
    cases Dx.str_inv rz
    exact .cons ⟨b, rfl, e1 _ _ eb⟩ (pairs_keys e1 ht)
/-- what are_unlike is asked of -/
inductive UA where
  | sl (ss : List Str) | st (ss : List Str) | il (ns : List Int) | pl (ps : List (Str × Str))
def UA.d : UA → PyData
  | .sl ss => .list (ss.map .str)
  | .st ss => .tuple (ss.map .str)
  | .il ns => .list (ns.map .int)
  | .pl ps => .list (ps.map fun p => .tuple [.str p.1, .str p.2])
def UA.len : UA → Nat
  | .sl ss => ss.length
  | .st ss => ss.length
  | .il ns => ns.length
  | .pl ps => ps.length
def UA.ok : UA → Bool
  | .sl ss => decide ss.Nodup
  | .st ss => decide ss.Nodup
  | .il ns => decide ns.Nodup
  | .pl ps => decide ps.Nodup
theorem c_are_unlike (T : Txt K mg) : Callee P w K mg base CX0 1 "are_unlike" ["some"] (FSp (fun a : UA => a.len ≤ 80000) (fun a => [dt a.d]) (fun a => dt (.bool a.ok))) := by
  refine callee_sp T.d_are_unlike sc_are_unlike (fun _ _ _ _ _ _ us hl => match us, hl with | [_], _ => rfl) (fun vs H Q E h => by obtain ⟨a, G, _, _, h2, _⟩ := h; exact h2.length) fun f cdv Ar outer s H vs Q E hr h => ?_
  obtain ⟨hu0, hu, hu64, hu65⟩ := room0 hr
  obtain ⟨a, G, hP, e, hA, q⟩ := h
  obtain ⟨v, rfl, h1⟩ := hA.one
  have fin : ∀ {te : TE} {n m : Nat}, ED te (L2.start N_are_unlike [v]) G (dt (.int n)) → ED (tCB (rLenU K) (tCons (tVar 0) tNil)) (L2.start N_are_unlike [v]) G (dt (.int m)) → (n = m ↔ a.ok = true) →
      tRet (tOp (rEqD K) te (tCB (rLenU K) (tCons (tVar 0) tNil))) { nx := fun _ H' => Q .non H', rt := Q } (L2.start N_are_unlike [v]) H := fun {te n m} h1 h2 hn =>
    k_ret (ed_eq h1 h2 (by rfl) (by rfl)) e fun v G' H' s r => q v G' H' s (by
      have : PyData.eqv (.int n) (.int m) = a.ok := by
        by_cases z : n = m
        · rw [hn.mp z, z]; simp [PyData.eqv]
        · have : a.ok = false := by
            cases h : a.ok with
            | true => exact absurd (hn.mpr h) z
            | false => rfl
          rw [this]; simp [PyData.eqv]; omega
      rw [this] at r; exact r)
  cases a with
  | sl ss =>
    refine ⟨_, (pss_one (ps_ret (pe_cmpR (op_eqK K hu64) (pe_callB (call_lenU K) (by rfl) T.f_len (by decide +kernel) (pa_cons (pe_dc (own := [("one", 1)]) rfl sc_are_unlike.nd (pi_listK K (pv 0)) (blkOk_by (own := [("one", 1)]) (N := N_are_unlike) (sc := defScope s_are_unlike) (by decide +kernel)) (fun _ _ _ _ _ => (pg_name (i := 1) sc_are_unlike.nd rfl (Or.inl rfl))) (fun _ _ _ _ _ => pts_nil) (fun _ _ _ _ _ => (pv 1)) (fun _ _ _ _ _ => pe_bl)) pa_nil)) (pe_callB (call_lenU K) (by rfl) T.f_len (by decide +kernel) (pa_cons (pv 0) pa_nil)) (nomark _)))), fin (ed_lenD (ed_dc (Rx := fun x => dt (.str x)) (fk := fun x => Sum.inr x) (fv := fun _ => .bool true) (ei_listM (ed_var (by rfl) h1)) (Nat.le_trans hP (by decide)) fun x _ v G1 e1 r => ⟨_, gt_name, by rw [wipe_set (by simp), wipe_wipe], ed_var (by rfl) r, ed_bl⟩)) (ed_lenL (ed_var (by rfl) h1)) ?_⟩
    rw [List.length_map]
    exact (merge_nodup (fun _ _ z => by cases z; rfl) _ ss).trans (by simp [UA.ok])
  | st ss =>
    refine ⟨_, (pss_one (ps_ret (pe_cmpR (op_eqK K hu64) (pe_callB (call_lenU K) (by rfl) T.f_len (by decide +kernel) (pa_cons (pe_dc (own := [("one", 1)]) rfl sc_are_unlike.nd (pi_tupK K (pv 0)) (blkOk_by (own := [("one", 1)]) (N := N_are_unlike) (sc := defScope s_are_unlike) (by decide +kernel)) (fun _ _ _ _ _ => (pg_name (i := 1) sc_are_unlike.nd rfl (Or.inl rfl))) (fun _ _ _ _ _ => pts_nil) (fun _ _ _ _ _ => (pv 1)) (fun _ _ _ _ _ => pe_bl)) pa_nil)) (pe_callB (call_lenU K) (by rfl) T.f_len (by decide +kernel) (pa_cons (pv 0) pa_nil)) (nomark _)))), fin (ed_lenD (ed_dc (Rx := fun x => dt (.str x)) (fk := fun x => Sum.inr x) (fv := fun _ => .bool true) (ei_tupM (ed_var (by rfl) h1)) (Nat.le_trans hP (by decide)) fun x _ v G1 e1 r => ⟨_, gt_name, by rw [wipe_set (by simp), wipe_wipe], ed_var (by rfl) r, ed_bl⟩)) (ed_lenT (ed_var (by rfl) h1)) ?_⟩
    rw [List.length_map]
    exact (merge_nodup (fun _ _ z => by cases z; rfl) _ ss).trans (by simp [UA.ok])
  | il ns =>
    refine ⟨_, (pss_one (ps_ret (pe_cmpR (op_eqK K hu64) (pe_callB (call_lenU K) (by rfl) T.f_len (by decide +kernel) (pa_cons (pe_dc (own := [("one", 1)]) rfl sc_are_unlike.nd (pi_listK K (pv 0)) (blkOk_by (own := [("one", 1)]) (N := N_are_unlike) (sc := defScope s_are_unlike) (by decide +kernel)) (fun _ _ _ _ _ => (pg_name (i := 1) sc_are_unlike.nd rfl (Or.inl rfl))) (fun _ _ _ _ _ => pts_nil) (fun _ _ _ _ _ => (pv 1)) (fun _ _ _ _ _ => pe_bl)) pa_nil)) (pe_callB (call_lenU K) (by rfl) T.f_len (by decide +kernel) (pa_cons (pv 0) pa_nil)) (nomark _)))), fin (ed_lenD (ed_dc (Rx := fun x => dt (.int x)) (fk := fun x => Sum.inl x) (fv := fun _ => .bool true) (ei_listM (ed_var (by rfl) h1)) (Nat.le_trans hP (by decide)) fun x _ v G1 e1 r => ⟨_, gt_name, by rw [wipe_set (by simp), wipe_wipe], ed_var (by rfl) r, ed_bl⟩)) (ed_lenL (ed_var (by rfl) h1)) ?_⟩
    rw [List.length_map]
    exact (merge_nodup (fun _ _ z => by cases z; rfl) _ ns).trans (by simp [UA.ok])
  | pl ps =>
    refine ⟨_, (pss_one (ps_ret (pe_cmpR (op_eqK K hu64) (pe_callB call_len_dT (by rfl) T.f_len (by decide +kernel) (pa_cons (pe_dcT K hu0 rfl (pv 0) (by decide +kernel) (by decide +kernel) (by decide +kernel) (by decide +kernel) (by decide +kernel) (fun _ => rfl) (by decide)) pa_nil)) (pe_callB (call_lenU K) (by rfl) T.f_len (by decide +kernel) (pa_cons (pv 0) pa_nil)) (nomark _)))), fin (n := (putT (ps.map fun p => [Sum.inr p.1, Sum.inr p.2])).length) ?_ (ed_lenL (ed_var (by rfl) h1)) ?_⟩
    · intro H1 e1 Q1 q1
      obtain ⟨a, xs, rfl, ea, hx⟩ := Dx.list_inv h1
      refine ⟨_, rfl, a, xs, _, rfl, SqL.of (e1 _ _ ea), ?_, fun D hD => ⟨D, _, rfl, upd_same, q1 _ _ _ ((Step.refl e1).new hD) (.int _)⟩⟩
      exact pairs_keys e1 hx
    · have e0 : putT (ps.map fun p => [Sum.inr p.1, Sum.inr p.2]) = mergeG (ps.map fun p => (([Sum.inr p.1, Sum.inr p.2] : List Key), V.bl true)) := by
        unfold putT mergeG
        rw [List.foldl_map, List.foldl_map]
        rfl
      rw [e0, List.length_map]
      exact (merge_nodup (fun a b z => by obtain ⟨a1, a2⟩ := a; obtain ⟨b1, b2⟩ := b; cases z; rfl) _ ps).trans (by simp [UA.ok])
end
end RT
end
section
set_option maxRecDepth 100000
set_option maxHeartbeats 2000000
/-! RTBk: books as plain things; their data. -/
namespace RT
open PySem PySem.Spec PyProof.Rows L2
inductive WK where
  | all | any | count
  deriving DecidableEq
structure Wt where
  kind : WK
  who : Nat
  some : List Nat
  many : Nat
structure Bk where
  rows : List (Str × Nat)
  pts : Nat
  needs : List (Nat × Nat)
  wants : List Wt
  bars : List (Nat × Nat)
  gives : List (Nat × Nat)
  prices : List (Nat × Nat)
  reset : Option Nat
namespace Bk
variable (b : Bk)
def nms : List Str := b.rows.map (·.1)
def n : Nat := b.rows.length
def nm (i : Nat) : Str := (b.rows[i]?.map (·.1)).getD ⟨#[]⟩
def tier (i : Nat) : Nat := (b.rows[i]?.map (·.2)).getD 0
end Bk
structure WOk (n : Nat) (w : Wt) : Prop where
  who : w.who < n
  ne : w.some ≠ []
  nd : w.some.Nodup
  lt : ∀ j ∈ w.some, j < n ∧ j ≠ w.who
  len : w.some.length ≤ 5
  cnt : w.kind = .count → 1 ≤ w.many ∧ w.many ≤ w.some.length
structure BOk (b : Bk) : Prop where
  n1 : 1 ≤ b.rows.length
  n5 : b.rows.length ≤ 5
  wd : ∀ r ∈ b.rows, wordS r.1 = true
  nd : (b.rows.map (·.1)).Nodup
  tr : ∀ r ∈ b.rows, 1 ≤ r.2 ∧ r.2 ≤ 4
  ts : (b.rows.map (·.2)).Pairwise (· ≤ ·)
  pt : b.pts ≤ 12
  nl : b.needs.length ≤ 3
  no : ∀ p ∈ b.needs, 2 ≤ p.1 ∧ p.1 ≤ 4 ∧ p.2 ≤ 12
  nsd : (b.needs.map (·.1)).Pairwise (· < ·)
  wl : b.wants.length ≤ 12
  wo : ∀ w ∈ b.wants, WOk b.n w
  bl : b.bars.length ≤ 6
  bo : ∀ p ∈ b.bars, p.1 < b.n ∧ p.2 < b.n ∧ p.1 ≠ p.2
  bu : b.bars.Pairwise fun p q => p ≠ q ∧ p ≠ (q.2, q.1)
  gl : b.gives.length ≤ 12
  go : ∀ p ∈ b.gives, p.1 < b.n ∧ 1 ≤ p.2 ∧ p.2 ≤ 3
  gn : (b.gives.map (·.1)).Nodup
  pl : b.prices.length ≤ 12
  po : ∀ p ∈ b.prices, p.1 < b.n ∧ p.2 ≤ 99
  pn : (b.prices.map (·.1)).Nodup
  rs : ∀ r, b.reset = some r → r ≤ 99
/-! ### data -/
def kS : WK → Str
  | .all => "all"
  | .any => "any"
  | .count => "count"
def dSkills (b : Bk) : List PyData := b.rows.map fun p => .tuple [.str p.1, .int p.2]
def dNeeds (b : Bk) : List PyData := b.needs.map fun p => .tuple [.int p.1, .int p.2]
def dWant (b : Bk) (w : Wt) : PyData := .tuple ([.str (kS w.kind), .str (b.nm w.who), .tuple ((w.some.map b.nm).map .str)] ++ if w.kind = .count then [.int w.many] else [])
def dWants (b : Bk) : List PyData := b.wants.map (dWant b)
def dBars (b : Bk) : List PyData := b.bars.map fun p => .tuple [.str (b.nm p.1), .str (b.nm p.2)]
def dNum (b : Bk) (l : List (Nat × Nat)) : List PyData := l.map fun p => .tuple [.str (b.nm p.1), .int p.2]
def dReset (b : Bk) : PyData := match b.reset with
  | none => .none
  | some r => .int r
def dNames (b : Bk) : List PyData := b.nms.map .str
section
variable {b : Bk}
theorem nm_get {i : Nat} (h : i < b.n) : b.nms[i]? = some (b.nm i) := by
  unfold Bk.nms Bk.nm
  rw [List.getElem?_map, List.getElem?_eq_getElem (show i < b.rows.length from h)]
  rfl
theorem nms_len : b.nms.length = b.n := by simp [Bk.nms, Bk.n]
theorem nm_mem {i : Nat} (h : i < b.n) : b.nm i ∈ b.nms := List.mem_of_getElem? (nm_get h)
theorem nm_inj (ok : BOk b) {i j : Nat} (hi : i < b.n) (hj : j < b.n) (e : b.nm i = b.nm j) : i = j := by
  have h1 := nm_get hi
  have h2 := nm_get hj
  rw [e] at h1
  have nd : b.nms.Nodup := ok.nd
  have := (List.getElem?_inj (show i < b.nms.length by rw [nms_len]; exact hi) nd).mp (h1.trans h2.symm)
  exact this
theorem row_get {i : Nat} (h : i < b.n) : b.rows[i]? = some (b.nm i, b.tier i) := by
  unfold Bk.nm Bk.tier
  rw [List.getElem?_eq_getElem (show i < b.rows.length from h)]
  rfl
theorem rows_eq : b.rows = (List.range b.n).map fun i => (b.nm i, b.tier i) := by
  apply List.ext_getElem?
  intro i
  rw [List.getElem?_map]
  by_cases h : i < b.n
  · rw [row_get h, List.getElem?_range h]; rfl
  · rw [List.getElem?_eq_none (Nat.le_of_not_lt h), List.getElem?_eq_none (by simpa using Nat.le_of_not_lt h)]; rfl
theorem nms_eq : b.nms = (List.range b.n).map b.nm := by
  unfold Bk.nms
  rw [rows_eq (b := b), List.map_map]
  apply List.map_congr_left
  intro i hi
  simp [Function.comp]
theorem nm_word (ok : BOk b) {i : Nat} (h : i < b.n) : wordS (b.nm i) = true := ok.wd _ (List.mem_of_getElem? (row_get h))
theorem word_len {s : Str} (h : wordS s = true) : s.length ≤ 8 := by
  unfold wordS at h
  simp only [Bool.and_eq_true, decide_eq_true_eq] at h
  omega
end
/-! ### two texts sorted -/
theorem ltCps_tri : ∀ a b : List Nat, ltCps a b = false → ltCps b a = false → a = b
  | [], [], _, _ => rfl
  | [], _ :: _, h, _ => by simp [ltCps] at h
  | _ :: _, [], _, h => by simp [ltCps] at h
  | x :: a, y :: b, h1, h2 => by
    simp only [ltCps] at h1 h2
    by_cases e : x = y
    · subst e
      simp at h1 h2
      rw [ltCps_tri a b h1 h2]
    · exfalso
      rcases Nat.lt_or_gt_of_ne e with z | z
      · simp [z] at h1
      · simp [z] at h2
theorem str_ext {a b : Str} (h : a.cps.toList = b.cps.toList) : a = b := by
  cases a; cases b; simp at h; simp [h]
def srt2 (a b : Str) : Str × Str := if sortedS [a, b] = true then (a, b) else (b, a)
theorem srt2_of {a b : Str} {l : List Str} (p : l.Perm [a, b]) (s : sortedS l = true) : l = [(srt2 a b).1, (srt2 a b).2] := by
  have hl : l = [a, b] ∨ l = [b, a] := by
    match l, p.length_eq with
    | [x, y], _ =>
      have hx : x ∈ [a, b] := p.subset (by simp)
      rcases List.mem_cons.mp hx with e | e
      · subst e
        have := (List.perm_cons x).mp p
        left; rw [List.perm_singleton.mp this]
      · have e : x = b := by simpa using e
        subst e
        have := (p.trans (List.Perm.swap x a [])).cons_inv
        right; rw [List.perm_singleton.mp this]
  unfold srt2
  rcases hl with e | e
  · subst e; rw [if_pos s]
  · subst e
    by_cases h : sortedS [a, b] = true
    · rw [if_pos h]
      have : a = b := by
        apply str_ext
        simp [sortedS, risingS] at s h
        exact ltCps_tri _ _ s h
      rw [this]
    · rw [if_neg h]
theorem srt2_cases (a b : Str) : srt2 a b = (a, b) ∨ srt2 a b = (b, a) := by
  unfold srt2; split
  · exact .inl rfl
  · exact .inr rfl
end RT
end
section
set_option maxRecDepth 100000
set_option maxHeartbeats 4000000
/-! RTW2: what is looked at before a book is made. -/
namespace RT
open PySem PySem.Spec PyProof.Rows L2
open Evl (Ex Ex.refl Ex.trans Ex.new Ex.mut)
mutual
theorem eqv_self : ∀ d : PyData, d.canLay0 = true → PyData.eqv d d = true
  | .none, _ => rfl
  | .bool b, _ => by simp [PyData.eqv]
  | .int i, _ => by simp [PyData.eqv]
  | .str x, _ => by simp [PyData.eqv]
  | .list xs, h => by rw [PyData.eqv]; exact eqv_selfs xs (by simpa [PyData.canLay0] using h)
  | .tuple xs, h => by rw [PyData.eqv]; exact eqv_selfs xs (by simpa [PyData.canLay0] using h)
  | .dict _, h => by simp [PyData.canLay0] at h
theorem eqv_selfs : ∀ ds : List PyData, PyData.canLayAll0 ds = true → PyData.eqvAll ds ds = true
  | [], _ => rfl
  | d :: ds, h => by
    rw [PyData.canLayAll0, Bool.and_eq_true] at h
    rw [PyData.eqvAll, eqv_self d h.1, eqv_selfs ds h.2]; rfl
end
/-- data without dicts, not deep -/
def Sh (k : Nat) (d : PyData) : Prop := d.canLay0 = true ∧ d.depth ≤ k
theorem Sh.shaped {k : Nat} {d : PyData} (h : Sh k d) (hk : k ≤ 64 := by decide) : SeqAt.shaped d = true := by
  unfold SeqAt.shaped
  rw [h.1, decide_eq_true (Nat.le_trans h.2 hk)]; rfl
theorem Sh.int {i : Int} : Sh 0 (.int i) := ⟨rfl, Nat.le_refl _⟩
theorem Sh.non : Sh 0 .none := ⟨rfl, Nat.le_refl _⟩
theorem Sh.mono {k l : Nat} {d : PyData} (h : Sh k d) (hk : k ≤ l) : Sh l d := ⟨h.1, Nat.le_trans h.2 hk⟩
theorem sh_all {k : Nat} : ∀ {ds : List PyData}, (∀ d ∈ ds, Sh k d) → PyData.canLayAll0 ds = true ∧ PyData.depthAll ds ≤ k
  | [], _ => ⟨rfl, Nat.zero_le _⟩
  | d :: ds, h => by
    obtain ⟨h1, h2⟩ := h d List.mem_cons_self
    obtain ⟨h3, h4⟩ := sh_all fun d' hd => h d' (List.mem_cons_of_mem _ hd)
    exact ⟨by rw [PyData.canLayAll0, h1, h3]; rfl, by rw [PyData.depthAll]; exact Nat.max_le.mpr ⟨h2, h4⟩⟩
theorem Sh.list {k : Nat} {ds : List PyData} (h : ∀ d ∈ ds, Sh k d) : Sh (k + 1) (.list ds) := ⟨by rw [PyData.canLay0]; exact (sh_all h).1, by rw [PyData.depth]; exact Nat.succ_le_succ (sh_all h).2⟩
theorem Sh.tuple {k : Nat} {ds : List PyData} (h : ∀ d ∈ ds, Sh k d) : Sh (k + 1) (.tuple ds) := ⟨by rw [PyData.canLay0]; exact (sh_all h).1, by rw [PyData.depth]; exact Nat.succ_le_succ (sh_all h).2⟩
theorem Sh.ints {ns : List Int} : Sh 1 (.list (ns.map .int)) := .list fun d hd => by
  obtain ⟨i, _, rfl⟩ := List.mem_map.mp hd
  exact .int
theorem Sh.word {s : Str} (h : wordS s = true) : Sh 0 (.str s) := ⟨by
  unfold wordS at h
  simp only [Bool.and_eq_true, List.all_eq_true, decide_eq_true_eq] at h
  have h3 := h.2
  show s.cps.all (· < 0x110000) = true
  rw [← Array.all_toList, List.all_eq_true]
  intro c hc
  have hm : ∀ c ∈ ("abcdefghijklmnopqrstuvwxyz" : Str).cps.toList, c < 0x110000 := by decide +kernel
  exact decide_eq_true (hm c (h3 c hc)), Nat.le_refl _⟩
theorem eqv_ints : ∀ ns ms : List Int, PyData.eqvAll (ns.map .int) (ms.map .int) = decide (ns = ms)
  | [], [] => rfl
  | [], _ :: _ => rfl
  | _ :: _, [] => rfl
  | n :: ns, m :: ms => by
    rw [List.map_cons, List.map_cons, PyData.eqvAll, eqv_ints ns ms, PyData.eqv]
    by_cases h : n = m <;> by_cases h2 : ns = ms <;> simp [h, h2]
theorem eqv_strs : ∀ ns ms : List Str, PyData.eqvAll (ns.map .str) (ms.map .str) = decide (ns = ms)
  | [], [] => rfl
  | [], _ :: _ => rfl
  | _ :: _, [] => rfl
  | n :: ns, m :: ms => by
    rw [List.map_cons, List.map_cons, PyData.eqvAll, eqv_strs ns ms, PyData.eqv]
    by_cases h : n = m <;> by_cases h2 : ns = ms <;> simp [h, h2]
theorem eqv_str (x y : Str) : PyData.eqv (.str x) (.str y) = decide (x = y) := by
  rw [PyData.eqv]; by_cases h : x = y <;> simp [h]
theorem eqv_int (x y : Int) : PyData.eqv (.int x) (.int y) = decide (x = y) := by
  rw [PyData.eqv]; by_cases h : x = y <;> simp [h]
/-- sorted ints that were sorted are the same -/
theorem sorted_same {l m : List Int} (p : l.Perm m) (h1 : l.Pairwise (· ≤ ·)) (h2 : m.Pairwise (· ≤ ·)) : l = m :=
  p.eq_of_pairwise (fun a b _ _ h k => Int.le_antisymm h k) h1 h2
section
variable {σ : L2.St} {G H : Hp} {D : Ends} {t : TT} {ts : TS}
/-- a test that says no -/
theorem k_noS {tw : TS} (h : ET t σ G false) (e : Ex G H) (q : ∀ G' H', Step G H G' H' → tw D σ H') : tSeq (tIfS t ts tNext) tw D σ H := k_if (D := { D with nx := tw D }) h e (fun z => by cases z) fun _ G1 H1 s => q G1 H1 s
theorem k_asgS {tw : TS} {te : TE} {R : Rel} {k : Nat} (h : ED te σ G R) (e : Ex G H) (q : ∀ v G' H', Step G H G' H' → R.r v G' → tw D (σ.set k (some v)) H') : tSeq (tAsg te (gName k)) tw D σ H := k_asg (D := { D with nx := tw D }) h e q
/-- if a test says yes, a value is returned -/
theorem k_retS {tw : TS} {te : TE} {R : Rel} {b : Bool} (h : ET t σ G b) (e : Ex G H) (h1 : b = true → ED te σ G R) (q1 : b = true → ∀ v G' H', Step G H G' H' → R.r v G' → D.rt v H') (q2 : b = false → ∀ G' H', Step G H G' H' → tw D σ H') : tSeq (tIfS t (tRet te) tNext) tw D σ H :=
  k_if (D := { D with nx := tw D }) h e (fun z G1 H1 s => k_ret (D := { D with nx := tw D }) ((h1 z).mono s.g) s.i fun v G2 H2 s2 r => q1 z v G2 H2 (s.trans s2) r) fun z G1 H1 s => q2 z G1 H1 s
theorem k_no (h : ET t σ G false) (e : Ex G H) (q : ∀ G' H', Step G H G' H' → D.nx σ H') : tIfS t ts tNext D σ H := k_if h e (fun z => by cases z) fun _ G1 H1 s => q G1 H1 s
end
theorem all_true {α : Type} {xs : List α} {f : α → Bool} (h : ∀ x ∈ xs, f x = true) : xs.all f = true := List.all_eq_true.mpr h
theorem le_dec {i j k : Int} (h : i ≤ j) (h2 : j ≤ k) : (decide (i ≤ j) && decide (j ≤ k)) = true := by simp [h, h2]
section
variable {P : Program} {w : World} {K : Fg} {mg : Str → Option Value} {base : Heap}
theorem c_are_tuples (T : Txt K mg) : Callee P w K mg base CX0 2 "are_tuples" ["value", "size", "most"] (FSp (fun a : List (List PyData) × Nat × Nat => a.1.length ≤ 80000) (fun a => [dt (.list (a.1.map .tuple)), dt (.int a.2.1), dt (.int a.2.2)]) (fun a => dt (.bool (decide (a.1.length ≤ a.2.2) && a.1.all fun x => decide (x.length = a.2.1))))) := by
  have c_is_row := c_is_row (P := P) (w := w) (base := base) T
  refine callee T.d_are_tuples sc_are_tuples (fun _ _ _ _ _ _ us hl => match us, hl with | [_, _, _], _ => rfl) (fun _ => rfl) fun f cdv Ar outer s H0 E hr => ?_
  obtain ⟨hu0, hu, hu64, hu65⟩ := room0 hr
  refine ⟨_, (pss_cons (ps_if (PW.pt (pw_or (pt_not (pt_truthK K (pe_cl c_is_row hr pass0 (pa_cons (pv 0) pa_nil)))) (pw_or1 (pt_cmpR op_gt1 (pe_callB (call_lenU K) (by rfl) T.f_len (by decide +kernel) (pa_cons (pv 0) pa_nil)) (pv 2) (nomark _))))) (pss_one (ps_ret pe_bl)) pss_nil) (pss_one (ps_ret (pe_callB (call_allU K) (by rfl) T.f_all (by decide +kernel) (pa_cons (pe_lc (own := [("one", 3)]) rfl sc_are_tuples.nd (pi_listK K (pv 0)) (blkOk_by (own := [("one", 3)]) (N := N_are_tuples) (sc := defScope s_are_tuples) (by decide +kernel)) (fun _ _ _ _ _ => (pg_name (i := 3) sc_are_tuples.nd rfl (Or.inl rfl))) (fun _ _ _ _ _ => pts_nil) (fun _ _ _ _ _ => (pe_and (pe_callB (call_isiU K) (by rfl) T.f_isinstance (by decide +kernel) (pa_cons (pv 3) (pa_cons (pe_bltn (v := .ty "tuple") (by rfl) T.f_tuple (by decide +kernel) rfl) pa_nil))) (pe_one (pe_cmpR (op_eqK K hu64) (pe_callB (call_lenU K) (by rfl) T.f_len (by decide +kernel) (pa_cons (pv 3) pa_nil)) (pv 1) (nomark _)))))) pa_nil))))), fun a vs G H D hP hA e q => ?_⟩
  obtain ⟨v, x, y, rfl, h1, h2, h3⟩ := hA.three
  obtain ⟨ds, sz, mo⟩ := a
  refine k_seq (k_if (b := decide ((mo : Int) < (ds.length : Int))) ((et_or (et_not (et_tb (ed_call "list" (ea_cons (ed_ty (ed_var (by rfl) h1)) ea_nil) (by decide)))) fun _ => et_test (ed_gt (ed_lenL (ed_var (by rfl) h1)) (ed_var (by rfl) h3))).eq (by simp [isT])) e (fun hb G1 H1 s1 => ?_) fun hb G1 H1 s1 => ?_)
  · refine k_ret (R := dt (.bool false)) ed_bl s1.i fun v G2 H2 s2 r => q v G2 H2 (s1.trans s2) ?_
    have : ¬ ds.length ≤ mo := by simpa using hb
    simp only [this, decide_false, Bool.false_and]
    exact r
  · refine k_ret (ed_allM (f := fun x => decide (x.length = sz)) (ed_lcNb (ei_listM ((ed_var (by rfl) h1).mono s1.g)) (Nat.le_trans hP (by decide)) fun z _ v G2 g2 rv => (ed_andV (ed_isi (ed_ty (ed_var (by rfl) rv)) (tyD_mem _) (by decide)) fun _ => ed_eq (ed_lenT (ed_var (by rfl) rv)) (ed_var (by rfl) (Dx.mono (s1.g.trans g2) h2)) rfl rfl).eq (by rw [eqv_int]; simp [isT, tyD]; omega))) s1.i fun v G2 H2 s2 r => q v G2 H2 (s1.trans s2) ?_
    have : ds.length ≤ mo := by simpa using hb
    simp only [this, decide_true, Bool.true_and]
    exact r
/-- the looks at a good book's parts say yes -/
theorem c_are_skills (T : Txt K mg) : Callee P w K mg base CX0 3 "are_skills" ["value"] (FSp BOk (fun b => [dt (.list (dSkills b))]) (fun _ => dt (.bool true))) := by
  have c_are_tuples := c_are_tuples (P := P) (w := w) (base := base) T
  have c_is_word := c_is_word (P := P) (w := w) (base := base) T
  have c_is_number := c_is_number (P := P) (w := w) (base := base) T
  have c_are_unlike := c_are_unlike (P := P) (w := w) (base := base) T
  refine callee T.d_are_skills sc_are_skills (fun _ _ _ _ _ _ us hl => match us, hl with | [_], _ => rfl) (fun _ => rfl) fun f cdv Ar outer s H0 E hr => ?_
  obtain ⟨hu0, hu, hu64, hu65⟩ := room0 hr
  refine ⟨_, (pss_cons (ps_if (PW.pt (pw_or (pt_not (pt_truthK K (pe_cl c_are_tuples hr pass0 (pa_cons (pv 0) (pa_cons pe_int (pa_cons (pe_gint (by rfl) T.g_MOST_SKILLS) pa_nil)))))) (pw_or1 (pt_cmpR (op_eqK K hu64) (pe_callB (call_lenU K) (by rfl) T.f_len (by decide +kernel) (pa_cons (pv 0) pa_nil)) pe_int (nomark _))))) (pss_one (ps_ret pe_bl)) pss_nil) (pss_cons (ps_if (pt_not (pt_truthK K (pe_callB (call_allU K) (by rfl) T.f_all (by decide +kernel) (pa_cons (pe_lc (own := [("name", 2), ("tier", 3)]) rfl sc_are_skills.nd (pi_listK K (pv 0)) (blkOk_by (own := [("name", 2), ("tier", 3)]) (N := N_are_skills) (sc := defScope s_are_skills) (by decide +kernel)) (fun _ _ _ _ _ => (pg_tupK K (n := 2) (pgs_cons (pg_name (i := 2) sc_are_skills.nd rfl (Or.inl rfl)) (pgs_cons (pg_name (i := 3) sc_are_skills.nd rfl (Or.inl rfl)) pgs_nil)))) (fun _ _ _ _ _ => pts_nil) (fun _ _ _ _ _ => (pe_and (pe_cl c_is_word hr pass0 (pa_cons (pv 2) pa_nil)) (pe_one (pe_cl c_is_number hr pass0 (pa_cons (pv 3) (pa_cons pe_int (pa_cons (pe_gint (by rfl) T.g_MOST_TIERS) pa_nil)))))))) pa_nil)))) (pss_one (ps_ret pe_bl)) pss_nil) (pss_cons (ps_setLc (i := 1) (own := [("name", 2), ("tier", 3)]) rfl sc_are_skills.nd rfl rfl (sw_true rfl rfl rfl (by decide +kernel)) (pi_listK K (pv 0)) (blkOk_by (own := [("name", 2), ("tier", 3)]) (N := N_are_skills) (sc := defScope s_are_skills) (by decide +kernel)) (fun _ _ _ _ _ => (pg_tupK K (n := 2) (pgs_cons (pg_name (i := 2) sc_are_skills.nd rfl (Or.inl rfl)) (pgs_cons (pg_name (i := 3) sc_are_skills.nd rfl (Or.inl rfl)) pgs_nil)))) (fun _ _ _ _ _ => pts_nil) (fun _ _ _ _ _ => (pe_callTy call_intU (by rfl) T.f_int (by decide +kernel) (pa_cons (pv 3) pa_nil)))) (pss_one (ps_ret (pe_and (pe_cl c_are_unlike hr pass0 (pa_cons (pe_lc (own := [("name", 2), ("tier", 3)]) rfl sc_are_skills.nd (pi_listK K (pv 0)) (blkOk_by (own := [("name", 2), ("tier", 3)]) (N := N_are_skills) (sc := defScope s_are_skills) (by decide +kernel)) (fun _ _ _ _ _ => (pg_tupK K (n := 2) (pgs_cons (pg_name (i := 2) sc_are_skills.nd rfl (Or.inl rfl)) (pgs_cons (pg_name (i := 3) sc_are_skills.nd rfl (Or.inl rfl)) pgs_nil)))) (fun _ _ _ _ _ => pts_nil) (fun _ _ _ _ _ => (pv 2))) pa_nil)) (pe_one (pe_cmpR (op_eqK K hu64) (pv 1) (pe_callB (call_sortedU K) (by rfl) T.f_sorted (by decide +kernel) (pa_cons (pv 1) pa_nil)) (nomark _))))))))), fun b vs G H D ok hA e q => ?_⟩
  obtain ⟨v, rfl, h1⟩ := hA.one
  have n5 := ok.n5
  have val : ∀ {G1}, Ex G G1 → ED (tVar 0) (L2.start N_are_skills [v]) G1 (dt (.list (b.rows.map fun p => .tuple [.str p.1, .int p.2]))) := fun g => ed_var (by rfl) (Dx.mono g h1)
  refine k_noS (ET.eq (et_or (b := false) (et_not (et_tb (ed_call ((b.rows.map fun p => [.str p.1, .int p.2]), 2, 12) (ea_cons (ED.eq (val (Ex.refl _)) (by rw [List.map_map]; rfl)) (ea_cons ed_int (ea_cons ed_int ea_nil))) (by simp; omega)))) fun _ => ?_) ?_) e fun G1 H1 s1 => ?_
  · exact (et_test (ed_eq (ed_lenL (val (Ex.refl _))) ed_int rfl rfl)).eq (by rw [eqv_int, List.length_map, decide_eq_false_iff_not]; have := ok.n1; omega)
  · simp; omega
  refine k_noS (ET.eq (et_not (et_tb (ed_allM (f := fun p : Str × Nat => wordS p.1 && (decide ((1 : Int) ≤ (p.2 : Int)) && decide ((p.2 : Int) ≤ (4 : Int)))) (ed_lcPb (a := fun p : Str × Nat => .str p.1) (b := fun p : Str × Nat => .int p.2) (ei_listM (val s1.g)) (by omega) ?_)))) ?_) s1.i fun G2 H2 s2 => ?_
  · intro p hp y z G2 g2 ry rz
    exact ed_andV (ed_call (.str p.1) (ea_cons (ed_var (by rfl) ry) ea_nil) (fun s hs => by cases hs; exact Nat.le_trans (word_len (ok.wd _ hp)) (by decide))) fun _ => ed_call (↑p.2, 1, 4) (ea_cons (ed_var (by rfl) rz) (ea_cons ed_int (ea_cons ed_int ea_nil))) True.intro
  · rw [all_true]; · rfl
    intro p hp
    have := ok.tr p hp
    rw [ok.wd p hp, le_dec (by omega) (by omega)]; rfl
  have s12 := s1.trans s2
  refine k_asgS (ed_lcP1 (xs := b.rows) (f := fun p : Str × Nat => .int p.2) (a := fun p : Str × Nat => .str p.1) (b := fun p : Str × Nat => .int p.2) (ei_listM (val s12.g)) (by omega) fun p hp y z G3 g3 ry rz => ed_intI (ed_var (by rfl) rz)) s12.i fun tv G3 H3 s3 rt => ?_
  have s13 := s12.trans s3
  have rt' : Dx G3 tv (.list ((b.rows.map fun p => (p.2 : Int)).map .int)) := by rw [List.map_map]; exact rt
  refine k_ret (R := dt (.bool (true && true))) (ed_andV (ED.eq (ed_call (.sl (b.rows.map (·.1))) (ea_cons (ED.eq (ed_lcP1 (xs := b.rows) (f := fun p : Str × Nat => .str p.1) (a := fun p : Str × Nat => .str p.1) (b := fun p : Str × Nat => .int p.2) (ei_listM (ed_var (by rfl) (Dx.mono s13.g h1))) (by omega) fun p hp y z G4 g4 ry rz => ed_var (by rfl) ry) (by simp [UA.d, Function.comp])) ea_nil) (by simp [UA.len]; omega)) (by simp [UA.ok, ok.nd])) fun _ => ?_) s3.i fun v G4 H4 s4 r => q v G4 H4 (s13.trans s4) r
  refine ED.eq (ed_eq (ed_var (by rfl) rt') (ed_sortI (R := dt (.list ((b.rows.map fun p => (p.2 : Int)).map .int))) (ed_var (by rfl) rt') (by simp; omega) fun ns' v G' hp hs hd => ?_) Sh.ints.shaped Sh.ints.shaped) ?_
  · rw [← sorted_same hp hs]; · exact hd
    have := ok.ts
    rw [List.pairwise_map] at this ⊢
    exact this.imp fun h => by omega
  · rw [PyData.eqv, eqv_ints]; simp
theorem c_are_needs (T : Txt K mg) : Callee P w K mg base CX0 3 "are_needs" ["value"] (FSp BOk (fun b => [dt (.list (dNeeds b))]) (fun _ => dt (.bool true))) := by
  have c_are_tuples := c_are_tuples (P := P) (w := w) (base := base) T
  have c_is_number := c_is_number (P := P) (w := w) (base := base) T
  have c_are_unlike := c_are_unlike (P := P) (w := w) (base := base) T
  refine callee T.d_are_needs sc_are_needs (fun _ _ _ _ _ _ us hl => match us, hl with | [_], _ => rfl) (fun _ => rfl) fun f cdv Ar outer s H0 E hr => ?_
  obtain ⟨hu0, hu, hu64, hu65⟩ := room0 hr
  refine ⟨_, (pss_cons (ps_if (pt_not (pt_truthK K (pe_cl c_are_tuples hr pass0 (pa_cons (pv 0) (pa_cons pe_int (pa_cons (pe_op op_sub1 (pe_gint (by rfl) T.g_MOST_TIERS) pe_int) pa_nil)))))) (pss_one (ps_ret pe_bl)) pss_nil) (pss_cons (ps_if (pt_not (pt_truthK K (pe_callB (call_allU K) (by rfl) T.f_all (by decide +kernel) (pa_cons (pe_lc (own := [("tier", 2), ("many", 3)]) rfl sc_are_needs.nd (pi_listK K (pv 0)) (blkOk_by (own := [("tier", 2), ("many", 3)]) (N := N_are_needs) (sc := defScope s_are_needs) (by decide +kernel)) (fun _ _ _ _ _ => (pg_tupK K (n := 2) (pgs_cons (pg_name (i := 2) sc_are_needs.nd rfl (Or.inl rfl)) (pgs_cons (pg_name (i := 3) sc_are_needs.nd rfl (Or.inl rfl)) pgs_nil)))) (fun _ _ _ _ _ => pts_nil) (fun _ _ _ _ _ => (pe_and (pe_cl c_is_number hr pass0 (pa_cons (pv 2) (pa_cons pe_int (pa_cons (pe_gint (by rfl) T.g_MOST_TIERS) pa_nil)))) (pe_one (pe_cl c_is_number hr pass0 (pa_cons (pv 3) (pa_cons pe_int (pa_cons (pe_gint (by rfl) T.g_MOST_SKILLS) pa_nil)))))))) pa_nil)))) (pss_one (ps_ret pe_bl)) pss_nil) (pss_cons (ps_setLc (i := 1) (own := [("tier", 2), ("many", 3)]) rfl sc_are_needs.nd rfl rfl (sw_true rfl rfl rfl (by decide +kernel)) (pi_listK K (pv 0)) (blkOk_by (own := [("tier", 2), ("many", 3)]) (N := N_are_needs) (sc := defScope s_are_needs) (by decide +kernel)) (fun _ _ _ _ _ => (pg_tupK K (n := 2) (pgs_cons (pg_name (i := 2) sc_are_needs.nd rfl (Or.inl rfl)) (pgs_cons (pg_name (i := 3) sc_are_needs.nd rfl (Or.inl rfl)) pgs_nil)))) (fun _ _ _ _ _ => pts_nil) (fun _ _ _ _ _ => (pe_callTy call_intU (by rfl) T.f_int (by decide +kernel) (pa_cons (pv 2) pa_nil)))) (pss_one (ps_ret (pe_and (pe_cl c_are_unlike hr pass0 (pa_cons (pv 1) pa_nil)) (pe_one (pe_cmpR (op_eqK K hu64) (pv 1) (pe_callB (call_sortedU K) (by rfl) T.f_sorted (by decide +kernel) (pa_cons (pv 1) pa_nil)) (nomark _))))))))), fun b vs G H D ok hA e q => ?_⟩
  obtain ⟨v, rfl, h1⟩ := hA.one
  have n3 := ok.nl
  have val : ∀ {G1}, Ex G G1 → ED (tVar 0) (L2.start N_are_needs [v]) G1 (dt (.list (b.needs.map fun p => .tuple [.int p.1, .int p.2]))) := fun g => ed_var (by rfl) (Dx.mono g h1)
  refine k_noS (ET.eq (et_not (et_tb (ed_call ((b.needs.map fun p => [PyData.int (p.1 : Int), .int (p.2 : Int)]), 2, 3) (ea_cons (ED.eq (val (Ex.refl _)) (by rw [List.map_map]; rfl)) (ea_cons ed_int (ea_cons (ED.eq (ed_subI ed_int ed_int) rfl) ea_nil))) (by simp; omega)))) ?_) e fun G1 H1 s1 => ?_
  · simp; omega
  refine k_noS (ET.eq (et_not (et_tb (ed_allM (f := fun p : Nat × Nat => (decide ((2 : Int) ≤ (p.1 : Int)) && decide ((p.1 : Int) ≤ (4 : Int))) && (decide ((0 : Int) ≤ (p.2 : Int)) && decide ((p.2 : Int) ≤ (12 : Int)))) (ed_lcPb (a := fun p : Nat × Nat => .int p.1) (b := fun p : Nat × Nat => .int p.2) (ei_listM (val s1.g)) (by omega) ?_)))) ?_) s1.i fun G2 H2 s2 => ?_
  · intro p hp y z G2 g2 ry rz
    exact ed_andV (ed_call (↑p.1, 2, 4) (ea_cons (ed_var (by rfl) ry) (ea_cons ed_int (ea_cons ed_int ea_nil))) True.intro) fun _ => ed_call (↑p.2, 0, 12) (ea_cons (ed_var (by rfl) rz) (ea_cons ed_int (ea_cons ed_int ea_nil))) True.intro
  · rw [all_true]; · rfl
    intro p hp
    have := ok.no p hp
    rw [le_dec (by omega) (by omega), le_dec (by omega) (by omega)]; rfl
  have s12 := s1.trans s2
  refine k_asgS (ed_lcP1 (xs := b.needs) (f := fun p : Nat × Nat => .int p.1) (a := fun p : Nat × Nat => .int p.1) (b := fun p : Nat × Nat => .int p.2) (ei_listM (val s12.g)) (by omega) fun p hp y z G3 g3 ry rz => ed_intI (ed_var (by rfl) ry)) s12.i fun tv G3 H3 s3 rt => ?_
  have s13 := s12.trans s3
  have rt' : Dx G3 tv (.list ((b.needs.map fun p => (p.1 : Int)).map .int)) := by rw [List.map_map]; exact rt
  have asc : (b.needs.map fun p => (p.1 : Int)).Pairwise (· < ·) := by
    have := ok.nsd
    rw [List.pairwise_map] at this ⊢
    exact this.imp fun h => by omega
  refine k_ret (R := dt (.bool (true && true))) (ed_andV (ed_call (UA.il (b.needs.map fun p : Nat × Nat => (p.1 : Int))) (ea_cons (ed_var (by rfl) rt') ea_nil) (by simp [UA.len]; omega) ?_) fun _ => ?_) s3.i fun v G4 H4 s4 r => q v G4 H4 (s13.trans s4) r
  · have : (b.needs.map fun p => (p.1 : Int)).Nodup := asc.imp fun h => by omega
    simp only [UA.ok, this, decide_true]
  refine ED.eq (ed_eq (ed_var (by rfl) rt') (ed_sortI (R := dt (.list ((b.needs.map fun p => (p.1 : Int)).map .int))) (ed_var (by rfl) rt') (by simp; omega) fun ns' v G' hp hs hd => ?_) Sh.ints.shaped Sh.ints.shaped) ?_
  · rw [← sorted_same hp hs (asc.imp fun h => by omega)]; exact hd
  · rw [PyData.eqv, eqv_ints]; simp
theorem names_mem {b : Bk} {i : Nat} (h : i < b.n) : decide (b.nm i ∈ b.nms) = true := decide_eq_true (nm_mem h)
theorem c_are_numbered (T : Txt K mg) : Callee P w K mg base CX0 3 "are_numbered" ["names", "value", "low", "high"] (FSp (fun a : Bk × List (Nat × Nat) × Nat × Nat => BOk a.1 ∧ a.2.1.length ≤ 12 ∧ (a.2.1.map (·.1)).Nodup ∧ ∀ p ∈ a.2.1, p.1 < a.1.n ∧ a.2.2.1 ≤ p.2 ∧ p.2 ≤ a.2.2.2) (fun a => [dt (.list (a.1.nms.map .str)), dt (.list (dNum a.1 a.2.1)), dt (.int a.2.2.1), dt (.int a.2.2.2)]) (fun _ => dt (.bool true))) := by
  have c_are_tuples := c_are_tuples (P := P) (w := w) (base := base) T
  have c_is_number := c_is_number (P := P) (w := w) (base := base) T
  have c_is_word := c_is_word (P := P) (w := w) (base := base) T
  have c_are_unlike := c_are_unlike (P := P) (w := w) (base := base) T
  refine callee T.d_are_numbered sc_are_numbered (fun _ _ _ _ _ _ us hl => match us, hl with | [_, _, _, _], _ => rfl) (fun _ => rfl) fun f cdv Ar outer s H0 E hr => ?_
  obtain ⟨hu0, hu, hu64, hu65⟩ := room0 hr
  refine ⟨_, (pss_cons (ps_if (pt_not (pt_truthK K (pe_cl c_are_tuples hr pass0 (pa_cons (pv 1) (pa_cons pe_int (pa_cons (pe_gint (by rfl) T.g_MOST_SKILLS) pa_nil)))))) (pss_one (ps_ret pe_bl)) pss_nil) (pss_cons (ps_if (pt_not (pt_truthK K (pe_callB (call_allU K) (by rfl) T.f_all (by decide +kernel) (pa_cons (pe_lc (own := [("name", 4), ("many", 5)]) rfl sc_are_numbered.nd (pi_listK K (pv 1)) (blkOk_by (own := [("name", 4), ("many", 5)]) (N := N_are_numbered) (sc := defScope s_are_numbered) (by decide +kernel)) (fun _ _ _ _ _ => (pg_tupK K (n := 2) (pgs_cons (pg_name (i := 4) sc_are_numbered.nd rfl (Or.inl rfl)) (pgs_cons (pg_name (i := 5) sc_are_numbered.nd rfl (Or.inl rfl)) pgs_nil)))) (fun _ _ _ _ _ => pts_nil) (fun _ _ _ _ _ => (pe_and (pe_cl c_is_word hr pass0 (pa_cons (pv 4) pa_nil)) (pe_and (pe_cmpR (op_inU K hu65) (pv 4) (pv 0) (by rfl)) (pe_one (pe_cl c_is_number hr pass0 (pa_cons (pv 5) (pa_cons (pv 2) (pa_cons (pv 3) pa_nil))))))))) pa_nil)))) (pss_one (ps_ret pe_bl)) pss_nil) (pss_one (ps_ret (pe_cl c_are_unlike hr pass0 (pa_cons (pe_lc (own := [("name", 4), ("many", 5)]) rfl sc_are_numbered.nd (pi_listK K (pv 1)) (blkOk_by (own := [("name", 4), ("many", 5)]) (N := N_are_numbered) (sc := defScope s_are_numbered) (by decide +kernel)) (fun _ _ _ _ _ => (pg_tupK K (n := 2) (pgs_cons (pg_name (i := 4) sc_are_numbered.nd rfl (Or.inl rfl)) (pgs_cons (pg_name (i := 5) sc_are_numbered.nd rfl (Or.inl rfl)) pgs_nil)))) (fun _ _ _ _ _ => pts_nil) (fun _ _ _ _ _ => (pv 4))) pa_nil)))))), fun a vs G H D hP hA e q => ?_⟩
  obtain ⟨b, l, lo, hi⟩ := a
  obtain ⟨ok, hl, nd, ho⟩ := hP
  obtain ⟨v, x, y, z, rfl, h1, h2, h3, h4⟩ := hA.four
  dsimp only at hl nd ho h1 h2 h3 h4
  have val : ∀ {G1}, Ex G G1 → ED (tVar 1) (L2.start N_are_numbered [v, x, y, z]) G1 (dt (.list (l.map fun p => .tuple [.str (b.nm p.1), .int p.2]))) := fun g => ed_var (by rfl) (Dx.mono g h2)
  refine k_noS (ET.eq (et_not (et_tb (ed_call ((l.map fun p => [PyData.str (b.nm p.1), .int (p.2 : Int)]), 2, 12) (ea_cons (ED.eq (val (Ex.refl _)) (by rw [List.map_map]; rfl)) (ea_cons ed_int (ea_cons ed_int ea_nil))) (by simp; omega)))) ?_) e fun G1 H1 s1 => ?_
  · simp; omega
  refine k_noS (ET.eq (et_not (et_tb (ed_allM (f := fun p : Nat × Nat => wordS (b.nm p.1) && (decide (b.nm p.1 ∈ b.nms) && (decide ((lo : Int) ≤ (p.2 : Int)) && decide ((p.2 : Int) ≤ (hi : Int))))) (ed_lcPb (a := fun p : Nat × Nat => .str (b.nm p.1)) (b := fun p : Nat × Nat => .int p.2) (ei_listM (val s1.g)) (by omega) ?_)))) ?_) s1.i fun G2 H2 s2 => ?_
  · intro p hp y' z' G2 g2 ry rz
    have g := s1.g.trans g2
    exact ed_andV (ed_call (.str (b.nm p.1)) (ea_cons (ed_var (by rfl) ry) ea_nil) (fun s hs => by cases hs; exact Nat.le_trans (word_len (nm_word ok (ho p hp).1)) (by decide))) fun _ => ed_andV (ed_inL (ed_var (by rfl) ry) (ed_var (by rfl) (Dx.mono g h1))) fun _ =>
      ed_call (↑p.2, ↑lo, ↑hi) (ea_cons (ed_var (by rfl) rz) (ea_cons (ed_var (by rfl) (Dx.mono g h3)) (ea_cons (ed_var (by rfl) (Dx.mono g h4)) ea_nil))) True.intro
  · rw [all_true]; · rfl
    intro p hp
    have := ho p hp
    rw [nm_word ok this.1, names_mem this.1, le_dec (by omega) (by omega)]; rfl
  have s12 := s1.trans s2
  refine k_ret (R := dt (.bool true)) (ed_call (.sl (l.map fun p => b.nm p.1)) (ea_cons (ED.eq (ed_lcP1 (xs := l) (f := fun p : Nat × Nat => .str (b.nm p.1)) (a := fun p : Nat × Nat => .str (b.nm p.1)) (b := fun p : Nat × Nat => .int p.2) (ei_listM (val s12.g)) (by omega) fun p hp y z G4 g4 ry rz => ed_var (by rfl) ry) (by simp [UA.d, Function.comp])) ea_nil) (by simp [UA.len]; omega) ?_) s2.i fun v G4 H4 s4 r => q v G4 H4 (s12.trans s4) r
  have : (l.map fun p => b.nm p.1).Nodup := by
    unfold List.Nodup at nd ⊢
    rw [List.pairwise_map] at nd ⊢
    exact nd.imp_of_mem fun ha hb h z => h (nm_inj ok (ho _ ha).1 (ho _ hb).1 z)
  simp only [UA.ok, this, decide_true]
end
end RT
end
section
set_option maxRecDepth 100000
set_option maxHeartbeats 4000000
/-! RTW3: wants, bars, all parts. -/
namespace RT
open PySem PySem.Spec PyProof.Rows L2
open Evl (Ex Ex.refl Ex.trans Ex.new Ex.mut)
theorem ps_never {X : Cx} {st : Stmt} : PS X st (fun _ _ _ => False) := ⟨fun _ _ _ _ _ _ h => h.elim⟩
def rStr1 : List V → Hp → VK → Prop := fun xs H Q => ∃ a, xs = [.str a] ∧ Q (.str a) H
theorem call_strU {X : Cx} : CallR X (.type "str") rStr1 := SkE.call_str_str
section
variable {σ : L2.St} {G H : Hp} {te ta tb : TE} {K : Fg} {s : Str}
theorem ed_strS (h : ED te σ G (dt (.str s))) : ED (tCB rStr1 (tCons te tNil)) σ G (dt (.str s)) := ed_cb1 h fun v G' _ r H e Q q => ⟨s, by rw [Dx.str_inv r], q _ G' H (.refl e) (.str _)⟩
theorem ed_eqI {i j : Int} (ha : ED ta σ G (dt (.int i))) (hb : ED tb σ G (dt (.int j))) : ED (tOp (rEqD K) ta tb) σ G (dt (.bool (decide (i = j)))) := ED.eq (ed_eq ha hb rfl rfl) (congrArg PyData.bool (eqv_int i j))
theorem ed_neI {i j : Int} (ha : ED ta σ G (dt (.int i))) (hb : ED tb σ G (dt (.int j))) : ED (tOp (rNeD K) ta tb) σ G (dt (.bool (!decide (i = j)))) := ED.eq (ed_ne ha hb rfl rfl) (congrArg (fun z => PyData.bool (!z)) (eqv_int i j))
theorem ed_eqS {x y : Str} (ha : ED ta σ G (dt (.str x))) (hb : ED tb σ G (dt (.str y))) (hx : wordS x = true) (hy : wordS y = true) : ED (tOp (rEqD K) ta tb) σ G (dt (.bool (decide (x = y)))) := ED.eq (ed_eq ha hb (Sh.word hx).shaped (Sh.word hy).shaped) (congrArg PyData.bool (eqv_str x y))
theorem ed_neS {x y : Str} (ha : ED ta σ G (dt (.str x))) (hb : ED tb σ G (dt (.str y))) (hx : wordS x = true) (hy : wordS y = true) : ED (tOp (rNeD K) ta tb) σ G (dt (.bool (!decide (x = y)))) := ED.eq (ed_ne ha hb (Sh.word hx).shaped (Sh.word hy).shaped) (congrArg (fun z => PyData.bool (!z)) (eqv_str x y))
theorem kS_word (k : WK) : wordS (kS k) = true := by cases k <;> decide +kernel
theorem at_nat {α : Type} {xs : List α} {x : α} {j : Nat} (h : xs[j]? = some x) : atI xs (j : Int) = some x := by
  have hl := (List.getElem?_eq_some_iff.mp h).1
  unfold atI ixN
  rw [if_pos (by omega), if_pos (by omega)]
  simpa using h
theorem at0 {α : Type} {a : α} {l : List α} : atI (a :: l) 0 = some a := at_nat (j := 0) rfl
theorem at1 {α : Type} {a b : α} {l : List α} : atI (a :: b :: l) 1 = some b := at_nat (j := 1) rfl
theorem at2 {α : Type} {a b c : α} {l : List α} : atI (a :: b :: c :: l) 2 = some c := at_nat (j := 2) rfl
theorem at3 {α : Type} {a b c d : α} {l : List α} : atI (a :: b :: c :: d :: l) 3 = some d := at_nat (j := 3) rfl
end
section
variable {P : Program} {w : World} {K : Fg} {mg : Str → Option Value} {base : Heap}
theorem c_is_want (T : Txt K mg) : Callee P w K mg base CX0 3 "is_want" ["names", "value"] (FSp (fun a : Bk × Wt => BOk a.1 ∧ a.2 ∈ a.1.wants) (fun a => [dt (.list (a.1.nms.map .str)), dt (dWant a.1 a.2)]) (fun _ => dt (.bool true))) := by
  have c_is_number := c_is_number (P := P) (w := w) (base := base) T
  have c_is_word := c_is_word (P := P) (w := w) (base := base) T
  have c_are_unlike := c_are_unlike (P := P) (w := w) (base := base) T
  refine callee T.d_is_want sc_is_want (fun _ _ _ _ _ _ us hl => match us, hl with | [_, _], _ => rfl) (fun _ => rfl) fun f cdv Ar outer s H0 E hr => ?_
  obtain ⟨hu0, hu, hu64, hu65⟩ := room0 hr
  refine ⟨_, (pss_cons (ps_if (PW.pt (pw_or (pt_not (pt_truthK K (pe_callB (call_isiU K) (by rfl) T.f_isinstance (by decide +kernel) (pa_cons (pv 1) (pa_cons (pe_bltn (v := .ty "tuple") (by rfl) T.f_tuple (by decide +kernel) rfl) pa_nil))))) (pw_or (pt_not (pt_chain op_le1 op_le1 pe_int (pe_callB (call_lenU K) (by rfl) T.f_len (by decide +kernel) (pa_cons (pv 1) pa_nil)) pe_int)) (pw_or1 (pt_not (pt_truthK K (pe_callB (call_isiU K) (by rfl) T.f_isinstance (by decide +kernel) (pa_cons (pe_ix (ix_seqK K) (pv 1) pe_int (fun _ _ => rfl)) (pa_cons (pe_bltn (v := .ty "str") (by rfl) T.f_str (by decide +kernel) rfl) pa_nil))))))))) (pss_one (ps_ret pe_bl)) pss_nil) (pss_cons (ps_if (PW.pt (pw_or (pt_cmpR (op_ninU K hu65) (pe_ix (ix_seqK K) (pv 1) pe_int (fun _ _ => rfl)) (pe_tup (pa_cons pe_str (pa_cons pe_str (pa_cons pe_str pa_nil)))) (by rfl)) (pw_or1 (pt_cmpR (op_neK K hu64) (pe_callB (call_lenU K) (by rfl) T.f_len (by decide +kernel) (pa_cons (pv 1) pa_nil)) (pe_op (op_addU K) pe_int (pe_callTy call_intU (by rfl) T.f_int (by decide +kernel) (pa_cons (pe_cmpR (op_eqK K hu64) (pe_ix (ix_seqK K) (pv 1) pe_int (fun _ _ => rfl)) pe_str (nomark _)) pa_nil))) (nomark _))))) (pss_one (ps_ret pe_bl)) pss_nil) (pss_cons (ps_if (PW.pt (pw_or (pt_not (pt_truthK K (pe_cl c_is_word hr pass0 (pa_cons (pe_ix (ix_seqK K) (pv 1) pe_int (fun _ _ => rfl)) pa_nil)))) (pw_or (pt_cmpR (op_ninU K hu65) (pe_ix (ix_seqK K) (pv 1) pe_int (fun _ _ => rfl)) (pv 0) (by rfl)) (pw_or (pt_not (pt_truthK K (pe_callB (call_isiU K) (by rfl) T.f_isinstance (by decide +kernel) (pa_cons (pe_ix (ix_seqK K) (pv 1) pe_int (fun _ _ => rfl)) (pa_cons (pe_bltn (v := .ty "tuple") (by rfl) T.f_tuple (by decide +kernel) rfl) pa_nil))))) (pw_or1 (pt_cmpR (op_eqK K hu64) (pe_callB (call_lenU K) (by rfl) T.f_len (by decide +kernel) (pa_cons (pe_ix (ix_seqK K) (pv 1) pe_int (fun _ _ => rfl)) pa_nil)) pe_int (nomark _))))))) (pss_one (ps_ret pe_bl)) pss_nil) (pss_cons (ps_if (pt_not (pt_truthK K (pe_callB (call_allU K) (by rfl) T.f_all (by decide +kernel) (pa_cons (pe_lc (own := [("name", 2)]) rfl sc_is_want.nd (pi_tupK K (pe_ix (ix_seqK K) (pv 1) pe_int (fun _ _ => rfl))) (blkOk_by (own := [("name", 2)]) (N := N_is_want) (sc := defScope s_is_want) (by decide +kernel)) (fun _ _ _ _ _ => (pg_name (i := 2) sc_is_want.nd rfl (Or.inl rfl))) (fun _ _ _ _ _ => pts_nil) (fun _ _ _ _ _ => (pe_and (pe_cl c_is_word hr pass0 (pa_cons (pv 2) pa_nil)) (pe_and (pe_cmpR (op_inU K hu65) (pv 2) (pv 0) (by rfl)) (pe_one (pe_cmpR (op_neK K hu64) (pv 2) (pe_ix (ix_seqK K) (pv 1) pe_int (fun _ _ => rfl)) (nomark _))))))) pa_nil)))) (pss_one (ps_ret pe_bl)) pss_nil) (pss_one (ps_ret (pe_and (pe_cl c_are_unlike hr pass0 (pa_cons (pe_ix (ix_seqK K) (pv 1) pe_int (fun _ _ => rfl)) pa_nil)) (pe_one (pe_or (pe_cmpR (op_eqK K hu64) (pe_callB (call_lenU K) (by rfl) T.f_len (by decide +kernel) (pa_cons (pv 1) pa_nil)) pe_int (nomark _)) (pe_one (pe_cl c_is_number hr pass0 (pa_cons (pe_ix (ix_seqK K) (pv 1) pe_int (fun _ _ => rfl)) (pa_cons pe_int (pa_cons (pe_callB (call_lenU K) (by rfl) T.f_len (by decide +kernel) (pa_cons (pe_ix (ix_seqK K) (pv 1) pe_int (fun _ _ => rfl)) pa_nil)) pa_nil)))))))))))))), fun a vs G H D hP hA e q => ?_⟩
  obtain ⟨b, wt⟩ := a
  obtain ⟨ok, hw⟩ := hP
  have wo := ok.wo wt hw
  obtain ⟨v, x, rfl, h1, h2⟩ := hA.two
  dsimp only at h1 h2 wo
  have hwho : wordS (b.nm wt.who) = true := nm_word ok wo.who
  have hsome : ∀ j ∈ wt.some, wordS (b.nm j) = true := fun j hj => nm_word ok (wo.lt j hj).1
  obtain ⟨tl, htl, htl2⟩ : ∃ tl : List PyData, dWant b wt = .tuple (.str (kS wt.kind) :: .str (b.nm wt.who) :: .tuple ((wt.some.map b.nm).map .str) :: tl) ∧ tl = if wt.kind = .count then [.int wt.many] else [] := ⟨_, rfl, rfl⟩
  have ltl : (tl.length : Int) = if wt.kind = .count then 1 else 0 := by rw [htl2]; split <;> rfl
  rw [htl] at h2
  have tup : ∀ {G1}, Ex G G1 → ED (tVar 1) (L2.start N_is_want [v, x]) G1 (dt (.tuple (.str (kS wt.kind) :: .str (b.nm wt.who) :: .tuple ((wt.some.map b.nm).map .str) :: tl))) := fun g => ed_var (by rfl) (Dx.mono g h2)
  have i0 : ∀ {G1}, Ex G G1 → ED (tOp (rIx K) (tVar 1) (tC (.int 0))) (L2.start N_is_want [v, x]) G1 (dt (.str (kS wt.kind))) := fun g => ed_ixT (tup g) ed_int at0
  have i1 : ∀ {G1}, Ex G G1 → ED (tOp (rIx K) (tVar 1) (tC (.int 1))) (L2.start N_is_want [v, x]) G1 (dt (.str (b.nm wt.who))) := fun g => ed_ixT (tup g) ed_int at1
  have i2 : ∀ {G1}, Ex G G1 → ED (tOp (rIx K) (tVar 1) (tC (.int 2))) (L2.start N_is_want [v, x]) G1 (dt (.tuple ((wt.some.map b.nm).map .str))) := fun g => ed_ixT (tup g) ed_int at2
  have len : ∀ {G1}, Ex G G1 → ED (tCB (rLenU K) (tCons (tVar 1) tNil)) (L2.start N_is_want [v, x]) G1 (dt (.int (3 + tl.length))) := fun g => ED.eq (ed_lenT (tup g)) (by simp only [List.length_cons]; congr 1; omega)
  have nms : ∀ {G1}, Ex G G1 → ED (tVar 0) (L2.start N_is_want [v, x]) G1 (dt (.list (b.nms.map .str))) := fun g => ed_var (by rfl) (Dx.mono g h1)
  refine k_noS (ET.eq (et_or (b := false) (et_not (et_tb (ed_isi (ed_ty (tup (Ex.refl _))) (tyD_mem _) (by decide)))) fun _ => ET.eq (et_or (b := false) (et_not (et_test (ed_chainLe ed_int (len (Ex.refl _)) ed_int))) fun _ => ET.eq (et_not (et_tb (ed_isi (ed_ty (i0 (Ex.refl _))) (tyD_mem _) (by decide)))) ?_) ?_) ?_) e fun G1 H1 s1 => ?_
  · rfl
  · have : (3 : Int) ≤ 3 + tl.length ∧ (3 : Int) + tl.length ≤ 4 := by rw [ltl]; split <;> omega
    rw [le_dec this.1 this.2]; rfl
  · rfl
  refine k_noS (ET.eq (et_or (b := false) (et_test (ed_ninT (ss := ["all", "any", "count"]) (i0 s1.g) (ED.eq (ed_tup (ead_cons ed_str (ead_cons ed_str (ead_cons ed_str ead_nil))) (by decide)) rfl))) fun _ => ET.eq (et_test (ed_neI (len s1.g) (ed_add ed_int (ed_intB (ed_eqS (i0 s1.g) ed_str (kS_word _) (by decide +kernel)))))) ?_) ?_) s1.i fun G2 H2 s2 => ?_
  · rw [ltl]
    cases wt.kind <;> rfl
  · cases wt.kind <;> rfl
  have g2 := (s1.trans s2).g
  refine k_noS (ET.eq (et_or (b := false) (et_not (et_tb (ed_call (.str (b.nm wt.who)) (ea_cons (i1 g2) ea_nil) (fun s hs => by cases hs; exact Nat.le_trans (word_len hwho) (by decide))))) fun _ => ET.eq (et_or (b := false) (et_test (ed_ninL (i1 g2) (nms g2))) fun _ => ET.eq (et_or (b := false) (et_not (et_tb (ed_isi (ed_ty (i2 g2)) (tyD_mem _) (by decide)))) fun _ => ET.eq (et_test (ed_eqI (ed_lenT (i2 g2)) ed_int)) ?_) ?_) ?_) ?_) s2.i fun G3 H3 s3 => ?_
  · rw [List.length_map, List.length_map, decide_eq_false_iff_not]
    have := wo.ne
    cases h : wt.some with
    | nil => exact absurd h this
    | cons _ _ => simp; omega
  · rfl
  · rw [names_mem wo.who]; rfl
  · show (!wordS (b.nm wt.who) || false) = false
    rw [hwho]; rfl
  have g3 := g2.trans s3.g
  refine k_noS (ET.eq (et_not (et_tb (ed_allM (f := fun j : Nat => wordS (b.nm j) && (decide (b.nm j ∈ b.nms) && !decide (b.nm j = b.nm wt.who))) (ed_lcNb (xs := wt.some) (Rx := fun j => dt (.str (b.nm j))) ?_ (Nat.le_trans wo.len (by decide)) ?_)))) ?_) s3.i fun G4 H4 s4 => ?_
  · have := ei_tup (K := K) (i2 g3)
    rw [List.map_map, List.map_map] at this
    exact this
  · intro j hj y G5 g5 ry
    have g := g3.trans g5
    exact ed_andV (ed_call (.str (b.nm j)) (ea_cons (ed_var (by rfl) ry) ea_nil) (fun s hs => by cases hs; exact Nat.le_trans (word_len (hsome j hj)) (by decide))) fun _ => ed_andV (ed_inL (ed_var (by rfl) ry) (ed_var (by rfl) (Dx.mono g h1))) fun _ =>
      ed_neS (ed_var (by rfl) ry) (ed_ixT (ed_var (by rfl) (Dx.mono g h2)) ed_int at1) (hsome j hj) hwho
  · rw [all_true]; · rfl
    intro j hj
    have := wo.lt j hj
    have ne : ¬ b.nm j = b.nm wt.who := fun z => this.2 (nm_inj ok this.1 wo.who z)
    rw [hsome j hj, names_mem this.1]
    simp [ne]
  have s14 := ((s1.trans s2).trans s3).trans s4
  refine k_ret (R := dt (.bool (true && true))) (ed_andV (ed_call (.st (wt.some.map b.nm)) (ea_cons (i2 s14.g) ea_nil) (by simp [UA.len]; have := wo.len; omega) ?_) fun _ => ED.eq (ed_orV (b := true) (ed_eqI (len s14.g) ed_int) fun hz => ?_) ?_) s4.i fun v G4 H4 s4' r => q v G4 H4 (s14.trans s4') r
  · have : (wt.some.map b.nm).Nodup := by
      have := wo.nd
      unfold List.Nodup at this ⊢
      rw [List.pairwise_map]
      exact this.imp_of_mem fun ha hb h z => h (nm_inj ok (wo.lt _ ha).1 (wo.lt _ hb).1 z)
    simp only [UA.ok, this, decide_true]
  · have hk : wt.kind = .count := by
      rw [ltl] at hz
      by_cases h : wt.kind = .count
      · exact h
      · rw [if_neg h] at hz; simp at hz
    have ht : tl = [.int wt.many] := by rw [htl2, if_pos hk]
    have cn := wo.cnt hk
    refine ED.eq (ed_call (↑wt.many, 1, ↑wt.some.length) (ea_cons (ed_ixT (tup s14.g) ed_int (by rw [ht]; exact at3)) (ea_cons ed_int (ea_cons (ED.eq (ed_lenT (i2 s14.g)) (by simp)) ea_nil))) True.intro) ?_
    show PyData.bool (decide ((1 : Int) ≤ (wt.many : Int)) && decide ((wt.many : Int) ≤ (wt.some.length : Int))) = _
    rw [le_dec (by omega) (by omega)]
  · simp
/-- a pair of names, sorted -/
def srtR (x y : Str) : PyData := .tuple [.str (srt2 x y).1, .str (srt2 x y).2]
theorem c_are_bars (T : Txt K mg) : Callee P w K mg base CX0 3 "are_bars" ["names", "value"] (FSp BOk (fun b => [dt (.list (b.nms.map .str)), dt (.list (dBars b))]) (fun _ => dt (.bool true))) := by
  have c_are_tuples := c_are_tuples (P := P) (w := w) (base := base) T
  have c_is_word := c_is_word (P := P) (w := w) (base := base) T
  have c_are_unlike := c_are_unlike (P := P) (w := w) (base := base) T
  refine callee T.d_are_bars sc_are_bars (fun _ _ _ _ _ _ us hl => match us, hl with | [_, _], _ => rfl) (fun _ => rfl) fun f cdv Ar outer s H0 E hr => ?_
  obtain ⟨hu0, hu, hu64, hu65⟩ := room0 hr
  refine ⟨_, (pss_cons (ps_if (pt_not (pt_truthK K (pe_cl c_are_tuples hr pass0 (pa_cons (pv 1) (pa_cons pe_int (pa_cons (pe_gint (by rfl) T.g_MOST_BARS) pa_nil)))))) (pss_one (ps_ret pe_bl)) pss_nil) (pss_cons (ps_if (pt_not (pt_truthK K (pe_callB (call_allU K) (by rfl) T.f_all (by decide +kernel) (pa_cons (pe_lc (own := [("one", 3), ("other", 4)]) rfl sc_are_bars.nd (pi_listK K (pv 1)) (blkOk_by (own := [("one", 3), ("other", 4)]) (N := N_are_bars) (sc := defScope s_are_bars) (by decide +kernel)) (fun _ _ _ _ _ => (pg_tupK K (n := 2) (pgs_cons (pg_name (i := 3) sc_are_bars.nd rfl (Or.inl rfl)) (pgs_cons (pg_name (i := 4) sc_are_bars.nd rfl (Or.inl rfl)) pgs_nil)))) (fun _ _ _ _ _ => pts_nil) (fun _ _ _ _ _ => (pe_and (pe_cl c_is_word hr pass0 (pa_cons (pv 3) pa_nil)) (pe_and (pe_cl c_is_word hr pass0 (pa_cons (pv 4) pa_nil)) (pe_and (pe_cmpR (op_inU K hu65) (pv 3) (pv 0) (by rfl)) (pe_one (pe_cmpR (op_inU K hu65) (pv 4) (pv 0) (by rfl)))))))) pa_nil)))) (pss_one (ps_ret pe_bl)) pss_nil) (pss_cons (ps_setLc (i := 2) (own := [("one", 3), ("other", 4)]) rfl sc_are_bars.nd rfl rfl (sw_true rfl rfl rfl (by decide +kernel)) (pi_listK K (pv 1)) (blkOk_by (own := [("one", 3), ("other", 4)]) (N := N_are_bars) (sc := defScope s_are_bars) (by decide +kernel)) (fun _ _ _ _ _ => (pg_tupK K (n := 2) (pgs_cons (pg_name (i := 3) sc_are_bars.nd rfl (Or.inl rfl)) (pgs_cons (pg_name (i := 4) sc_are_bars.nd rfl (Or.inl rfl)) pgs_nil)))) (fun _ _ _ _ _ => pts_nil) (fun _ _ _ _ _ => (pe_callTy (call_tupleU K) (by rfl) T.f_tuple (by decide +kernel) (pa_cons (pe_callB (call_sortedU K) (by rfl) T.f_sorted (by decide +kernel) (pa_cons (pe_lst (pa_cons (pe_callTy call_strU (by rfl) T.f_str (by decide +kernel) (pa_cons (pv 3) pa_nil)) (pa_cons (pe_callTy call_strU (by rfl) T.f_str (by decide +kernel) (pa_cons (pv 4) pa_nil)) pa_nil))) pa_nil)) pa_nil)))) (pss_one (ps_ret (pe_and (pe_cl c_are_unlike hr pass0 (pa_cons (pv 2) pa_nil)) (pe_one (pe_callB (call_allU K) (by rfl) T.f_all (by decide +kernel) (pa_cons (pe_lc (own := [("one", 3), ("other", 4)]) rfl sc_are_bars.nd (pi_listK K (pv 1)) (blkOk_by (own := [("one", 3), ("other", 4)]) (N := N_are_bars) (sc := defScope s_are_bars) (by decide +kernel)) (fun _ _ _ _ _ => (pg_tupK K (n := 2) (pgs_cons (pg_name (i := 3) sc_are_bars.nd rfl (Or.inl rfl)) (pgs_cons (pg_name (i := 4) sc_are_bars.nd rfl (Or.inl rfl)) pgs_nil)))) (fun _ _ _ _ _ => pts_nil) (fun _ _ _ _ _ => (pe_cmpR (op_neK K hu64) (pv 3) (pv 4) (nomark _)))) pa_nil))))))))), fun b vs G H D ok hA e q => ?_⟩
  obtain ⟨x, v, rfl, h1, h2⟩ := hA.two
  have bl := ok.bl
  have val : ∀ {G1}, Ex G G1 → ED (tVar 1) (L2.start N_are_bars [x, v]) G1 (dt (.list (b.bars.map fun p => .tuple [.str (b.nm p.1), .str (b.nm p.2)]))) := fun g => ed_var (by rfl) (Dx.mono g h2)
  refine k_noS (ET.eq (et_not (et_tb (ed_call ((b.bars.map fun p => [PyData.str (b.nm p.1), .str (b.nm p.2)]), 2, 6) (ea_cons (ED.eq (val (Ex.refl _)) (by rw [List.map_map]; rfl)) (ea_cons ed_int (ea_cons ed_int ea_nil))) (by simp; omega)))) ?_) e fun G1 H1 s1 => ?_
  · simp; omega
  refine k_noS (ET.eq (et_not (et_tb (ed_allM (f := fun p : Nat × Nat => wordS (b.nm p.1) && (wordS (b.nm p.2) && (decide (b.nm p.1 ∈ b.nms) && decide (b.nm p.2 ∈ b.nms)))) (ed_lcPb (a := fun p : Nat × Nat => .str (b.nm p.1)) (b := fun p : Nat × Nat => .str (b.nm p.2)) (ei_listM (val s1.g)) (by omega) ?_)))) ?_) s1.i fun G2 H2 s2 => ?_
  · intro p hp y z G2 g2 ry rz
    have g := s1.g.trans g2
    exact ed_andV (ed_call (.str (b.nm p.1)) (ea_cons (ed_var (by rfl) ry) ea_nil) (fun s hs => by cases hs; exact Nat.le_trans (word_len (nm_word ok (ok.bo p hp).1)) (by decide))) fun _ => ed_andV (ed_call (.str (b.nm p.2)) (ea_cons (ed_var (by rfl) rz) ea_nil) (fun s hs => by cases hs; exact Nat.le_trans (word_len (nm_word ok (ok.bo p hp).2.1)) (by decide))) fun _ =>
      ed_andV (ed_inL (ed_var (by rfl) ry) (ed_var (by rfl) (Dx.mono g h1))) fun _ => ed_inL (ed_var (by rfl) rz) (ed_var (by rfl) (Dx.mono g h1))
  · rw [all_true]; · rfl
    intro p hp
    have := ok.bo p hp
    rw [nm_word ok this.1, nm_word ok this.2.1, names_mem this.1, names_mem this.2.1]; rfl
  have s12 := s1.trans s2
  refine k_asgS (ed_lcP1 (xs := b.bars) (f := fun p : Nat × Nat => srtR (b.nm p.1) (b.nm p.2)) (a := fun p : Nat × Nat => .str (b.nm p.1)) (b := fun p : Nat × Nat => .str (b.nm p.2)) (ei_listM (val s12.g)) (by omega) ?_) s12.i fun tv G3 H3 s3 rt => ?_
  · intro p hp y z G3 g3 ry rz
    refine ed_tupL (ds := [.str (srt2 (b.nm p.1) (b.nm p.2)).1, .str (srt2 (b.nm p.1) (b.nm p.2)).2]) (ed_sortS (ns := [b.nm p.1, b.nm p.2]) (ED.eq (ed_lst (ead_cons (ed_strS (ed_var (by rfl) ry)) (ead_cons (ed_strS (ed_var (by rfl) rz)) ead_nil)) (by simp)) rfl) (by simp) fun ns' v G' hp hs hd => ?_)
    rw [srt2_of hp hs] at hd
    exact hd
  have s13 := s12.trans s3
  have rt' : Dx G3 tv (.list ((b.bars.map fun p => srt2 (b.nm p.1) (b.nm p.2)).map fun p => .tuple [.str p.1, .str p.2])) := by rw [List.map_map]; exact rt
  refine k_ret (R := dt (.bool (true && true))) (ed_andV (ed_call (UA.pl (b.bars.map fun p : Nat × Nat => srt2 (b.nm p.1) (b.nm p.2))) (ea_cons (ed_var (by rfl) rt') ea_nil) (by simp [UA.len]; omega) ?_) fun _ => ED.eq (ed_allM (f := fun p : Nat × Nat => !decide (b.nm p.1 = b.nm p.2)) (ed_lcPb (xs := b.bars) (a := fun p : Nat × Nat => .str (b.nm p.1)) (b := fun p : Nat × Nat => .str (b.nm p.2)) (ei_listM (ed_var (by rfl) (Dx.mono s13.g h2))) (by omega) ?_)) ?_) s3.i fun v G4 H4 s4 r => q v G4 H4 (s13.trans s4) r
  · have : (b.bars.map fun p => srt2 (b.nm p.1) (b.nm p.2)).Nodup := by
      unfold List.Nodup
      rw [List.pairwise_map]
      refine ok.bu.imp_of_mem fun {p q} hp hq h z => ?_
      have b1 := ok.bo p hp
      have b2 := ok.bo q hq
      have key : (b.nm p.1 = b.nm q.1 ∧ b.nm p.2 = b.nm q.2) ∨ (b.nm p.1 = b.nm q.2 ∧ b.nm p.2 = b.nm q.1) := by
        rcases srt2_cases (b.nm p.1) (b.nm p.2) with e1 | e1 <;> rcases srt2_cases (b.nm q.1) (b.nm q.2) with e2 | e2 <;> rw [e1, e2] at z <;> injection z with z1 z2
        · exact .inl ⟨z1, z2⟩
        · exact .inr ⟨z1, z2⟩
        · exact .inr ⟨z2, z1⟩
        · exact .inl ⟨z2, z1⟩
      rcases key with ⟨k1, k2⟩ | ⟨k1, k2⟩
      · exact h.1 (Prod.ext (nm_inj ok b1.1 b2.1 k1) (nm_inj ok b1.2.1 b2.2.1 k2))
      · exact h.2 (Prod.ext (nm_inj ok b1.1 b2.2.1 k1) (nm_inj ok b1.2.1 b2.1 k2))
    simp only [UA.ok, this, decide_true]
  · intro p hp y z G4 g4 ry rz
    exact ed_neS (ed_var (by rfl) ry) (ed_var (by rfl) rz) (nm_word ok (ok.bo p hp).1) (nm_word ok (ok.bo p hp).2.1)
  · rw [all_true]
    intro p hp
    have := ok.bo p hp
    have ne : ¬ b.nm p.1 = b.nm p.2 := fun z => this.2.2 (nm_inj ok this.1 this.2.1 z)
    simp [ne]
end
end RT
end
section
set_option maxRecDepth 100000
set_option maxHeartbeats 4000000
/-! RTW4: lists of one's own; all parts of a book. -/
namespace RT
open PySem PySem.Spec PyProof.Rows L2
open Evl (Ex Ex.refl Ex.trans Ex.new Ex.mut)
section
variable {σ : L2.St} {G H G0 H0 : Hp} {D : Ends} {ta : TA} {te : TE} {tw : TS} {K : Fg} {ds es : List PyData} {d : PyData} {vs : List V} {p : Addr} {i k : Nat}
def isNn : PyData → Bool
  | .none => true
  | _ => false
theorem ed_isNn (h : ED te σ G (dt d)) : ED (tOp rIsN te (tC .non)) σ G (dt (.bool (isNn d))) := ED.eq (ed_isN h) (by cases d <;> rfl)
theorem ed_notNn (h : ED te σ G (dt d)) : ED (tOp rNotN te (tC .non)) σ G (dt (.bool (!isNn d))) := ED.eq (ed_notN h) (by cases d <;> rfl)
/-- x = [..], to be changed -/
theorem k_lstS (s0 : Step G0 H0 G H) (h : EAD ta σ G ds) (hz : ds.length ≤ 100000) (q : ∀ p vs G1 H1, Ex G G1 → Step G0 H0 G1 H1 → G1 p = none → H p = none → (∀ a o, H a = some o → H1 a = some o) → H1 p = some (.lst vs) → DxA G1 vs ds → tw D (σ.set k (some (.ref p))) H1) : tSeq (tAsg (tLst ta) (gName k)) tw D σ H :=
  h H s0.i _ fun vs G1 H1 s r => by
    refine ⟨by rw [r.length, List.length_map]; exact sz_of hz, fun p hp => ?_⟩
    exact q p vs G1 _ s.g (s0.trans (s.new hp)) (ex_none s.i hp) (ex_none s.h hp) (fun a o e => (s.new hp).h a o e) upd_same (RAll.dx r)
/-- x.append(e) -/
theorem k_appS (s0 : Step G0 H0 G H) (h0 : H0 p = none) (hσ : σ[i]? = some (some (.ref p))) (hp : H p = some (.lst vs)) (hG : G p = none) (hx : DxA G vs ds) (h : ED te σ G (dt d)) (hz : ds.length ≤ 90000)
    (q : ∀ y G1 H1, Ex G G1 → Step G0 H0 G1 H1 → G1 p = none → (∀ a o, a ≠ p → H a = some o → H1 a = some o) → H1 p = some (.lst (vs ++ [y])) → DxA G1 (vs ++ [y]) (ds ++ [d]) → tw D σ H1) : tSeq (tDrop (tBM K "list" rAppend (tVar i) (tCons te tNil))) tw D σ H := by
  refine ⟨.ref p, hσ, .inl ⟨rfl, vs, SqL.of hp⟩, ?_⟩
  refine h H s0.i _ fun y G1 H1 s r => ?_
  have hp1 : H1 p = some (.lst vs) := s.h _ _ hp
  have hG1 : G1 p = none := s.s p (by rw [hp]; intro z; cases z) hG
  refine ⟨p, vs, y, rfl, rfl, hp1, by rw [hx.length]; exact sz_lt (by omega), ?_⟩
  exact q y G1 _ s.g ((s0.trans s).mut h0 hG1) hG1 (fun a o ha e => by rw [upd_ne ha]; exact s.h a o e) upd_same ((hx.mono s.g).append (.cons r .nil))
/-- x.extend(e) -/
theorem k_extS (s0 : Step G0 H0 G H) (h0 : H0 p = none) (hσ : σ[i]? = some (some (.ref p))) (hp : H p = some (.lst vs)) (hG : G p = none) (hx : DxA G vs ds) (h : ED te σ G (dt (.list es))) (hz : ds.length + es.length ≤ 90000)
    (q : ∀ ys G1 H1, Ex G G1 → Step G0 H0 G1 H1 → G1 p = none → (∀ a o, a ≠ p → H a = some o → H1 a = some o) → H1 p = some (.lst (vs ++ ys)) → DxA G1 (vs ++ ys) (ds ++ es) → tw D σ H1) : tSeq (tDrop (tBM K "list" rExtend (tVar i) (tCons te tNil))) tw D σ H := by
  refine ⟨.ref p, hσ, .inl ⟨rfl, vs, SqL.of hp⟩, ?_⟩
  refine h H s0.i _ fun y G1 H1 s r => ?_
  have hp1 : H1 p = some (.lst vs) := s.h _ _ hp
  have hG1 : G1 p = none := s.s p (by rw [hp]; intro z; cases z) hG
  obtain ⟨b, ys, rfl, eb, hy⟩ := Dx.list_inv r
  refine ⟨p, b, vs, ys, rfl, rfl, hp1, s.i _ _ eb, by rw [hx.length, hy.length]; exact sz_of (by omega), ?_⟩
  exact q ys G1 _ s.g ((s0.trans s).mut h0 hG1) hG1 (fun a o ha e => by rw [upd_ne ha]; exact s.h a o e) upd_same ((hx.mono s.g).append hy)
end
section
variable {P : Program} {w : World} {K : Fg} {mg : Str → Option Value} {base : Heap} {x : Str} {st : Stmt} {N ps : List Str} {k : Nat}
/-- a callee whose body may fall off its end -/
theorem calleeN {α : Type} {Pa : α → Prop} {A : α → List Rel} {B : α → Rel} (D : DefAt K mg x st) (S : FnScope N ps (defScope st)) (hb : ∀ (kV doc pm : Value) (an : Option Addr) (cdv ct : Value) (us : List Value), us.length = ps.length → bindArgs (PySem.W.fnOf x x (defArgs st) (defBody st) (defScope st) .none kV doc pm an cdv ct) ⟨us, []⟩ = pure (ps.zip us))
    (hl : ∀ a, (A a).length = ps.length)
    (body : ∀ (f : Addr) (cdv : Value) (Ar : Around) (outer : List Env) (s : Shared) (H0 : Hp) (E : XK), Room k (Ar.deeper (envOfC x (defScope st) s.heap.objs.size f cdv)) →
      ∃ t, PSs (cxOf CX0 P w K mg base N x (defScope st) f cdv Ar outer s H0 E).nox (defBody st) t ∧ ∀ a vs G H (Q : VK), Pa a → RAll (A a) vs G → Ex G H → (∀ v G' H', Step G H G' H' → (B a).r v G' → Q v H') → t { nx := fun _ H' => Q .non H', rt := Q } (start N vs) H) : Callee P w K mg base CX0 (k + 1) x ps (FSp Pa A B) :=
  callee_sp D S hb (fun vs H Q E h => by obtain ⟨a, G, _, _, h2, _⟩ := h; rw [h2.length, hl]) fun f cdv Ar outer s H vs Q E hr h => by
    obtain ⟨t, h1, h2⟩ := body f cdv Ar outer s H E hr
    obtain ⟨a, G, p, e, r, q⟩ := h
    exact ⟨t, h1, h2 a vs G H Q p r e q⟩
def prts (b : Bk) : List (Key × PyData) := [(.inr "skills", .list (dSkills b)), (.inr "points", .int b.pts), (.inr "needs", .list (dNeeds b)), (.inr "wants", .list (dWants b)), (.inr "bars", .list (dBars b)), (.inr "gives", .list (dNum b b.gives)), (.inr "prices", .list (dNum b b.prices)), (.inr "reset", dReset b)]
theorem c_look_at_parts (T : Txt K mg) : Callee P w K mg base CX0 4 "look_at_parts" ["parts"] (FSp BOk (fun b => [dkR (prts b)]) (fun _ => dt .none)) := by
  have c_is_number := c_is_number (P := P) (w := w) (base := base) T
  have c_is_row := c_is_row (P := P) (w := w) (base := base) T
  have c_are_skills := c_are_skills (P := P) (w := w) (base := base) T
  have c_are_needs := c_are_needs (P := P) (w := w) (base := base) T
  have c_are_bars := c_are_bars (P := P) (w := w) (base := base) T
  have c_is_want := c_is_want (P := P) (w := w) (base := base) T
  have c_are_numbered := c_are_numbered (P := P) (w := w) (base := base) T
  refine calleeN T.d_look_at_parts sc_look_at_parts (fun _ _ _ _ _ _ us hl => match us, hl with | [_], _ => rfl) (fun _ => rfl) fun f cdv Ar outer s H0 E hr => ?_
  obtain ⟨hu0, hu, hu64, hu65⟩ := room0 hr
  refine ⟨_, (pss_cons (ps_if (pt_not (pt_truthK K (pe_cl c_are_skills hr pass0 (pa_cons (pe_dget hu (pv 0) pe_str (fun _ _ => rfl)) pa_nil)))) (pss_one ps_never) pss_nil) (pss_cons (ps_set (i := 2) sc_look_at_parts.nd rfl (Or.inr rfl) (pe_lc (own := [("name", 1), ("tier", 7)]) rfl sc_look_at_parts.nd (pi_listK K (pe_dget hu (pv 0) pe_str (fun _ _ => rfl))) (blkOk_by (own := [("name", 1), ("tier", 7)]) (N := N_look_at_parts) (sc := defScope s_look_at_parts) (by decide +kernel)) (fun _ _ _ _ _ => (pg_tupK K (n := 2) (pgs_cons (pg_name (i := 1) sc_look_at_parts.nd rfl (Or.inl rfl)) (pgs_cons (pg_name (i := 7) sc_look_at_parts.nd rfl (Or.inl rfl)) pgs_nil)))) (fun _ _ _ _ _ => pts_nil) (fun _ _ _ _ _ => (pv 1)))) (pss_cons (ps_set (i := 3) sc_look_at_parts.nd rfl (Or.inl rfl) (pe_dget hu (pv 0) pe_str (fun _ _ => rfl))) (pss_cons (ps_set (i := 4) sc_look_at_parts.nd rfl (Or.inl rfl) (pe_lst (pa_cons (pe_tup (pa_cons pe_str (pa_cons (pe_cl c_is_number hr pass0 (pa_cons (pe_dget hu (pv 0) pe_str (fun _ _ => rfl)) (pa_cons pe_int (pa_cons (pe_gint (by rfl) T.g_MOST_POINTS) pa_nil)))) pa_nil))) (pa_cons (pe_tup (pa_cons pe_str (pa_cons (pe_cl c_are_needs hr pass0 (pa_cons (pe_dget hu (pv 0) pe_str (fun _ _ => rfl)) pa_nil)) pa_nil))) pa_nil)))) (pss_cons (ps_set (i := 5) sc_look_at_parts.nd rfl (Or.inl rfl) (pe_and (pe_cl c_is_row hr pass0 (pa_cons (pv 3) pa_nil)) (pe_and (pe_cmpR op_le1 (pe_callB (call_lenU K) (by rfl) T.f_len (by decide +kernel) (pa_cons (pv 3) pa_nil)) (pe_gint (by rfl) T.g_MOST_WANTS) (nomark _)) (pe_one (pe_callB (call_allU K) (by rfl) T.f_all (by decide +kernel) (pa_cons (pe_lc (own := [("want", 8)]) rfl sc_look_at_parts.nd (pi_listK K (pv 3)) (blkOk_by (own := [("want", 8)]) (N := N_look_at_parts) (sc := defScope s_look_at_parts) (by decide +kernel)) (fun _ _ _ _ _ => (pg_name (i := 8) sc_look_at_parts.nd rfl (Or.inl rfl))) (fun _ _ _ _ _ => pts_nil) (fun _ _ _ _ _ => (pe_cl c_is_want hr pass0 (pa_cons (pv 2) (pa_cons (pv 8) pa_nil))))) pa_nil)))))) (pss_cons (ps_expr (pe_bm PySem.F.plainAttrs_list PySem.F.slot_list_extend PySem.F.type_list_extend mt_extend (pv 4) (pa_cons (pe_lst (pa_cons (pe_tup (pa_cons pe_str (pa_cons (pv 5) pa_nil))) (pa_cons (pe_tup (pa_cons pe_str (pa_cons (pe_cl c_are_bars hr pass0 (pa_cons (pv 2) (pa_cons (pe_dget hu (pv 0) pe_str (fun _ _ => rfl)) pa_nil))) pa_nil))) pa_nil))) pa_nil))) (pss_cons (ps_expr (pe_bm PySem.F.plainAttrs_list PySem.F.slot_list_append PySem.F.type_list_append mt_append (pv 4) (pa_cons (pe_tup (pa_cons pe_str (pa_cons (pe_cl c_are_numbered hr pass0 (pa_cons (pv 2) (pa_cons (pe_dget hu (pv 0) pe_str (fun _ _ => rfl)) (pa_cons pe_int (pa_cons (pe_gint (by rfl) T.g_MOST_GIVEN) pa_nil))))) pa_nil))) pa_nil))) (pss_cons (ps_expr (pe_bm PySem.F.plainAttrs_list PySem.F.slot_list_append PySem.F.type_list_append mt_append (pv 4) (pa_cons (pe_tup (pa_cons pe_str (pa_cons (pe_cl c_are_numbered hr pass0 (pa_cons (pv 2) (pa_cons (pe_dget hu (pv 0) pe_str (fun _ _ => rfl)) (pa_cons pe_int (pa_cons (pe_gint (by rfl) T.g_MOST_PRICE) pa_nil))))) pa_nil))) pa_nil))) (pss_cons (ps_expr (pe_bm PySem.F.plainAttrs_list PySem.F.slot_list_append PySem.F.type_list_append mt_append (pv 4) (pa_cons (pe_tup (pa_cons pe_str (pa_cons (pe_or (pe_cmpR op_isN1 (pe_dget hu (pv 0) pe_str (fun _ _ => rfl)) pe_non (nomark _)) (pe_one (pe_cl c_is_number hr pass0 (pa_cons (pe_dget hu (pv 0) pe_str (fun _ _ => rfl)) (pa_cons pe_int (pa_cons (pe_gint (by rfl) T.g_MOST_PRICE) pa_nil)))))) pa_nil))) pa_nil))) (pss_one (ps_for PassesOwn.never rfl (pi_listK K (pv 4)) (pg_tupK K (n := 2) (pgs_cons (pg_name (i := 1) sc_look_at_parts.nd rfl (Or.inl rfl)) (pgs_cons (pg_name (i := 6) sc_look_at_parts.nd rfl (Or.inl rfl)) pgs_nil))) (pss_one (ps_if (pt_not (pt_truthK K (pv 6))) (pss_one ps_never) pss_nil))))))))))))), fun b vs G H Q ok hA e q => ?_⟩
  obtain ⟨v, rfl, h1⟩ := hA.one
  have n5 := ok.n5
  have get : ∀ {σ : L2.St} {G1} {nm : Str} {d : PyData}, lookG (prts b) (.inr nm) = some d → σ[0]? = some (some v) → Ex G G1 → ED (tDGet (tVar 0) (tC (.str nm))) σ G1 (dt d) := fun hd hσ g => ed_dget (k := .inr _) (ed_var hσ ((dkR _).mono g h1)) ed_str hd
  have l1 : lookG (prts b) (.inr "skills") = some (.list (dSkills b)) := rfl
  have l2 : lookG (prts b) (.inr "points") = some (.int b.pts) := rfl
  have l3 : lookG (prts b) (.inr "needs") = some (.list (dNeeds b)) := rfl
  have l4 : lookG (prts b) (.inr "wants") = some (.list (dWants b)) := rfl
  have l5 : lookG (prts b) (.inr "bars") = some (.list (dBars b)) := rfl
  have l6 : lookG (prts b) (.inr "gives") = some (.list (dNum b b.gives)) := rfl
  have l7 : lookG (prts b) (.inr "prices") = some (.list (dNum b b.prices)) := rfl
  have l8 : lookG (prts b) (.inr "reset") = some (dReset b) := rfl
  refine k_noS (ET.eq (et_not (et_tb (ed_call b (ea_cons (get l1 rfl (Ex.refl _)) ea_nil) ok))) rfl) e fun G1 H1 s1 => ?_
  refine k_asgS (ed_lcP1 (xs := b.rows) (f := fun p : Str × Nat => .str p.1) (a := fun p : Str × Nat => .str p.1) (b := fun p : Str × Nat => .int p.2) (ei_listM (get l1 rfl s1.g)) (by omega) fun p hp y z G3 g3 ry rz => ed_var (by rfl) ry) s1.i fun nv G2 H2 s2 rn => ?_
  have s12 := s1.trans s2
  have rn' : Dx G2 nv (.list (b.nms.map .str)) := by unfold Bk.nms; rw [List.map_map]; exact rn
  refine k_asgS (get l4 rfl s12.g) s2.i fun wv G3 H3 s3 rw' => ?_
  have s13 := s12.trans s3
  refine k_lstS (ds := [.tuple [.str "points", .bool true], .tuple [.str "needs", .bool true]]) s13 (ead_cons (ed_tup (ead_cons ed_str (ead_cons (ed_call (↑b.pts, 0, 12) (ea_cons (get l2 rfl s13.g) (ea_cons ed_int (ea_cons ed_int ea_nil))) True.intro ?_) ead_nil)) (by decide)) (ead_cons (ed_tup (ead_cons ed_str (ead_cons (ed_call b (ea_cons (get l3 rfl s13.g) ea_nil) ok) ead_nil)) (by decide)) ead_nil)) (by decide) fun p vs G4 H4 g4 s4 hG4 hp0 _ hp4 hx4 => ?_
  · have := ok.pt
    show dt (.bool (decide ((0 : Int) ≤ (b.pts : Int)) && decide ((b.pts : Int) ≤ (12 : Int)))) = _
    rw [le_dec (by omega) (by omega)]
  have hpH : H p = none := ex_none s13.h hp0
  refine k_asgS (R := dt (.bool true)) (ED.eq (ed_andV (ed_call "list" (ea_cons (ed_ty (ed_var (by rfl) (Dx.mono g4 rw'))) ea_nil) (by decide)) fun _ => ed_andV (ed_le (ed_lenL (ed_var (by rfl) (Dx.mono g4 rw'))) ed_int) fun _ => ed_allM (f := fun _ : Wt => true) (ed_lcNb (xs := b.wants) (Rx := fun wt => dt (dWant b wt)) (ei_listM (ed_var (by rfl) (Dx.mono g4 rw'))) (by have := ok.wl; omega) fun wt hw y G5 g5 ry => ed_call (b, wt) (ea_cons (ed_var (by rfl) (Dx.mono ((s3.g.trans g4).trans g5) rn')) (ea_cons (ed_var (by rfl) ry) ea_nil)) ⟨ok, hw⟩)) ?_) s4.i fun rv G5 H5 s5 rr => ?_
  · have := ok.wl
    have e1 : (dWants b).length = b.wants.length := by simp [dWants]
    rw [e1, all_true (fun _ _ => rfl)]
    simp [isT]; omega
  have s5' := s4.trans s5
  have hG5 : G5 p = none := s5.s p (by rw [hp4]; intro z; cases z) hG4
  have g35 := g4.trans s5.g
  have g25 := s3.g.trans g35
  have g15 := (s12.g).trans g25
  refine k_extS s5' hpH rfl (s5.h _ _ hp4) hG5 (hx4.mono s5.g) (ed_lst (ead_cons (ed_tup (ead_cons ed_str (ead_cons (ed_var (by rfl) rr) ead_nil)) (by decide)) (ead_cons (ed_tup (ead_cons ed_str (ead_cons (ed_call b (ea_cons (ed_var (by rfl) (Dx.mono g25 rn')) (ea_cons (get l5 rfl g15) ea_nil)) ok) ead_nil)) (by decide)) ead_nil)) (by decide)) (by decide) fun ys G6 H6 g6 s6 hG6 _ hp6 hx6 => ?_
  have g26 := g25.trans g6
  have g16 := g15.trans g6
  refine k_appS s6 hpH rfl hp6 hG6 hx6 (d := .tuple [.str "gives", .bool true]) (ed_tup (ead_cons ed_str (ead_cons (ed_call (b, b.gives, 1, 3) (ea_cons (ed_var (by rfl) (Dx.mono g26 rn')) (ea_cons (get l6 rfl g16) (ea_cons ed_int (ea_cons ed_int ea_nil)))) ⟨ok, ok.gl, ok.gn, ok.go⟩) ead_nil)) (by decide)) (by decide) fun y7 G7 H7 g7 s7 hG7 _ hp7 hx7 => ?_
  have g27 := g26.trans g7
  have g17 := g16.trans g7
  refine k_appS s7 hpH rfl hp7 hG7 hx7 (d := .tuple [.str "prices", .bool true]) (ed_tup (ead_cons ed_str (ead_cons (ed_call (b, b.prices, 0, 99) (ea_cons (ed_var (by rfl) (Dx.mono g27 rn')) (ea_cons (get l7 rfl g17) (ea_cons ed_int (ea_cons ed_int ea_nil)))) ⟨ok, ok.pl, ok.pn, fun p hp => ⟨(ok.po p hp).1, Nat.zero_le _, (ok.po p hp).2⟩⟩) ead_nil)) (by decide)) (by decide) fun y8 G8 H8 g8 s8 hG8 _ hp8 hx8 => ?_
  have g18 := g17.trans g8
  refine k_appS s8 hpH rfl hp8 hG8 hx8 (d := .tuple [.str "reset", .bool true]) (ed_tup (ead_cons ed_str (ead_cons (ED.eq (d := .bool (isNn (dReset b) || true)) (ed_orV (ed_isNn (get l8 rfl g18)) fun hz => ?_) (by simp)) ead_nil)) (by decide)) (by decide) fun y9 G9 H9 g9 s9 hG9 _ hp9 hx9 => ?_
  · cases hr : b.reset with
    | none => simp [dReset, hr, isNn] at hz
    | some r =>
      have e8 : dReset b = .int r := by simp [dReset, hr]
      refine ed_call (↑r, 0, 99) (ea_cons (get (l8.trans (by rw [e8])) rfl g18) (ea_cons ed_int (ea_cons ed_int ea_nil))) True.intro ?_
      have := ok.rs r hr
      show dt (.bool (decide ((0 : Int) ≤ (r : Int)) && decide ((r : Int) ≤ (99 : Int)))) = _
      rw [le_dec (by omega) (by omega)]
  -- the list is known from now on
  have s10 := s9.pub hpH hG9 hp9
  have hx10 := hx9.mono (Ex.new (o := HO.lst (vs ++ ys ++ [y7] ++ [y8] ++ [y9])) hG9)
  refine k_for (xs := (["points", "needs", "wants", "bars", "gives", "prices", "reset"] : List Str)) (Rx := fun nm => dt (.tuple [.str nm, .bool true])) (ei_list (K := K) (ed_var (R := dt (.list _)) rfl (.lst upd_same hx10))) s10.i (fun i σ' G' H' => Step G H G' H' ∧ 7 ≤ σ'.length) (fun G' H' s' => ⟨s10.trans s', by simp only [List.length_set]; show 7 ≤ 9; decide⟩) (fun i σ' G' H' h => h.1.i) (fun G' g' i nm z σ' G1' H1' G2' H2' hx hI hg hs hr => ?_) fun σ' G' H' hI _ => q _ G' H' hI.1 .non
  obtain ⟨c, y, z', rfl, ec, ry, rz⟩ := dx_pair hr
  have hl : 7 ≤ σ'.length := hI.2
  refine gt_tup2 ec H2' hs.i _ ?_
  cases Dx.bl_inv rz
  refine k_no (ET.eq (et_not (et_tb (ed_var (v := .bl true) (R := dt (.bool true)) (by rw [List.getElem?_set_self (by simp; omega)]) (.bl true)))) rfl) hs.i fun G3' H3' s3' => ?_
  exact ⟨G3', hg.trans (hs.g.trans s3'.g), (hI.1.trans hs).trans s3', by simp; omega⟩
end
end RT
end
section
set_option maxRecDepth 100000
set_option maxHeartbeats 2000000
/-! RTCalc6: loops that gather. -/
namespace RT
open PySem PySem.Spec PyProof.Rows L2
open Evl (Ex Ex.refl Ex.trans Ex.new Ex.mut)
/-- the slots but k are as they were -/
def SB (k : Nat) (σ σ' : L2.St) : Prop := σ'.length = σ.length ∧ ∀ j, j ≠ k → σ'[j]? = σ[j]?
theorem SB.refl {k : Nat} {σ : L2.St} : SB k σ σ := ⟨rfl, fun _ _ => rfl⟩
theorem SB.set {k : Nat} {σ σ' : L2.St} {v : Option V} (h : SB k σ σ') : SB k σ (σ'.set k v) := ⟨by rw [List.length_set]; exact h.1, fun j hj => by rw [List.getElem?_set_ne (Ne.symm hj)]; exact h.2 j hj⟩
theorem SB.get {k j : Nat} {σ σ' : L2.St} {u : V} (h : SB k σ σ') (e : σ[j]? = some (some u)) (hj : j ≠ k := by decide) : σ'[j]? = some (some u) := (h.2 j hj).trans e
theorem SB.at {k : Nat} {σ σ' : L2.St} {v : V} (h : SB k σ σ') (hk : k < σ.length) : (σ'.set k (some v))[k]? = some (some v) := by rw [List.getElem?_set_self (by rw [h.1]; exact hk)]
section
variable {σ : L2.St} {G H G0 H0 : Hp} {D : Ends} {tt : TT} {te : TE} {tw : TS} {K : Fg} {ds : List PyData} {vs : List V} {p : Addr} {i k : Nat} {wi : TI} {α : Type} {xs : List α} {Rx : α → Rel}
/-- for x in ..: if ..: found.append(..) -/
theorem k_forApp (pred : α → Bool) (f : α → PyData) (s0 : Step G0 H0 G H) (h : EI wi σ G (xs.map Rx)) (h0 : H0 p = none) (hσ : σ[i]? = some (some (.ref p))) (hik : i ≠ k) (hp : H p = some (.lst vs)) (hG : G p = none) (hx : DxA G vs ds) (hz : ds.length + xs.length ≤ 90000)
    (cond : ∀ x ∈ xs, ∀ v σ' G1, Ex G G1 → SB k σ σ' → (Rx x).r v G1 → ET tt (σ'.set k (some v)) G1 (pred x) ∧ (pred x = true → ED te (σ'.set k (some v)) G1 (dt (f x))))
    (q : ∀ vs' σ' G1 H1, SB k σ σ' → Ex G G1 → Step G0 H0 G1 H1 → G1 p = none → H1 p = some (.lst vs') → DxA G1 vs' (ds ++ (xs.filter pred).map f) → tw D σ' H1) :
    tSeq (tFor wi (gName k) (tIfS tt (tDrop (tBM K "list" rAppend (tVar i) (tCons te tNil))) tNext)) tw D σ H := by
  refine k_for (D := { D with nx := tw D }) h s0.i (fun j σ' G' H' => SB k σ σ' ∧ Ex G G' ∧ Step G0 H0 G' H' ∧ G' p = none ∧ ∃ vs', H' p = some (.lst vs') ∧ DxA G' vs' (ds ++ ((xs.take j).filter pred).map f)) (fun G1 H1 s => ?_) (fun j σ' G' H' hI => hI.2.2.1.i) (fun G1 g1 j x v σ' G' H' G2 H2 hj hI g' hs hr => ?_) fun σ' G' H' ⟨sb, g, st, hn, vs', e1, e2⟩ _ => ?_
  · exact ⟨.refl, s.g, s0.trans s, s.s p (by rw [hp]; intro z; cases z) hG, vs, s.h _ _ hp, by simpa using hx.mono s.g⟩
  · obtain ⟨sb, g, st, hn, vs', e1, e2⟩ := hI
    have hxm : x ∈ xs := List.mem_of_getElem? hj
    obtain ⟨c1, c2⟩ := cond x hxm v σ' G2 (g.trans hs.g) sb hr
    have etake : xs.take (j + 1) = xs.take j ++ [x] := by rw [List.take_succ, hj]; rfl
    have st2 := st.trans hs
    have p2 : H2 p = some (.lst vs') := hs.h _ _ e1
    have n2 : G2 p = none := hs.s p (by rw [e1]; intro z; cases z) hn
    show tIfS tt _ tNext _ (σ'.set k (some v)) H2
    refine k_if c1 hs.i (fun hb G3 H3 s3 => ?_) fun hb G3 H3 s3 => ?_
    · refine ⟨.ref p, (sb.set).get hσ hik, .inl ⟨rfl, vs', SqL.of (s3.h _ _ p2)⟩, ?_⟩
      refine ((c2 hb).mono s3.g) H3 s3.i _ fun y G4 H4 s4 r => ?_
      have p4 : H4 p = some (.lst vs') := s4.h _ _ (s3.h _ _ p2)
      have n4 : G4 p = none := s4.s p (by rw [s3.h _ _ p2]; intro z; cases z) (s3.s p (by rw [p2]; intro z; cases z) n2)
      have hl : ((xs.take j).filter pred).length ≤ xs.length := Nat.le_trans (List.length_filter_le _ _) (by simp; omega)
      refine ⟨p, vs', y, rfl, rfl, p4, by rw [e2.length, List.length_append, List.length_map]; exact sz_lt (by omega), G4, g'.trans (hs.g.trans (s3.g.trans s4.g)), sb.set, g.trans (hs.g.trans (s3.g.trans s4.g)), ((st2.trans s3).trans s4).mut h0 n4, n4, _, upd_same, ?_⟩
      rw [etake, List.filter_append, List.map_append, ← List.append_assoc]
      simp only [List.filter_cons, hb, List.filter_nil, List.map_cons, List.map_nil, if_true]
      exact (e2.mono (hs.g.trans (s3.g.trans s4.g))).append (.cons r .nil)
    · refine ⟨G3, g'.trans (hs.g.trans s3.g), sb.set, g.trans (hs.g.trans s3.g), st2.trans s3, s3.s p (by rw [p2]; intro z; cases z) n2, vs', s3.h _ _ p2, ?_⟩
      rw [etake, List.filter_append]
      simp only [List.filter_cons, hb, List.filter_nil, Bool.false_eq_true, if_false, List.append_nil]
      exact e2.mono (hs.g.trans s3.g)
  · rw [List.take_length] at e2
    exact q vs' σ' G' H' sb g st hn e1 e2
end
end RT
end
section
/-! M1: masks: bits, counts. Core Lean alone. -/
namespace RT

/-- how many bits -/
def pc (m : Nat) : Nat := if h : m = 0 then 0 else m % 2 + pc (m / 2)
decreasing_by exact Nat.div_lt_self (Nat.pos_of_ne_zero h) (by decide)
theorem pc_zero : pc 0 = 0 := by rw [pc]; simp
theorem pc_step (m : Nat) : pc m = m % 2 + pc (m / 2) := by
  by_cases h : m = 0
  · subst h; rw [show (0 : Nat) / 2 = 0 from rfl, pc_zero]
  · rw [pc]; simp [h]
theorem pc_clear : ∀ (m : Nat), 0 < m → pc (m &&& (m - 1)) + 1 = pc m := by
  intro m
  induction m using Nat.strongRecOn with
  | ind m ih =>
    intro h
    by_cases ho : m % 2 = 1
    · have e1 : (m &&& (m - 1)) % 2 = 0 := by
        rcases Nat.mod_two_eq_zero_or_one (m &&& (m - 1)) with e | e
        · exact e
        · have := (Nat.and_mod_two_eq_one.mp e).2; omega
      have e2 : (m &&& (m - 1)) / 2 = m / 2 := by
        rw [Nat.and_div_two, show (m - 1) / 2 = m / 2 by omega, Nat.and_self]
      rw [pc_step (m &&& (m - 1)), pc_step m, e1, e2]; omega
    · have hp : 0 < m / 2 := by omega
      have e1 : (m &&& (m - 1)) % 2 = 0 := by
        rcases Nat.mod_two_eq_zero_or_one (m &&& (m - 1)) with e | e
        · exact e
        · have := (Nat.and_mod_two_eq_one.mp e).1; omega
      have e2 : (m &&& (m - 1)) / 2 = (m / 2 &&& (m / 2 - 1)) := by
        rw [Nat.and_div_two, show (m - 1) / 2 = m / 2 - 1 by omega]
      have := ih (m / 2) (by omega) hp
      rw [pc_step (m &&& (m - 1)), pc_step m, e1, e2]; omega
theorem and_pred_lt (m : Nat) (h : 0 < m) : (m &&& (m - 1)) < m := Nat.lt_of_le_of_lt Nat.and_le_right (by omega)

/-- a bit that is not there is put in -/
theorem tb_add : ∀ (a x i : Nat), x.testBit a = false → (x + 2 ^ a).testBit i = (decide (i = a) || x.testBit i)
  | 0, x, i, h => by
    have hx : x % 2 = 0 := by
      have := h; simp [Nat.testBit_zero] at this; omega
    cases i with
    | zero => simp [Nat.testBit_zero]; omega
    | succ i =>
      rw [Nat.testBit_succ, Nat.testBit_succ]
      have e : (x + 2 ^ 0) / 2 = x / 2 := by simp; omega
      rw [e]; simp
  | a + 1, x, i, h => by
    rw [Nat.testBit_succ] at h
    have e : (x + 2 ^ (a + 1)) / 2 = x / 2 + 2 ^ a := by rw [Nat.pow_succ]; omega
    cases i with
    | zero =>
      have e1 : (x + 2 ^ (a + 1)) % 2 = x % 2 := by rw [Nat.pow_succ]; omega
      simp [Nat.testBit_zero, e1]
    | succ i =>
      rw [Nat.testBit_succ, Nat.testBit_succ, e, tb_add a (x / 2) i h]
      simp
theorem tb_ge {a x : Nat} (h : x.testBit a = true) : 2 ^ a ≤ x := Nat.le_of_not_lt fun z => by rw [Nat.testBit_lt_two_pow z] at h; cases h
theorem tb_sub_self : ∀ (a x : Nat), x.testBit a = true → (x - 2 ^ a).testBit a = false
  | 0, x, h => by simp [Nat.testBit_zero] at h ⊢; omega
  | a + 1, x, h => by
    have hg := tb_ge h
    rw [Nat.testBit_succ] at h ⊢
    have e : (x - 2 ^ (a + 1)) / 2 = x / 2 - 2 ^ a := by rw [Nat.pow_succ] at hg ⊢; omega
    rw [e]; exact tb_sub_self a _ h
theorem tb_sub (a x i : Nat) (h : x.testBit a = true) : (x - 2 ^ a).testBit i = (x.testBit i && !decide (i = a)) := by
  have h1 := tb_sub_self a x h
  have h2 := tb_add a (x - 2 ^ a) i h1
  rw [Nat.sub_add_cancel (tb_ge h)] at h2
  by_cases e : i = a
  · subst e; simp [h1]
  · rw [h2]; simp [e]
theorem pc_add : ∀ (a x : Nat), x.testBit a = false → pc (x + 2 ^ a) = pc x + 1
  | 0, x, h => by
    have hx : x % 2 = 0 := by simp [Nat.testBit_zero] at h; omega
    rw [pc_step (x + 2 ^ 0), pc_step x, show (x + 2 ^ 0) / 2 = x / 2 by simp; omega]; simp; omega
  | a + 1, x, h => by
    rw [Nat.testBit_succ] at h
    have e : (x + 2 ^ (a + 1)) / 2 = x / 2 + 2 ^ a := by rw [Nat.pow_succ]; omega
    have e1 : (x + 2 ^ (a + 1)) % 2 = x % 2 := by rw [Nat.pow_succ]; omega
    rw [pc_step (x + 2 ^ (a + 1)), pc_step x, e, e1, pc_add a _ h]; omega
theorem pc_sub (a x : Nat) (h : x.testBit a = true) : pc (x - 2 ^ a) + 1 = pc x := by
  have := pc_add a (x - 2 ^ a) (tb_sub_self a x h)
  rw [Nat.sub_add_cancel (tb_ge h)] at this; omega

/-- the mask of some places -/
def maskOf (l : List Nat) : Nat := (l.map (2 ^ ·)).sum
theorem maskOf_cons (a : Nat) (l : List Nat) : maskOf (a :: l) = maskOf l + 2 ^ a := by simp [maskOf]; omega
theorem maskOf_nil : maskOf [] = 0 := rfl
theorem tb_maskOf : ∀ {l : List Nat}, l.Nodup → ∀ i, (maskOf l).testBit i = decide (i ∈ l)
  | [], _, i => by simp [maskOf_nil]
  | a :: l, h, i => by
    obtain ⟨h1, h2⟩ := List.nodup_cons.mp h
    have ih := tb_maskOf h2
    rw [maskOf_cons, tb_add a _ i (by rw [ih]; simp [h1]), ih]
    by_cases e : i = a <;> simp [e]
theorem pc_maskOf {l : List Nat} (h : l.Nodup) : pc (maskOf l) = l.length := by
  induction l with
  | nil => exact pc_zero
  | cons a l ih =>
    obtain ⟨h1, h2⟩ := List.nodup_cons.mp h
    rw [maskOf_cons, pc_add a _ (by rw [tb_maskOf h2]; simp [h1]), ih h2]; rfl
theorem maskOf_lt {n : Nat} {l : List Nat} (h : l.Nodup) (hl : ∀ i ∈ l, i < n) : maskOf l < 2 ^ n := by
  refine Nat.lt_pow_two_of_testBit _ fun i hi => ?_
  rw [tb_maskOf h]; simp; intro z; have := hl i z; omega
theorem and_maskOf {l : List Nat} (h : l.Nodup) (m : Nat) : m &&& maskOf l = maskOf (l.filter m.testBit) := by
  refine Nat.eq_of_testBit_eq fun i => ?_
  rw [Nat.testBit_and, tb_maskOf h, tb_maskOf (h.filter _)]
  by_cases hi : i ∈ l <;> cases hb : m.testBit i <;> simp [List.mem_filter, hi, hb]
theorem pc_and {l : List Nat} (h : l.Nodup) (m : Nat) : pc (m &&& maskOf l) = (l.filter m.testBit).length := by
  rw [and_maskOf h, pc_maskOf (h.filter _)]
/-- a mask below 2^n is that of its places -/
theorem mask_eta {n m : Nat} (h : m < 2 ^ n) : maskOf ((List.range n).filter m.testBit) = m := by
  refine Nat.eq_of_testBit_eq fun i => ?_
  rw [tb_maskOf (List.nodup_range.filter _)]
  by_cases hi : i < n
  · cases hb : m.testBit i <;> simp [List.mem_filter, hi, hb]
  · rw [Nat.testBit_lt_two_pow (Nat.lt_of_lt_of_le h (Nat.pow_le_pow_right (by decide) (by omega)))]
    simp [List.mem_filter, hi]
theorem pc_range {n m : Nat} (h : m < 2 ^ n) : pc m = ((List.range n).filter m.testBit).length := by
  conv => lhs; rw [← mask_eta h]
  exact pc_maskOf (List.nodup_range.filter _)
/-- two bits, asked at once -/
theorem and_pair {x y m : Nat} (h : x ≠ y) : m &&& (2 ^ x + 2 ^ y) = 2 ^ x + 2 ^ y ↔ m.testBit x = true ∧ m.testBit y = true := by
  have nd : [y, x].Nodup := by simp; omega
  have e : maskOf [y, x] = 2 ^ x + 2 ^ y := by simp [maskOf]; omega
  rw [← e]
  constructor
  · intro z
    have t : ∀ i, (m &&& maskOf [y, x]).testBit i = (maskOf [y, x]).testBit i := fun i => by rw [z]
    constructor
    · have := t x; rw [Nat.testBit_and, tb_maskOf nd] at this; simpa using this
    · have := t y; rw [Nat.testBit_and, tb_maskOf nd] at this; simpa using this
  · rintro ⟨h1, h2⟩
    rw [and_maskOf nd]
    simp [h1, h2]
theorem and_bit (m a : Nat) : m &&& 2 ^ a = if m.testBit a then 2 ^ a else 0 := by
  have e : maskOf [a] = 2 ^ a := by simp [maskOf]
  rw [← e, and_maskOf (by simp)]
  cases h : m.testBit a <;> simp [h, maskOf]
theorem add_lt {n m i : Nat} (h : m < 2 ^ n) (hi : i < n) (hb : m.testBit i = false) : m + 2 ^ i < 2 ^ n := by
  refine Nat.lt_pow_two_of_testBit _ fun j hj => ?_
  rw [tb_add i m j hb, Nat.testBit_lt_two_pow (Nat.lt_of_lt_of_le h (Nat.pow_le_pow_right (by decide) hj))]
  simp; omega
end RT
/-! M2: ways with prices, least prices; the two searches. Core Lean alone. -/
namespace RT

/-- a way of some steps from a to b, its price -/
inductive Way (E : Nat → Nat → Nat → Prop) : Nat → Nat → Nat → Nat → Prop where
  | refl (a : Nat) : Way E a 0 a 0
  | snoc {a k b c d w : Nat} : Way E a k b c → E b d w → Way E a (k + 1) d (c + w)
section
variable {E : Nat → Nat → Nat → Prop}
theorem Way.cons {a b w : Nat} (h : E a b w) : ∀ {k d c : Nat}, Way E b k d c → Way E a (k + 1) d (w + c) := by
  intro k d c hw
  induction hw with
  | refl => simpa using Way.snoc (Way.refl a) h
  | snoc _ e ih => rw [← Nat.add_assoc]; exact .snoc ih e
theorem Way.append {a b k c : Nat} (h : Way E a k b c) : ∀ {l d x : Nat}, Way E b l d x → Way E a (k + l) d (c + x) := by
  intro l d x hw
  induction hw with
  | refl => exact h
  | snoc _ e ih => rw [← Nat.add_assoc, ← Nat.add_assoc]; exact .snoc ih e
/-- the first step -/
theorem Way.uncons {a k d c : Nat} (h : Way E a k d c) : (k = 0 ∧ a = d ∧ c = 0) ∨ ∃ b w j x, E a b w ∧ Way E b j d x ∧ k = j + 1 ∧ c = w + x := by
  induction h with
  | refl => exact .inl ⟨rfl, rfl, rfl⟩
  | snoc hw e ih =>
    rename_i k b c d w
    rcases ih with ⟨rfl, rfl, rfl⟩ | ⟨b', w', j, x, e', h', rfl, rfl⟩
    · exact .inr ⟨d, w, 0, 0, e, .refl _, rfl, by omega⟩
    · exact .inr ⟨b', w', j + 1, x + w, e', .snoc h' e, rfl, by omega⟩
/-- the least price, or none -/
def IsDist (E : Nat → Nat → Nat → Prop) (a b : Nat) : Option Nat → Prop
  | none => ∀ k c, ¬ Way E a k b c
  | some c => (∃ k, Way E a k b c) ∧ ∀ k c', Way E a k b c' → c ≤ c'
theorem IsDist.eq {a b : Nat} : ∀ {o p : Option Nat}, IsDist E a b o → IsDist E a b p → o = p
  | none, none, _, _ => rfl
  | none, some c, h, ⟨⟨k, g⟩, _⟩ => absurd g (h k c)
  | some c, none, ⟨⟨k, g⟩, _⟩, h => absurd g (h k c)
  | some c, some d, ⟨⟨k, g⟩, h⟩, ⟨⟨l, g'⟩, h'⟩ => by
    have := h l d g'; have := h' k c g; congr 1; omega

/-! ### the search from one -/
structure DI (E : Nat → Nat → Nat → Prop) (src : Nat) (costs : Nat → Option (Nat × Nat)) (settled : Nat → Option Nat) (line : List (Nat × Nat × Nat)) : Prop where
  snd : ∀ e ∈ line, ∃ k, Way E src k e.2.2 e.1
  ssnd : ∀ m c, settled m = some c → ∃ k, Way E src k m c
  cov : ∀ m c0 k0, costs m = some (c0, k0) → (∃ s, settled m = some s ∧ s ≤ c0) ∨ (c0, k0, m) ∈ line
  exp : ∀ m c, settled m = some c → ∀ m' w, E m m' w → ∃ c0 k0, costs m' = some (c0, k0) ∧ c0 ≤ c + w
  mono : ∀ m s, settled m = some s → ∀ e ∈ line, s ≤ e.1
  src : ∃ k0, costs src = some (0, k0)
theorem DI.start (src : Nat) : DI E src (fun m => if m = src then some (0, 0) else none) (fun _ => none) [(0, 0, src)] where
  snd := fun e he => by simp at he; subst he; exact ⟨0, .refl _⟩
  ssnd := fun _ _ h => by cases h
  cov := fun m c0 k0 h => by
    split at h
    · cases h; rename_i e; subst e; simp
    · cases h
  exp := fun _ _ h => by cases h
  mono := fun _ _ h => by cases h
  src := ⟨0, by simp⟩
/-- behind the search -/
theorem DI.done {src : Nat} {costs : Nat → Option (Nat × Nat)} {settled : Nat → Option Nat} (h : DI E src costs settled []) (m : Nat) : IsDist E src m (settled m) := by
  have full : ∀ k b c, Way E src k b c → ∃ s, settled b = some s ∧ s ≤ c := by
    intro k b c hw
    induction hw with
    | refl =>
      obtain ⟨k0, e⟩ := h.src
      rcases h.cov _ _ _ e with ⟨s, h1, h2⟩ | h1
      · exact ⟨s, h1, h2⟩
      · cases h1
    | snoc _ e ih =>
      obtain ⟨s, h1, h2⟩ := ih
      obtain ⟨c0, k0, h3, h4⟩ := h.exp _ _ h1 _ _ e
      rcases h.cov _ _ _ h3 with ⟨s', h5, h6⟩ | h5
      · exact ⟨s', h5, by omega⟩
      · cases h5
  cases e : settled m with
  | none =>
    intro k c hw
    obtain ⟨s, h1, _⟩ := full k m c hw
    rw [e] at h1; cases h1
  | some c =>
    refine ⟨h.ssnd m c e, fun k c' hw => ?_⟩
    obtain ⟨s, h1, h2⟩ := full k m c' hw
    rw [e] at h1; cases h1; exact h2
/-- the popped one was settled before -/
theorem DI.pop_old {src : Nat} {costs : Nat → Option (Nat × Nat)} {settled : Nat → Option Nat} {line line' : List (Nat × Nat × Nat)} {e : Nat × Nat × Nat} {s : Nat}
    (h : DI E src costs settled line) (hp : (e :: line').Perm line) (hs : settled e.2.2 = some s) : DI E src costs settled line' where
  snd := fun x hx => h.snd x (hp.mem_iff.mp (List.mem_cons_of_mem _ hx))
  ssnd := h.ssnd
  cov := fun m c0 k0 hc => by
    rcases h.cov m c0 k0 hc with h1 | h1
    · exact .inl h1
    · rcases List.mem_cons.mp (hp.mem_iff.mpr h1) with h2 | h2
      · have e1 : e.2.2 = m := by rw [← h2]
        have e2 : e.1 = c0 := by rw [← h2]
        refine .inl ⟨s, by rw [← e1]; exact hs, ?_⟩
        rw [← e2]
        exact h.mono _ _ hs e (hp.mem_iff.mp List.mem_cons_self)
      · exact .inr h2
  exp := h.exp
  mono := fun m s' hm x hx => h.mono m s' hm x (hp.mem_iff.mp (List.mem_cons_of_mem _ hx))
  src := h.src
/-- what links does with one neighbour -/
def link1 (c k : Nat) (st : (Nat → Option (Nat × Nat)) × List (Nat × Nat × Nat)) (p : Nat × Nat) : (Nat → Option (Nat × Nat)) × List (Nat × Nat × Nat) :=
  if (match st.1 p.1 with | none => true | some (c0, k0) => decide (c + p.2 < c0 ∨ (c + p.2 = c0 ∧ k + 1 < k0))) = true then
    (fun m => if m = p.1 then some (c + p.2, k + 1) else st.1 m, st.2 ++ [(c + p.2, k + 1, p.1)])
  else st
def linkAll (c k : Nat) (nb : List (Nat × Nat)) (costs : Nat → Option (Nat × Nat)) : (Nat → Option (Nat × Nat)) × List (Nat × Nat × Nat) := nb.foldl (link1 c k) (costs, [])
/-- the state within links: m is settled with c, its neighbours up to here are seen -/
structure LI (E : Nat → Nat → Nat → Prop) (src : Nat) (costs : Nat → Option (Nat × Nat)) (settled : Nat → Option Nat) (line : List (Nat × Nat × Nat)) (c : Nat) (seen : List (Nat × Nat)) (st : (Nat → Option (Nat × Nat)) × List (Nat × Nat × Nat)) : Prop where
  snd : ∀ e ∈ st.2, (∃ k, Way E src k e.2.2 e.1) ∧ c ≤ e.1
  cov : ∀ m c0 k0, st.1 m = some (c0, k0) → (∃ s, settled m = some s ∧ s ≤ c0) ∨ (c0, k0, m) ∈ line ∨ (c0, k0, m) ∈ st.2
  low : ∀ m c0 k0, costs m = some (c0, k0) → ∃ c1 k1, st.1 m = some (c1, k1) ∧ c1 ≤ c0
  got : ∀ p ∈ seen, ∃ c0 k0, st.1 p.1 = some (c0, k0) ∧ c0 ≤ c + p.2
theorem LI.step {src : Nat} {costs : Nat → Option (Nat × Nat)} {settled : Nat → Option Nat} {line : List (Nat × Nat × Nat)} {c k : Nat} {seen : List (Nat × Nat)} {st : (Nat → Option (Nat × Nat)) × List (Nat × Nat × Nat)} {p : Nat × Nat}
    (h : LI E src costs settled line c seen st) (hp : ∃ j, Way E src j p.1 (c + p.2)) : LI E src costs settled line c (seen ++ [p]) (link1 c k st p) := by
  obtain ⟨st1, st2⟩ := st
  obtain ⟨q, w⟩ := p
  unfold link1
  dsimp only at *
  split
  · rename_i ht
    have hle : ∀ c0 k0, st1 q = some (c0, k0) → c + w ≤ c0 := fun c0 k0 e => by
      rw [e] at ht; simp at ht; omega
    refine ⟨fun e he => ?_, fun m c0 k0 hm => ?_, fun m c0 k0 hm => ?_, fun x hx => ?_⟩
    · rcases List.mem_append.mp he with h1 | h1
      · exact h.snd e h1
      · simp at h1; subst h1; exact ⟨hp, by dsimp only; omega⟩
    · dsimp only at hm
      split at hm
      · cases hm; rename_i e; subst e; exact .inr (.inr (by simp))
      · rcases h.cov m c0 k0 hm with h1 | h1 | h1
        · exact .inl h1
        · exact .inr (.inl h1)
        · exact .inr (.inr (List.mem_append_left _ h1))
    · obtain ⟨c1, k1, h1, h2⟩ := h.low m c0 k0 hm
      by_cases e : m = q
      · subst e
        have := hle _ _ h1
        exact ⟨c + w, k + 1, by simp, by omega⟩
      · exact ⟨c1, k1, by dsimp only; rw [if_neg e]; exact h1, h2⟩
    · rcases List.mem_append.mp hx with h1 | h1
      · obtain ⟨c0, k0, h2, h3⟩ := h.got x h1
        by_cases e : x.1 = q
        · have := hle c0 k0 (e ▸ h2)
          exact ⟨c + w, k + 1, by dsimp only; rw [if_pos e], by omega⟩
        · exact ⟨c0, k0, by dsimp only; rw [if_neg e]; exact h2, h3⟩
      · simp at h1; subst h1
        exact ⟨c + w, k + 1, by dsimp only; rw [if_pos rfl], by dsimp only; omega⟩
  · rename_i ht
    refine ⟨h.snd, h.cov, h.low, fun x hx => ?_⟩
    rcases List.mem_append.mp hx with h1 | h1
    · exact h.got x h1
    · simp at h1; subst h1
      dsimp only
      cases e : st1 q with
      | none => rw [e] at ht; simp at ht
      | some y =>
        obtain ⟨c0, k0⟩ := y
        rw [e] at ht; simp at ht
        exact ⟨c0, k0, rfl, by omega⟩
theorem LI.all {src : Nat} {costs : Nat → Option (Nat × Nat)} {settled : Nat → Option Nat} {line : List (Nat × Nat × Nat)} {c k : Nat} : ∀ (nb seen : List (Nat × Nat)) (st : (Nat → Option (Nat × Nat)) × List (Nat × Nat × Nat)),
    LI E src costs settled line c seen st → (∀ p ∈ nb, ∃ j, Way E src j p.1 (c + p.2)) → LI E src costs settled line c (seen ++ nb) (nb.foldl (link1 c k) st)
  | [], seen, st, h, _ => by simpa using h
  | p :: nb, seen, st, h, hp => by
    have := LI.all (k := k) nb (seen ++ [p]) _ (h.step (k := k) (hp p List.mem_cons_self)) (fun q hq => hp q (List.mem_cons_of_mem _ hq))
    simpa using this
/-- the popped one is settled now, its links are in the line -/
theorem DI.pop_new {src : Nat} {costs : Nat → Option (Nat × Nat)} {settled : Nat → Option Nat} {line line' line2 : List (Nat × Nat × Nat)} {e : Nat × Nat × Nat} {nb : List (Nat × Nat)}
    (h : DI E src costs settled line) (hp : (e :: line').Perm line) (hmin : ∀ x ∈ line', e.1 ≤ x.1) (hs : settled e.2.2 = none) (hnb : ∀ m w, E e.2.2 m w ↔ (m, w) ∈ nb)
    (hl : line2.Perm (line' ++ (linkAll e.1 e.2.1 nb costs).2)) : DI E src (linkAll e.1 e.2.1 nb costs).1 (fun m => if m = e.2.2 then some e.1 else settled m) line2 := by
  obtain ⟨c, k, q⟩ := e
  dsimp only at *
  obtain ⟨j, hway⟩ := h.snd (c, k, q) (hp.mem_iff.mp List.mem_cons_self)
  dsimp only at hway
  have L0 : LI E src costs (fun m => if m = q then some c else settled m) line' c [] (costs, []) := by
    refine ⟨fun _ z => (nomatch z), fun m c0 k0 hm => ?_, fun m c0 k0 hm => ⟨c0, k0, hm, Nat.le_refl _⟩, fun _ z => (nomatch z)⟩
    rcases h.cov m c0 k0 hm with ⟨s, h1, h2⟩ | h1
    · by_cases e : m = q
      · subst e; rw [hs] at h1; cases h1
      · exact .inl ⟨s, by rw [if_neg e]; exact h1, h2⟩
    · rcases List.mem_cons.mp (hp.mem_iff.mpr h1) with h2 | h2
      · cases h2; exact .inl ⟨c, by simp, Nat.le_refl _⟩
      · exact .inr (.inl h2)
  have L := LI.all (k := k) nb [] _ L0 (fun p hp => ⟨_, hway.snoc ((hnb p.1 p.2).mpr hp)⟩)
  rw [List.nil_append] at L
  change LI E src costs _ line' c nb (linkAll c k nb costs) at L
  refine ⟨fun x hx => ?_, fun m s hm => ?_, fun m c0 k0 hm => ?_, fun m s hm m' w he => ?_, fun m s hm x hx => ?_, ?_⟩
  · rcases List.mem_append.mp (hl.mem_iff.mp hx) with h1 | h1
    · exact h.snd x (hp.mem_iff.mp (List.mem_cons_of_mem _ h1))
    · exact (L.snd x h1).1
  · split at hm
    · cases hm; rename_i e; subst e; exact ⟨j, hway⟩
    · exact h.ssnd m s hm
  · rcases L.cov m c0 k0 hm with h1 | h1 | h1
    · exact .inl h1
    · exact .inr (hl.mem_iff.mpr (List.mem_append_left _ h1))
    · exact .inr (hl.mem_iff.mpr (List.mem_append_right _ h1))
  · split at hm
    · cases hm; rename_i e; subst e
      exact L.got (m', w) ((hnb m' w).mp he)
    · obtain ⟨c0, k0, h1, h2⟩ := h.exp m s hm m' w he
      obtain ⟨c1, k1, h3, h4⟩ := L.low m' c0 k0 h1
      exact ⟨c1, k1, h3, by omega⟩
  · have hse : s ≤ c := by
      split at hm
      · cases hm; exact Nat.le_refl _
      · exact h.mono m s hm (c, k, q) (hp.mem_iff.mp List.mem_cons_self)
    rcases List.mem_append.mp (hl.mem_iff.mp hx) with h1 | h1
    · exact Nat.le_trans hse (hmin x h1)
    · exact Nat.le_trans hse (L.snd x h1).2
  · obtain ⟨k0, e⟩ := h.src
    obtain ⟨c1, k1, h1, h2⟩ := L.low src 0 k0 e
    exact ⟨k1, by rw [h1]; congr; omega⟩

/-! ### the search to one: rounds over a list of edges -/
def relax1 (st : (Nat → Option Nat) × Bool) (e : Nat × Nat × Nat) : (Nat → Option Nat) × Bool :=
  match st.1 e.2.1 with
  | none => st
  | some x =>
    if (match st.1 e.1 with | none => true | some y => decide (x + e.2.2 < y)) = true then (fun m => if m = e.1 then some (x + e.2.2) else st.1 m, true) else st
def round (es : List (Nat × Nat × Nat)) (F : Nat → Option Nat) : (Nat → Option Nat) × Bool := es.foldl relax1 (F, false)
def leq (F G : Nat → Option Nat) : Prop := ∀ m c, G m = some c → ∃ c', F m = some c' ∧ c' ≤ c
theorem leq.refl (F : Nat → Option Nat) : leq F F := fun _ c h => ⟨c, h, Nat.le_refl _⟩
/-- within a round: G is what stood at its start -/
structure RI (E : Nat → Nat → Nat → Prop) (goal : Nat) (G : Nat → Option Nat) (seen : List (Nat × Nat × Nat)) (st : (Nat → Option Nat) × Bool) : Prop where
  snd : ∀ m c, st.1 m = some c → ∃ k, Way E m k goal c
  low : leq st.1 G
  got : ∀ e ∈ seen, ∀ x, G e.2.1 = some x → ∃ y, st.1 e.1 = some y ∧ y ≤ x + e.2.2
  same : st.2 = false → st.1 = G
theorem RI.step {goal : Nat} {G : Nat → Option Nat} {seen : List (Nat × Nat × Nat)} {st : (Nat → Option Nat) × Bool} {e : Nat × Nat × Nat} (h : RI E goal G seen st) (he : E e.1 e.2.1 e.2.2) : RI E goal G (seen ++ [e]) (relax1 st e) := by
  obtain ⟨F, fl⟩ := st
  obtain ⟨u, v, w⟩ := e
  unfold relax1
  dsimp only at *
  cases hv : F v with
  | none =>
    refine ⟨h.snd, h.low, fun x hx => ?_, h.same⟩
    rcases List.mem_append.mp hx with h1 | h1
    · exact h.got x h1
    · simp at h1; subst h1
      intro y hy
      obtain ⟨c', h2, _⟩ := h.low v y hy
      dsimp only at h2
      rw [hv] at h2; cases h2
  | some x =>
    dsimp only
    split
    · rename_i ht
      have hle : ∀ y, F u = some y → x + w ≤ y := fun y e => by rw [e] at ht; simp at ht; omega
      refine ⟨fun m c hm => ?_, fun m c hm => ?_, fun z hz y hy => ?_, fun z => nomatch z⟩
      · dsimp only at hm
        split at hm
        · cases hm; rename_i e; subst e
          obtain ⟨k, hk⟩ := h.snd v x hv
          exact ⟨k + 1, by rw [Nat.add_comm x w]; exact hk.cons he⟩
        · exact h.snd m c hm
      · obtain ⟨c', h1, h2⟩ := h.low m c hm
        by_cases e : m = u
        · subst e; have := hle c' h1; exact ⟨x + w, by simp, by omega⟩
        · exact ⟨c', by dsimp only; rw [if_neg e]; exact h1, h2⟩
      · rcases List.mem_append.mp hz with h1 | h1
        · obtain ⟨y', h2, h3⟩ := h.got z h1 y hy
          by_cases e : z.1 = u
          · have := hle y' (e ▸ h2); exact ⟨x + w, by dsimp only; rw [if_pos e], by omega⟩
          · exact ⟨y', by dsimp only; rw [if_neg e]; exact h2, h3⟩
        · simp at h1; subst h1
          obtain ⟨x', h2, h3⟩ := h.low v y hy
          dsimp only at h2 h3
          rw [hv] at h2; cases h2
          exact ⟨x + w, by dsimp only; rw [if_pos rfl], by dsimp only; omega⟩
    · rename_i ht
      refine ⟨h.snd, h.low, fun z hz y hy => ?_, h.same⟩
      rcases List.mem_append.mp hz with h1 | h1
      · exact h.got z h1 y hy
      · simp at h1; subst h1
        obtain ⟨x', h2, h3⟩ := h.low v y hy
        dsimp only at h2 h3
        rw [hv] at h2; cases h2
        dsimp only
        cases hu : F u with
        | none => rw [hu] at ht; simp at ht
        | some y' => rw [hu] at ht; simp at ht; exact ⟨y', rfl, by omega⟩
theorem RI.all {goal : Nat} {G : Nat → Option Nat} : ∀ (es seen : List (Nat × Nat × Nat)) (st : (Nat → Option Nat) × Bool), RI E goal G seen st → (∀ e ∈ es, E e.1 e.2.1 e.2.2) → RI E goal G (seen ++ es) (es.foldl relax1 st)
  | [], seen, st, h, _ => by simpa using h
  | e :: es, seen, st, h, hp => by
    have := RI.all es (seen ++ [e]) _ (h.step (hp e List.mem_cons_self)) (fun q hq => hp q (List.mem_cons_of_mem _ hq))
    simpa using this
/-- after t rounds -/
structure BI (E : Nat → Nat → Nat → Prop) (goal t : Nat) (F : Nat → Option Nat) : Prop where
  snd : ∀ m c, F m = some c → ∃ k, Way E m k goal c
  cmp : ∀ m k c, Way E m k goal c → k ≤ t → ∃ c', F m = some c' ∧ c' ≤ c
theorem BI.start (goal : Nat) : BI E goal 0 (fun m => if m = goal then some 0 else none) where
  snd := fun m c h => by
    split at h
    · cases h; rename_i e; subst e; exact ⟨0, .refl _⟩
    · cases h
  cmp := fun m k c h hk => by
    have : k = 0 := by omega
    subst this
    cases h
    exact ⟨0, by simp, Nat.le_refl _⟩
theorem BI.round {goal t : Nat} {F : Nat → Option Nat} {es : List (Nat × Nat × Nat)} (h : BI E goal t F) (hes : ∀ u v w, E u v w ↔ (u, v, w) ∈ es) : BI E goal (t + 1) (round es F).1 ∧ ((round es F).2 = false → ∀ m, IsDist E m goal ((round es F).1 m)) := by
  have R : RI E goal F ([] ++ es) (es.foldl relax1 (F, false)) := RI.all es [] (F, false) ⟨h.snd, leq.refl F, fun _ z => (nomatch z), fun _ => rfl⟩ (fun e he => (hes e.1 e.2.1 e.2.2).mpr he)
  rw [List.nil_append] at R
  change RI E goal F es (RT.round es F) at R
  refine ⟨⟨R.snd, fun m k c hw hk => ?_⟩, fun hf m => ?_⟩
  · rcases hw.uncons with ⟨rfl, rfl, rfl⟩ | ⟨b, w, j, x, he, hw', rfl, rfl⟩
    · obtain ⟨c', h1, h2⟩ := h.cmp m 0 0 (.refl _) (by omega)
      obtain ⟨c2, h3, h4⟩ := R.low m c' h1
      exact ⟨c2, h3, by omega⟩
    · obtain ⟨c', h1, h2⟩ := h.cmp b j x hw' (by omega)
      obtain ⟨y, h3, h4⟩ := R.got (m, b, w) ((hes m b w).mp he) c' h1
      exact ⟨y, h3, by dsimp only at h4; omega⟩
  · have hG : (RT.round es F).1 = F := R.same hf
    have full : ∀ k m c, Way E m k goal c → ∃ s, F m = some s ∧ s ≤ c := by
      intro k
      induction k with
      | zero => intro m c hw; exact h.cmp m 0 c hw (by omega)
      | succ k ih =>
        intro m c hw
        rcases hw.uncons with ⟨z, _, _⟩ | ⟨b, w, j, x, he, hw', hk, rfl⟩
        · cases z
        · have : j = k := by omega
          subst this
          obtain ⟨s, h1, h2⟩ := ih b x hw'
          obtain ⟨y, h3, h4⟩ := R.got (m, b, w) ((hes m b w).mp he) s h1
          rw [hG] at h3
          exact ⟨y, h3, by dsimp only at h4; omega⟩
    rw [hG]
    cases e : F m with
    | none => intro k c hw; obtain ⟨s, h1, _⟩ := full k m c hw; rw [e] at h1; cases h1
    | some c => exact ⟨h.snd m c e, fun k c' hw => by obtain ⟨s, h1, h2⟩ := full k m c' hw; rw [e] at h1; cases h1; exact h2⟩
/-- a way has one that is not longer than there are edges, and is not dearer -/
theorem Way.parts {k m g c : Nat} (hw : Way E m k g c) : ∃ (l : List (Nat × Nat × Nat)) (p : Nat → Nat), l.length = k ∧ (∀ e ∈ l, E e.1 e.2.1 e.2.2) ∧ p k = c ∧ (∀ i j, i ≤ j → j ≤ k → p i ≤ p j) ∧
    ∀ i e, l[i]? = some e → Way E m i e.1 (p i) ∧ ∃ c2, Way E e.1 (k - i) g c2 ∧ p i + c2 = c := by
  induction hw with
  | refl => exact ⟨[], fun _ => 0, rfl, fun _ z => (nomatch z), rfl, fun _ _ _ _ => Nat.le_refl _, fun i e z => by simp at z⟩
  | snoc hw he ih =>
    rename_i k b c d w
    obtain ⟨l, p, h1, h2, h3, h4, h5⟩ := ih
    refine ⟨l ++ [(b, d, w)], fun i => if i ≤ k then p i else c + w, by simp [h1], fun e hm => ?_, if_neg (by omega), fun i j hij hj => ?_, fun i e hi => ?_⟩
    · rcases List.mem_append.mp hm with h6 | h6
      · exact h2 e h6
      · simp at h6; subst h6; exact he
    · dsimp only
      by_cases e1 : j ≤ k
      · rw [if_pos e1, if_pos (by omega)]; exact h4 i j hij e1
      · rw [if_neg e1]
        by_cases e2 : i ≤ k
        · rw [if_pos e2]; have := h4 i k e2 (Nat.le_refl _); omega
        · rw [if_neg e2]; exact Nat.le_refl _
    · by_cases hlt : i < l.length
      · rw [List.getElem?_append_left hlt] at hi
        obtain ⟨w1, c2, w2, e3⟩ := h5 i e hi
        dsimp only
        rw [if_pos (by omega)]
        refine ⟨w1, c2 + w, ?_, by omega⟩
        have := w2.snoc he
        rwa [show k - i + 1 = k + 1 - i by omega] at this
      · have : i = l.length := by
          have := (List.getElem?_eq_some_iff.mp hi).1
          simp at this; omega
        subst this
        simp at hi; subst hi
        dsimp only
        rw [if_pos (by omega), h1, h3]
        exact ⟨hw, w, by simpa using Way.snoc (Way.refl b) he, rfl⟩
theorem Way.simple {es : List (Nat × Nat × Nat)} (hes : ∀ u v w, E u v w → (u, v, w) ∈ es) : ∀ (n k m g c : Nat), k ≤ n → Way E m k g c → ∃ k' c', Way E m k' g c' ∧ c' ≤ c ∧ k' ≤ es.length := by
  intro n
  induction n with
  | zero => intro k m g c hk hw; exact ⟨k, c, hw, Nat.le_refl _, by omega⟩
  | succ n ih =>
    intro k m g c hk hw
    by_cases hle : k ≤ es.length
    · exact ⟨k, c, hw, Nat.le_refl _, hle⟩
    · obtain ⟨l, p, h1, h2, h3, h4, h5⟩ := hw.parts
      have hnd : ¬ l.Nodup := fun nd => by
        have := nd.length_le_of_subset (l₂ := es) (fun e he => hes e.1 e.2.1 e.2.2 (h2 e he))
        omega
      have : ∃ (i j : Nat) (hi : i < l.length) (hj : j < l.length), i < j ∧ l[i] = l[j] := by
        apply Classical.byContradiction
        intro hn
        refine hnd (List.pairwise_iff_getElem.mpr fun i j hi hj hij heq => hn ⟨i, j, hi, hj, hij, heq⟩)
      obtain ⟨i, j, hi, hj, hij, heq⟩ := this
      obtain ⟨w1, _, _, _⟩ := h5 i l[i] (List.getElem?_eq_getElem hi)
      obtain ⟨_, c2, w2, e2⟩ := h5 j l[j] (List.getElem?_eq_getElem hj)
      have := h4 i j (by omega) (by omega)
      rw [heq] at w1
      obtain ⟨k', c', hw', hc', hk'⟩ := ih (i + (k - j)) m g (p i + c2) (by omega) (w1.append w2)
      exact ⟨k', c', hw', by omega, hk'⟩
/-- behind as many rounds as there are edges -/
theorem BI.done {goal t : Nat} {F : Nat → Option Nat} {es : List (Nat × Nat × Nat)} (h : BI E goal t F) (hes : ∀ u v w, E u v w → (u, v, w) ∈ es) (ht : es.length ≤ t) (m : Nat) : IsDist E m goal (F m) := by
  have full : ∀ k m c, Way E m k goal c → ∃ s, F m = some s ∧ s ≤ c := fun k m c hw => by
    obtain ⟨k', c', hw', h1, h2⟩ := Way.simple hes k k m goal c (Nat.le_refl _) hw
    obtain ⟨s, h3, h4⟩ := h.cmp m k' c' hw' (by omega)
    exact ⟨s, h3, by omega⟩
  cases e : F m with
  | none => intro k c hw; obtain ⟨s, h1, _⟩ := full k m c hw; rw [e] at h1; cases h1
  | some c => exact ⟨h.snd m c e, fun k c' hw => by obtain ⟨s, h1, h2⟩ := full k m c' hw; rw [e] at h1; cases h1; exact h2⟩
end
end RT
/-! M3: plain books: the fewest give-backs by the formula. Core Lean alone (with M1's and M2's Way). -/
namespace RT
/-- how many of S lie ahead of k -/
def cnt (S : Nat → Bool) : Nat → Nat
  | 0 => 0
  | k + 1 => cnt S k + (if S k = true then 1 else 0)
theorem cnt_le {S T : Nat → Bool} : ∀ {k : Nat}, (∀ i, i < k → S i = true → T i = true) → cnt S k ≤ cnt T k
  | 0, _ => Nat.le_refl _
  | k + 1, h => by
    have := cnt_le (k := k) fun i hi => h i (by omega)
    have h2 := h k (by omega)
    simp only [cnt]
    by_cases e : S k = true
    · rw [if_pos e, if_pos (h2 e)]; omega
    · rw [if_neg e]; omega
theorem cnt_congr {S T : Nat → Bool} : ∀ {k : Nat}, (∀ i, i < k → S i = T i) → cnt S k = cnt T k
  | 0, _ => rfl
  | k + 1, h => by simp only [cnt]; rw [cnt_congr (k := k) fun i hi => h i (by omega), h k (by omega)]
def ins (S : Nat → Bool) (x : Nat) : Nat → Bool := fun i => if i = x then true else S i
def del (S : Nat → Bool) (x : Nat) : Nat → Bool := fun i => if i = x then false else S i
theorem cnt_ins {S : Nat → Bool} {x : Nat} (h : S x = false) : ∀ k, cnt (ins S x) k = cnt S k + (if x < k then 1 else 0)
  | 0 => by simp [cnt]
  | k + 1 => by
    simp only [cnt]
    rw [cnt_ins h k]
    unfold ins
    by_cases e : k = x
    · subst e; rw [h]; simp
    · rw [if_neg e]
      by_cases e2 : x < k
      · rw [if_pos e2, if_pos (show x < k + 1 by omega)]; omega
      · rw [if_neg e2, if_neg (show ¬ x < k + 1 by omega)]; omega
theorem cnt_del {S : Nat → Bool} {x : Nat} (h : S x = true) : ∀ k, cnt (del S x) k + (if x < k then 1 else 0) = cnt S k
  | 0 => by simp [cnt]
  | k + 1 => by
    simp only [cnt]
    have ih := cnt_del h k
    unfold del
    by_cases e : k = x
    · subst e
      have e1 : cnt (del S k) k = cnt S k := cnt_congr fun i hi => by unfold del; rw [if_neg (by omega)]
      have e1' : cnt (fun i => if i = k then false else S i) k = cnt S k := e1
      rw [h, e1']; simp
    · rw [if_neg e]
      change cnt (del S x) k + (if S k = true then 1 else 0) + _ = _
      by_cases e2 : x < k
      · rw [if_pos e2] at ih; rw [if_pos (show x < k + 1 by omega)]; omega
      · rw [if_neg e2] at ih; rw [if_neg (show ¬ x < k + 1 by omega)]; omega
/-- what lies between two places -/
theorem cnt_span {S T : Nat → Bool} {j : Nat} : ∀ {k : Nat}, j ≤ k → (∀ i, j ≤ i → i < k → S i = true → T i = true) → cnt S k + cnt T j ≤ cnt T k + cnt S j
  | 0, h, _ => by have : j = 0 := by omega
                  subst this; simp [cnt]
  | k + 1, h, hs => by
    by_cases e : j = k + 1
    · subst e; omega
    · have ih := cnt_span (k := k) (by omega) fun i h1 h2 => hs i h1 (by omega)
      have h2 := hs k (by omega) (by omega)
      simp only [cnt]
      by_cases e : S k = true
      · rw [if_pos e, if_pos (h2 e)]; omega
      · rw [if_neg e]; omega
/-- the earliest, the latest of some places -/
theorem least_of {P : Nat → Prop} [DecidablePred P] : ∀ {n : Nat}, (∃ i, i < n ∧ P i) → ∃ i, i < n ∧ P i ∧ ∀ j, j < i → ¬ P j
  | 0, ⟨_, h, _⟩ => absurd h (Nat.not_lt_zero _)
  | n + 1, ⟨i, h, p⟩ => by
    by_cases e : ∃ i, i < n ∧ P i
    · obtain ⟨j, h1, h2, h3⟩ := least_of e
      exact ⟨j, by omega, h2, h3⟩
    · have : i = n := by
        apply Classical.byContradiction; intro z; exact e ⟨i, by omega, p⟩
      subst this
      exact ⟨i, h, p, fun j hj pj => e ⟨j, hj, pj⟩⟩
theorem latest_of {P : Nat → Prop} [DecidablePred P] : ∀ {n : Nat}, (∃ i, i < n ∧ P i) → ∃ i, i < n ∧ P i ∧ ∀ j, i < j → j < n → ¬ P j
  | 0, ⟨_, h, _⟩ => absurd h (Nat.not_lt_zero _)
  | n + 1, ⟨i, h, p⟩ => by
    by_cases e : P n
    · exact ⟨n, by omega, e, fun j h1 h2 => by omega⟩
    · have : i ≠ n := fun z => e (z ▸ p)
      obtain ⟨j, h1, h2, h3⟩ := latest_of (n := n) ⟨i, by omega, p⟩
      exact ⟨j, by omega, h2, fun k h4 h5 => by
        by_cases z : k = n
        · subst z; exact e
        · exact h3 k h4 (by omega)⟩
/-- a plain book: n skills, the points, each skill's need, the tier's beginning, what is wanted -/
structure Pl where
  n : Nat
  pts : Int
  need : Nat → Int
  low : Nat → Nat
  W : Nat → Nat → Prop
  low_le : ∀ i, low i ≤ i
  W_lt : ∀ i j, W i j → j < i
def Pl.holds (p : Pl) (S : Nat → Bool) : Prop := (cnt S p.n : Int) ≤ p.pts ∧ ∀ i, i < p.n → S i = true → p.need i ≤ cnt S (p.low i) ∧ ∀ j, p.W i j → S j = true
/-- how many of A are not in B -/
def dif (A B : Nat → Bool) (n : Nat) : Nat := cnt (fun i => A i && !B i) n
section
variable {p : Pl} {A B : Nat → Bool}
theorem give_holds {x : Nat} (h : p.holds A) (hx : x < p.n) (ha : A x = true) (hw : ∀ y, y < p.n → A y = true → y ≠ x → ¬ p.W y x)
    (hc : ∀ y, y < p.n → A y = true → y ≠ x → x < p.low y → p.need y + 1 ≤ cnt A (p.low y)) : p.holds (del A x) := by
  have e := cnt_del ha
  refine ⟨?_, fun i hi hs => ?_⟩
  · have := e p.n; have := h.1; rw [if_pos hx] at *; omega
  · have hne : i ≠ x := fun z => by subst z; simp [del] at hs
    have hai : A i = true := by simpa [del, hne] using hs
    obtain ⟨h1, h2⟩ := h.2 i hi hai
    refine ⟨?_, fun j hj => ?_⟩
    · have e1 := e (p.low i)
      by_cases hl : x < p.low i
      · have := hc i hi hai hne hl; rw [if_pos hl] at e1; omega
      · rw [if_neg hl] at e1; omega
    · have hjx : j ≠ x := fun z => by subst z; exact hw i hi hai hne hj
      simp [del, hjx, h2 j hj]
theorem take_holds {x : Nat} (h : p.holds A) (hx : x < p.n) (ha : A x = false) (hp : (cnt A p.n : Int) < p.pts) (hn : p.need x ≤ cnt A (p.low x)) (hw : ∀ j, p.W x j → A j = true) : p.holds (ins A x) := by
  have e := cnt_ins ha
  have mono : ∀ k, cnt A k ≤ cnt (ins A x) k := fun k => by have := e k; omega
  refine ⟨?_, fun i hi hs => ?_⟩
  · have := e p.n; rw [if_pos hx] at this; omega
  · by_cases hne : i = x
    · subst hne
      refine ⟨by have := mono (p.low i); omega, fun j hj => ?_⟩
      have := hw j hj
      unfold ins; split <;> simp [this]
    · have hai : A i = true := by simpa [ins, hne] using hs
      obtain ⟨h1, h2⟩ := h.2 i hi hai
      refine ⟨by have := mono (p.low i); omega, fun j hj => ?_⟩
      have := h2 j hj
      unfold ins; split <;> simp [this]
/-- the latest of a build can be given back -/
theorem last_loose (h : p.holds A) (hA : ∃ i, i < p.n ∧ A i = true) : ∃ x, x < p.n ∧ A x = true ∧ p.holds (del A x) := by
  obtain ⟨x, h1, h2, h3⟩ := latest_of hA
  refine ⟨x, h1, h2, give_holds h h1 h2 (fun y hy ha hne hw => ?_) fun y hy ha hne hl => ?_⟩
  · have := p.W_lt _ _ hw
    exact h3 y (by omega) hy ha
  · have := p.low_le y
    exact absurd ha (h3 y (by omega) hy)
/-- the latest of what is too much -/
theorem give_spare {x : Nat} (hA : p.holds A) (hB : p.holds B) (hx : x < p.n) (ha : A x = true) (hb : B x = false) (hl : ∀ y, x < y → y < p.n → A y = true → B y = true)
    (hc : cnt B p.n < cnt A p.n ∨ ∀ i, i < p.n → B i = true → A i = true) : p.holds (del A x) := by
  refine give_holds hA hx ha (fun y hy hay hne hw => ?_) fun y hy hay hne hlow => ?_
  · have hxy := p.W_lt _ _ hw
    have := (hB.2 y hy (hl y hxy hy hay)).2 x hw
    rw [hb] at this; cases this
  · have hxy : x < y := Nat.lt_of_lt_of_le hlow (p.low_le y)
    have h1 := (hB.2 y hy (hl y hxy hy hay)).1
    have hn := p.low_le y
    rcases hc with hc | hc
    · have := cnt_span (S := A) (T := B) (j := p.low y) (k := p.n) (by omega) (fun i h2 h3 h4 => hl i (by omega) h3 h4)
      omega
    · -- B is within A, and x is not in B
      have h2 : cnt B (p.low y) ≤ cnt (del A x) (p.low y) := cnt_le fun i hi hbi => by
        have hix : i ≠ x := fun z => by subst z; rw [hb] at hbi; cases hbi
        simp [del, hix, hc i (by omega) hbi]
      have e1 := cnt_del ha (p.low y)
      rw [if_pos hlow] at e1
      omega
/-- the earliest of what is missing -/
theorem take_spare {x : Nat} (hA : p.holds A) (hB : p.holds B) (hx : x < p.n) (ha : A x = false) (hb : B x = true) (hl : ∀ y, y < x → B y = true → A y = true) (hp : (cnt A p.n : Int) < p.pts) : p.holds (ins A x) := by
  obtain ⟨h1, h2⟩ := hB.2 x hx hb
  refine take_holds hA hx ha hp ?_ fun j hj => hl j (p.W_lt _ _ hj) (h2 j hj)
  have : cnt B (p.low x) ≤ cnt A (p.low x) := cnt_le fun i hi hbi => hl i (Nat.lt_of_lt_of_le hi (p.low_le x)) hbi
  omega
/-- ways over sets of places; sets are told apart below n alone -/
inductive PW (p : Pl) : (Nat → Bool) → (Nat → Bool) → Nat → Prop where
  | nil {A B : Nat → Bool} : (∀ i, i < p.n → A i = B i) → PW p A B 0
  | give {A B : Nat → Bool} {x c : Nat} : x < p.n → A x = true → p.holds A → p.holds (del A x) → PW p (del A x) B c → PW p A B (c + 1)
  | take {A B : Nat → Bool} {x c : Nat} : x < p.n → A x = false → p.holds A → p.holds (ins A x) → PW p (ins A x) B c → PW p A B c
theorem dif_zero {n : Nat} : ∀ (_ : ∀ i, i < n → A i = true → B i = true), dif A B n = 0 := by
  intro h
  have : dif A B n ≤ cnt (fun _ => false) n := cnt_le fun i hi z => by
    simp at z
    have := h i hi z.1; rw [z.2] at this; cases this
  have e : ∀ k, cnt (fun _ => false) k = 0 := fun k => by induction k with | zero => rfl | succ k ih => simp [cnt, ih]
  rw [e] at this; omega
theorem dif_give {x n : Nat} (hx : x < n) (ha : A x = true) (hb : B x = false) : dif (del A x) B n + 1 = dif A B n := by
  unfold dif
  have e := cnt_del (S := fun i => A i && !B i) (x := x) (by simp [ha, hb]) n
  rw [if_pos hx] at e
  have : cnt (del (fun i => A i && !B i) x) n = cnt (fun i => del A x i && !B i) n := cnt_congr fun i hi => by
    unfold del; split <;> simp
  omega
theorem dif_give_in {x n : Nat} (hb : B x = true) : dif (del A x) B n = dif A B n := by
  unfold dif
  refine cnt_congr fun i hi => ?_
  unfold del; split
  · rename_i e; subst e; simp [hb]
  · rfl
theorem dif_take {x n : Nat} (hb : B x = true) : dif (ins A x) B n = dif A B n := by
  unfold dif
  refine cnt_congr fun i hi => ?_
  unfold ins; split
  · rename_i e; subst e; simp [hb]
  · rfl
/-- each skill that is too much is given back -/
theorem PW.low {c : Nat} (h : PW p A B c) : dif A B p.n ≤ c := by
  induction h with
  | nil h => rw [dif_zero fun i hi ha => by rw [← h i hi]; exact ha]; exact Nat.le_refl _
  | give hx ha _ _ _ ih =>
    rename_i A B x c _ _ _
    cases hb : B x with
    | true => rw [dif_give_in hb] at ih; omega
    | false => have := dif_give hx ha hb; omega
  | take hx ha _ _ _ ih =>
    rename_i A B x c _ _ _
    refine Nat.le_trans (cnt_le fun i hi z => ?_) ih
    by_cases e : i = x
    · subst e; simp [ha] at z
    · simpa [ins, e] using z
/-- to a build that is smaller than the points -/
theorem PW.spare (hB : p.holds B) (hp : (cnt B p.n : Int) < p.pts) : ∀ (k : Nat) (A : Nat → Bool), dif A B p.n + dif B A p.n ≤ k → p.holds A → PW p A B (dif A B p.n) := by
  intro k
  induction k with
  | zero =>
    intro A hk hA
    have h1 : ∀ i, i < p.n → A i = true → B i = true := fun i hi ha => by
      cases hb : B i with
      | true => rfl
      | false => have := dif_give hi ha hb; omega
    have h2 : ∀ i, i < p.n → B i = true → A i = true := fun i hi ha => by
      cases hb : A i with
      | true => rfl
      | false => have := dif_give hi ha hb; omega
    rw [dif_zero h1]
    refine .nil fun i hi => ?_
    cases ha : A i with
    | true => rw [h1 i hi ha]
    | false => cases hb : B i with
      | true => have := h2 i hi hb; rw [ha] at this; cases this
      | false => rfl
  | succ k ih =>
    intro A hk hA
    by_cases hmiss : ∃ i, i < p.n ∧ (B i = true ∧ A i = false)
    · by_cases hle : cnt A p.n ≤ cnt B p.n
      · obtain ⟨x, h1, ⟨h2, h3⟩, h4⟩ := least_of hmiss
        have hl : ∀ y, y < x → B y = true → A y = true := fun y hy hb => by
          cases e : A y with
          | true => rfl
          | false => exact absurd ⟨hb, e⟩ (h4 y hy)
        have hh := take_spare hA hB h1 h3 h2 hl (by omega)
        have e1 : dif (ins A x) B p.n = dif A B p.n := dif_take h2
        have e2 : dif B (ins A x) p.n + 1 = dif B A p.n := by
          have := dif_give (A := B) (B := A) h1 h2 h3
          have e3 : dif (del B x) A p.n = dif B (ins A x) p.n := cnt_congr fun i hi => by
            unfold del ins; split <;> simp
          omega
        have := ih (ins A x) (by omega) hh
        rw [e1] at this
        exact .take h1 h3 hA hh this
      · have hmore : ∃ i, i < p.n ∧ (A i = true ∧ B i = false) := by
          apply Classical.byContradiction; intro z
          have : cnt A p.n ≤ cnt B p.n := cnt_le fun i hi ha => by
            cases e : B i with
            | true => rfl
            | false => exact absurd ⟨i, hi, ha, e⟩ z
          omega
        obtain ⟨x, h1, ⟨h2, h3⟩, h4⟩ := latest_of hmore
        have hl : ∀ y, x < y → y < p.n → A y = true → B y = true := fun y hy hn ha => by
          cases e : B y with
          | true => rfl
          | false => exact absurd ⟨ha, e⟩ (h4 y hy hn)
        have hh := give_spare hA hB h1 h2 h3 hl (.inl (by omega))
        have e1 := dif_give h1 h2 h3
        have e2 : dif B (del A x) p.n = dif B A p.n := cnt_congr fun i hi => by
          unfold del; split
          · rename_i e; subst e; simp [h3]
          · rfl
        have := ih (del A x) (by omega) hh
        rw [← e1]
        exact .give h1 h2 hA hh this
    · have hsub : ∀ i, i < p.n → B i = true → A i = true := fun i hi hb => by
        cases e : A i with
        | true => rfl
        | false => exact absurd ⟨i, hi, hb, e⟩ hmiss
      by_cases hmore : ∃ i, i < p.n ∧ (A i = true ∧ B i = false)
      · obtain ⟨x, h1, ⟨h2, h3⟩, h4⟩ := latest_of hmore
        have hl : ∀ y, x < y → y < p.n → A y = true → B y = true := fun y hy hn ha => by
          cases e : B y with
          | true => rfl
          | false => exact absurd ⟨ha, e⟩ (h4 y hy hn)
        have hh := give_spare hA hB h1 h2 h3 hl (.inr hsub)
        have e1 := dif_give h1 h2 h3
        have e2 : dif B (del A x) p.n = dif B A p.n := cnt_congr fun i hi => by
          unfold del; split
          · rename_i e; subst e; simp [h3]
          · rfl
        have := ih (del A x) (by omega) hh
        rw [← e1]
        exact .give h1 h2 hA hh this
      · have h1 : ∀ i, i < p.n → A i = true → B i = true := fun i hi ha => by
          cases e : B i with
          | true => rfl
          | false => exact absurd ⟨i, hi, ha, e⟩ hmore
        rw [dif_zero h1]
        refine .nil fun i hi => ?_
        cases ha : A i with
        | true => rw [h1 i hi ha]
        | false => cases hb : B i with
          | true => have := hsub i hi hb; rw [ha] at this; cases this
          | false => rfl
/-- .. the same way back: its takes are gives -/
inductive PWr (p : Pl) : (Nat → Bool) → (Nat → Bool) → Nat → Prop where
  | nil {A B : Nat → Bool} : (∀ i, i < p.n → A i = B i) → PWr p A B 0
  | give {A B : Nat → Bool} {x c : Nat} : x < p.n → B x = false → p.holds B → p.holds (ins B x) → PWr p A (ins B x) c → PWr p A B (c + 1)
  | take {A B : Nat → Bool} {x c : Nat} : x < p.n → B x = true → p.holds B → p.holds (del B x) → PWr p A (del B x) c → PWr p A B c
theorem dif_back {n : Nat} : cnt A n + dif B A n = cnt B n + dif A B n := by
  induction n with
  | zero => rfl
  | succ n ih =>
    unfold dif at *
    simp only [cnt]
    by_cases hA : A n = true <;> by_cases hB : B n = true <;> simp [hA, hB] <;> omega
/-- a way of c gives from A to B is, gone back, one of as many gives as it had takes -/
theorem PW.back {c : Nat} (h : PW p A B c) : ∃ d, PWr p B A d ∧ cnt B p.n + c = cnt A p.n + d := by
  induction h with
  | nil h => exact ⟨0, .nil fun i hi => (h i hi).symm, by rw [cnt_congr h]⟩
  | give hx ha h1 h2 _ ih =>
    rename_i A B x c
    obtain ⟨d, w, e⟩ := ih
    have := cnt_del ha p.n
    rw [if_pos hx] at this
    exact ⟨d, .take hx ha h1 h2 w, by omega⟩
  | take hx ha h1 h2 _ ih =>
    rename_i A B x c
    obtain ⟨d, w, e⟩ := ih
    have := cnt_ins ha p.n
    rw [if_pos hx] at this
    exact ⟨d + 1, .give hx ha h1 h2 w, by omega⟩
end

/-! ### on masks -/
/-- a step between masks that hold, and its price: one for a give -/
def Stp (n : Nat) (H : Nat → Prop) (m m' w : Nat) : Prop := ∃ i, i < n ∧ H m ∧ H m' ∧ ((m.testBit i = false ∧ m' = m + 2 ^ i ∧ w = 0) ∨ (m.testBit i = true ∧ m' = m - 2 ^ i ∧ w = 1))
section
variable {p : Pl} {H : Nat → Prop}
theorem tb_ins {m x : Nat} (h : m.testBit x = false) : (m + 2 ^ x).testBit = ins m.testBit x := by
  funext i; rw [tb_add x m i h]; unfold ins; by_cases e : i = x <;> simp [e]
theorem tb_del {m x : Nat} (h : m.testBit x = true) : (m - 2 ^ x).testBit = del m.testBit x := by
  funext i; rw [tb_sub x m i h]; unfold del; by_cases e : i = x <;> simp [e]
theorem mask_eq {n a b : Nat} (ha : a < 2 ^ n) (hb : b < 2 ^ n) (h : ∀ i, i < n → a.testBit i = b.testBit i) : a = b := by
  refine Nat.eq_of_testBit_eq fun i => ?_
  by_cases hi : i < n
  · exact h i hi
  · have : 2 ^ n ≤ 2 ^ i := Nat.pow_le_pow_right (by decide) (by omega)
    rw [Nat.testBit_lt_two_pow (by omega), Nat.testBit_lt_two_pow (by omega)]
theorem PW.way (hH : ∀ m, H m ↔ m < 2 ^ p.n ∧ p.holds m.testBit) {A B : Nat → Bool} {c : Nat} (h : PW p A B c) : ∀ {a b : Nat}, A = a.testBit → B = b.testBit → a < 2 ^ p.n → b < 2 ^ p.n → ∃ k, Way (Stp p.n H) a k b c := by
  induction h with
  | nil h =>
    intro a b ea eb ha hb
    subst ea eb
    have : a = b := mask_eq ha hb h
    subst this
    exact ⟨0, .refl _⟩
  | give hx hax h1 h2 _ ih =>
    rename_i A B x c _
    intro a b ea eb ha hb
    subst ea
    have hl : a - 2 ^ x < 2 ^ p.n := Nat.lt_of_le_of_lt (Nat.sub_le _ _) (by assumption)
    obtain ⟨k, w⟩ := ih (a := a - 2 ^ x) (b := b) (tb_del hax).symm eb hl hb
    refine ⟨k + 1, by rw [Nat.add_comm c 1]; exact w.cons ⟨x, hx, (hH _).mpr ⟨ha, h1⟩, (hH _).mpr ⟨hl, by rw [tb_del hax]; exact h2⟩, .inr ⟨hax, rfl, rfl⟩⟩⟩
  | take hx hax h1 h2 _ ih =>
    rename_i A B x c _
    intro a b ea eb ha hb
    subst ea
    have hl : a + 2 ^ x < 2 ^ p.n := add_lt ha hx hax
    obtain ⟨k, w⟩ := ih (a := a + 2 ^ x) (b := b) (tb_ins hax).symm eb hl hb
    refine ⟨k + 1, by have := w.cons (a := a) (w := 0) ⟨x, hx, (hH _).mpr ⟨ha, h1⟩, (hH _).mpr ⟨hl, by rw [tb_ins hax]; exact h2⟩, .inl ⟨hax, rfl, rfl⟩⟩; simpa using this⟩
theorem PWr.way (hH : ∀ m, H m ↔ m < 2 ^ p.n ∧ p.holds m.testBit) {A B : Nat → Bool} {c : Nat} (h : PWr p A B c) : ∀ {a b : Nat}, A = a.testBit → B = b.testBit → a < 2 ^ p.n → b < 2 ^ p.n → ∃ k, Way (Stp p.n H) a k b c := by
  induction h with
  | nil h =>
    intro a b ea eb ha hb
    subst ea eb
    have : a = b := mask_eq ha hb h
    subst this
    exact ⟨0, .refl _⟩
  | give hx hbx h1 h2 _ ih =>
    rename_i B x c _
    intro a b ea eb ha hb
    subst eb
    have hl : b + 2 ^ x < 2 ^ p.n := add_lt hb hx hbx
    obtain ⟨k, w⟩ := ih (a := a) (b := b + 2 ^ x) ea (tb_ins hbx).symm ha hl
    have hb2 : (b + 2 ^ x).testBit x = true := by rw [tb_add x b x hbx]; simp
    exact ⟨k + 1, w.snoc ⟨x, hx, (hH _).mpr ⟨hl, by rw [tb_ins hbx]; exact h2⟩, (hH _).mpr ⟨hb, h1⟩, .inr ⟨hb2, by omega, rfl⟩⟩⟩
  | take hx hbx h1 h2 _ ih =>
    rename_i B x c _
    intro a b ea eb ha hb
    subst eb
    have hg := tb_ge hbx
    have hl : b - 2 ^ x < 2 ^ p.n := Nat.lt_of_le_of_lt (Nat.sub_le _ _) hb
    obtain ⟨k, w⟩ := ih (a := a) (b := b - 2 ^ x) ea (tb_del hbx).symm ha hl
    have hb2 := tb_sub_self x b hbx
    exact ⟨k + 1, w.snoc ⟨x, hx, (hH _).mpr ⟨hl, by rw [tb_del hbx]; exact h2⟩, (hH _).mpr ⟨hb, h1⟩, .inl ⟨hb2, by omega, rfl⟩⟩⟩
theorem Way.pw (hH : ∀ m, H m ↔ m < 2 ^ p.n ∧ p.holds m.testBit) : ∀ {k a b c : Nat}, Way (Stp p.n H) a k b c → PW p a.testBit b.testBit c
  | 0, a, b, c, w => by
    rcases w.uncons with ⟨_, rfl, rfl⟩ | ⟨_, _, _, _, _, _, z, _⟩
    · exact .nil fun _ _ => rfl
    · cases z
  | k + 1, a, b, c, w => by
    rcases w.uncons with ⟨z, _, _⟩ | ⟨d, x, j, y, ⟨i, hi, h1, h2, h3⟩, w', hk, rfl⟩
    · cases z
    · have : j = k := by omega
      subst this
      have ih := Way.pw hH w'
      rcases h3 with ⟨e1, rfl, rfl⟩ | ⟨e1, rfl, rfl⟩
      · rw [tb_ins e1] at ih
        rw [Nat.zero_add]
        exact .take hi e1 ((hH _).mp h1).2 (by rw [← tb_ins e1]; exact ((hH _).mp h2).2) ih
      · rw [tb_del e1] at ih
        rw [Nat.add_comm]
        exact .give hi e1 ((hH _).mp h1).2 (by rw [← tb_del e1]; exact ((hH _).mp h2).2) ih
/-- none need be given back and taken again -/
def Free (p : Pl) (a b : Nat) : Prop := a = b ∨ (cnt a.testBit p.n : Int) < p.pts ∨ (cnt b.testBit p.n : Int) < p.pts ∨ ∃ x, x < p.n ∧ a.testBit x = true ∧ b.testBit x = false ∧ p.holds (del a.testBit x)
theorem plain_dist (hH : ∀ m, H m ↔ m < 2 ^ p.n ∧ p.holds m.testBit) {a b : Nat} (ha : H a) (hb : H b) :
    (Free p a b → IsDist (Stp p.n H) a b (some (dif a.testBit b.testBit p.n))) ∧ (¬ Free p a b → IsDist (Stp p.n H) a b (some (dif a.testBit b.testBit p.n + 1))) := by
  obtain ⟨la, hA⟩ := (hH a).mp ha
  obtain ⟨lb, hB⟩ := (hH b).mp hb
  have low : ∀ k c, Way (Stp p.n H) a k b c → dif a.testBit b.testBit p.n ≤ c := fun k c w => (w.pw hH).low
  -- to or from a build that is smaller than the points
  have small : ∀ {a' : Nat}, a' < 2 ^ p.n → p.holds a'.testBit → (cnt a'.testBit p.n : Int) < p.pts ∨ (cnt b.testBit p.n : Int) < p.pts → ∃ k, Way (Stp p.n H) a' k b (dif a'.testBit b.testBit p.n) := by
    intro a' la' hA' h
    by_cases hb' : (cnt b.testBit p.n : Int) < p.pts
    · exact (PW.spare hB hb' _ _ (Nat.le_refl _) hA').way hH rfl rfl la' lb
    · have ha'' : (cnt a'.testBit p.n : Int) < p.pts := h.resolve_right hb'
      obtain ⟨d, w, e⟩ := (PW.spare hA' ha'' _ _ (Nat.le_refl _) hB).back
      have e2 := dif_back (A := a'.testBit) (B := b.testBit) (n := p.n)
      have : d = dif a'.testBit b.testBit p.n := by omega
      subst this
      exact w.way hH rfl rfl la' lb
  refine ⟨fun hf => ⟨?_, low⟩, fun hf => ⟨?_, fun k c w => ?_⟩⟩
  · rcases hf with rfl | hf | hf | ⟨x, hx, h1, h2, h3⟩
    · rw [dif_zero fun i _ h => h]; exact ⟨0, .refl _⟩
    · exact small la hA (.inl hf)
    · exact small la hA (.inr hf)
    · have hl : a - 2 ^ x < 2 ^ p.n := Nat.lt_of_le_of_lt (Nat.sub_le _ _) (by assumption)
      have e1 := cnt_del h1 p.n
      rw [if_pos hx] at e1
      have := hA.1
      obtain ⟨k, w⟩ := small hl (by rw [tb_del h1]; exact h3) (.inl (by rw [tb_del h1]; omega))
      rw [tb_del h1] at w
      refine ⟨k + 1, ?_⟩
      rw [← dif_give hx h1 h2, Nat.add_comm (dif _ _ _) 1]
      exact w.cons ⟨x, hx, ha, (hH _).mpr ⟨hl, by rw [tb_del h1]; exact h3⟩, .inr ⟨h1, rfl, rfl⟩⟩
  · have hne : ¬ a = b := fun z => hf (.inl z)
    have hpa : ¬ (cnt a.testBit p.n : Int) < p.pts := fun z => hf (.inr (.inl z))
    have hpb : ¬ (cnt b.testBit p.n : Int) < p.pts := fun z => hf (.inr (.inr (.inl z)))
    have h1 := hA.1
    have h2 := hB.1
    have hex : ∃ i, i < p.n ∧ a.testBit i = true := by
      apply Classical.byContradiction; intro z
      have z1 : ∀ i, i < p.n → a.testBit i = false := fun i hi => by
        cases e : a.testBit i with
        | true => exact absurd ⟨i, hi, e⟩ z
        | false => rfl
      have e0 : cnt a.testBit p.n = 0 := by
        have : cnt a.testBit p.n = cnt (fun _ => false) p.n := cnt_congr z1
        rw [this]
        generalize p.n = k
        induction k with
        | zero => rfl
        | succ k ih => simp [cnt, ih]
      refine hne (mask_eq la lb fun i hi => ?_)
      rw [z1 i hi]
      cases e : b.testBit i with
      | false => rfl
      | true =>
        have := cnt_del e p.n
        rw [if_pos hi] at this
        omega
    obtain ⟨x, hx, hax, hd⟩ := last_loose hA hex
    have hbx : b.testBit x = true := by
      cases e : b.testBit x with
      | true => rfl
      | false => exact absurd (.inr (.inr (.inr ⟨x, hx, hax, e, hd⟩))) hf
    have hl : a - 2 ^ x < 2 ^ p.n := Nat.lt_of_le_of_lt (Nat.sub_le _ _) (by assumption)
    have e1 := cnt_del hax p.n
    rw [if_pos hx] at e1
    obtain ⟨k, w⟩ := small hl (by rw [tb_del hax]; exact hd) (.inl (by rw [tb_del hax]; omega))
    rw [tb_del hax, dif_give_in hbx] at w
    refine ⟨k + 1, ?_⟩
    rw [Nat.add_comm (dif _ _ _) 1]
    exact w.cons ⟨x, hx, ha, (hH _).mpr ⟨hl, by rw [tb_del hax]; exact hd⟩, .inr ⟨hax, rfl, rfl⟩⟩
  · have hne : ¬ a = b := fun z => hf (.inl z)
    rcases w.uncons with ⟨_, z, _⟩ | ⟨d, y, j, z, ⟨i, hi, h1, h2, h3⟩, w', hk, rfl⟩
    · exact absurd z hne
    · rcases h3 with ⟨e1, rfl, rfl⟩ | ⟨e1, rfl, rfl⟩
      · exfalso
        have h4 := ((hH _).mp h2).2.1
        rw [tb_ins e1] at h4
        have h5 := cnt_ins e1 p.n
        rw [if_pos hi] at h5
        exact hf (.inr (.inl (by omega)))
      · have hd : p.holds (del a.testBit i) := by rw [← tb_del e1]; exact ((hH _).mp h2).2
        have hbi : b.testBit i = true := by
          cases e : b.testBit i with
          | true => rfl
          | false => exact absurd (.inr (.inr (.inr ⟨i, hi, e1, e, hd⟩))) hf
        have := (w'.pw hH).low
        rw [tb_del e1, dif_give_in hbi] at this
        omega
end
end RT
end
section
set_option maxRecDepth 100000
set_option maxHeartbeats 2000000
/-! RTP: what a book means, by masks. -/
namespace RT
open PySem
def wMany (w : Wt) : Nat := match w.kind with
  | .all => w.some.length
  | .any => 1
  | .count => w.many
namespace Bk
variable (b : Bk)
def low (i : Nat) : List Nat := (List.range b.n).filter fun j => decide (b.tier j < b.tier i)
def needOf (t : Nat) : Nat := (lookG b.needs t).getD 0
def ask (i : Nat) : List (Nat × Nat) := (maskOf (b.low i), b.needOf (b.tier i)) :: (b.wants.filter fun w => decide (w.who = i)).map fun w => (maskOf w.some, wMany w)
def letP (m i : Nat) : Bool := (b.ask i).all fun p => decide (p.2 ≤ pc (m &&& p.1))
def ptsP (m : Nat) : Nat := b.pts + ((b.gives.filter fun p => m.testBit p.1).map (·.2)).sum
def holdP (m : Nat) : Bool := !(decide (b.ptsP m < pc m) || b.bars.any fun p => decide (m &&& (2 ^ p.1 + 2 ^ p.2) = 2 ^ p.1 + 2 ^ p.2)) && ((List.range b.n).filter m.testBit).all (b.letP m)
/-- a build's names -/
def bld (m : Nat) : List Str := ((List.range b.n).filter m.testBit).map b.nm
end Bk
theorem band (m k : Nat) : Builtin.bitAnd (m : Int) (k : Int) = ((m &&& k : Nat) : Int) := by
  first
  | rfl
  | simp [Builtin.bitAnd]
section
variable {b : Bk}
theorem mem_bld (ok : BOk b) {m i : Nat} (hi : i < b.n) : b.nm i ∈ b.bld m ↔ m.testBit i = true := by
  unfold Bk.bld
  rw [List.mem_map]
  constructor
  · rintro ⟨j, hj, e⟩
    rw [List.mem_filter, List.mem_range] at hj
    rw [← nm_inj ok hj.1 hi e]; exact hj.2
  · intro h
    exact ⟨i, by rw [List.mem_filter, List.mem_range]; exact ⟨hi, h⟩, rfl⟩
theorem bld_filter (ok : BOk b) (m : Nat) : b.nms.filter (fun s => decide (s ∈ b.bld m)) = b.bld m := by
  rw [nms_eq, List.filter_map]
  unfold Bk.bld
  congr 1
  apply List.filter_congr
  intro i hi
  have := mem_bld ok (m := m) (List.mem_range.mp hi)
  unfold Bk.bld at this
  show decide _ = _
  by_cases h : m.testBit i = true
  · rw [decide_eq_true (this.mpr h), h]
  · rw [decide_eq_false (fun z => h (this.mp z))]; simp at h; rw [h]
theorem bld_len (m : Nat) : (b.bld m).length = ((List.range b.n).filter m.testBit).length := by simp [Bk.bld]
theorem n_le5 (ok : BOk b) : b.n ≤ 5 := ok.n5
theorem bld_len5 (ok : BOk b) (m : Nat) : (b.bld m).length ≤ 5 := by
  rw [bld_len]
  have h1 := List.length_filter_le m.testBit (List.range b.n)
  rw [List.length_range] at h1
  exact Nat.le_trans h1 ok.n5
theorem lt32 (ok : BOk b) {m : Nat} (h : m < 2 ^ b.n) : m < 32 := Nat.lt_of_lt_of_le h (Nat.pow_le_pow_right (by decide) ok.n5)
end
end RT
end
section
set_option maxRecDepth 100000
set_option maxHeartbeats 4000000
/-! RTW5: what is read of a book. -/
namespace RT
open PySem PySem.Spec PyProof.Rows L2
open Evl (Ex Ex.refl Ex.trans Ex.new Ex.mut)
/-! ### a book's object -/
abbrev Fld := Str × Rel
def flds (b : Bk) : List Fld := [
  ("record", dt (.tuple [.tuple (dSkills b), .int b.pts, .tuple (dNeeds b), .tuple (dWants b), .tuple (dBars b), .tuple (dNum b b.gives), .tuple (dNum b b.prices), dReset b])),
  ("own_points", dt (.int b.pts)), ("own_reset", dt (dReset b)), ("own_names", dt (.list (b.nms.map .str))), ("own_tiers", dt (.list (b.rows.map fun p => .int p.2))),
  ("tier_by", dkR (b.rows.map fun p => (.inr p.1, .int p.2))), ("spots", dt (.list ((List.range b.n).map fun i => .int ((2 ^ i : Nat) : Int)))), ("bits", dkR ((List.range b.n).map fun i => (.inr (b.nm i), .int ((2 ^ i : Nat) : Int)))),
  ("own_needs", dkR (b.needs.map fun p => (.inl (p.1 : Int), .int p.2))), ("own_prices", dkR (b.prices.map fun p => (.inr (b.nm p.1), .int p.2))), ("own_given", dkR (b.gives.map fun p => (.inr (b.nm p.1), .int p.2))),
  ("barred", dt (.list (b.bars.map fun p => .int ((2 ^ p.1 + 2 ^ p.2 : Nat) : Int)))), ("asked", dt (.list ((List.range b.n).map fun i => .list ((b.ask i).map fun q => .tuple [.int q.1, .int q.2]))))]
def bookR (C : Addr) (b : Bk) : Rel := ⟨fun v G => ∃ a dx fs, v = .ref a ∧ G a = some (.ins C dx fs) ∧ ∀ q ∈ flds b, ∃ u, fs.lookup q.1 = some u ∧ q.2.r u G, fun e ⟨a, dx, fs, h1, h2, h3⟩ => ⟨a, dx, fs, h1, e _ _ h2, fun q hq => let ⟨u, h4, h5⟩ := h3 q hq; ⟨u, h4, q.2.mono e h5⟩⟩⟩
/-- what is asked of the class Book -/
structure BookF (K : Fg) (C : Addr) : Prop where
  cls : Cls K C
  no : ∀ f ∈ (["record", "own_points", "own_reset", "own_names", "own_tiers", "tier_by", "spots", "bits", "own_needs", "own_prices", "own_given", "barred", "asked"] : List Str), NoAttr K C f
theorem flds_names (b : Bk) : (flds b).map (·.1) = (["record", "own_points", "own_reset", "own_names", "own_tiers", "tier_by", "spots", "bits", "own_needs", "own_prices", "own_given", "barred", "asked"] : List Str) := rfl
section
variable {σ : L2.St} {G H : Hp} {te ta : TE} {K : Fg} {C : Addr} {b : Bk}
theorem ed_fld {f : Str} {R : Rel} (F : BookF K C) (h : ED te σ G (bookR C b)) (i : Nat) (hf : (flds b)[i]? = some (f, R) := by rfl) : ED (tFld K te f) σ G R := fun H e Q q =>
  h H e _ fun v G1 H1 s r => by
    obtain ⟨a, dx, fs, rfl, ea, hq⟩ := r
    have hm := List.mem_of_getElem? hf
    obtain ⟨u, h1, h2⟩ := hq _ hm
    exact ⟨a, C, dx, fs, u, rfl, s.i _ _ ea, F.cls, F.no f (by rw [← flds_names b]; exact List.mem_map.mpr ⟨_, hm, rfl⟩), h1, q u G1 H1 s h2⟩
theorem k_while {c : TT} {tb : TS} {D : Ends} (I : Nat → L2.St → Hp → Hp → Prop) (h0 : ∃ m G, I m σ G H) (hI : ∀ m σ G H, I m σ G H → Ex G H)
    (step : ∀ m σ G H, I m σ G H → ∃ b, ET c σ G b ∧ (b = true → ∀ G1 H1, Step G H G1 H1 → tb { D with nx := fun σ' H' => ∃ m' G', m' < m ∧ I m' σ' G' H', ct := fun σ' H' => ∃ m' G', m' < m ∧ I m' σ' G' H', bk := D.nx } σ H1) ∧ (b = false → ∀ G1 H1, Step G H G1 H1 → D.nx σ H1)) : tWhile c tb D σ H := by
  refine ⟨fun m σ H => ∃ G, I m σ G H, h0, ?_⟩
  rintro m σ H ⟨G, hi⟩
  obtain ⟨b, h1, h2, h3⟩ := step m σ G H hi
  refine h1 H (hI m σ G H hi) _ fun G1 H1 s => ?_
  cases b with
  | true => exact ⟨fun σ' H' => ∃ m' G', m' < m ∧ I m' σ' G' H', fun σ' H' ⟨m', G', h4, h5⟩ => ⟨m', h4, G', h5⟩, h2 rfl G1 H1 s⟩
  | false => exact h3 rfl G1 H1 s
theorem look_map {α κ β : Type} [DecidableEq κ] {f : α → κ} {g : α → β} : ∀ {l : List α} {a : α}, a ∈ l → (∀ x ∈ l, f x = f a → x = a) → lookG (l.map fun x => (f x, g x)) (f a) = some (g a)
  | x :: l, a, h, hi => by
    rw [List.map_cons, lookG_cons]
    dsimp only
    by_cases e : f x = f a
    · rw [if_pos e, hi x List.mem_cons_self e]
    · rw [if_neg e]
      refine look_map ?_ fun y hy => hi y (List.mem_cons_of_mem _ hy)
      rcases List.mem_cons.mp h with z | z
      · exact absurd (congrArg f z.symm) e
      · exact z
theorem look_map_none {α κ β : Type} [DecidableEq κ] {f : α → κ} {g : α → β} {k : κ} {l : List α} (h : ∀ x ∈ l, f x ≠ k) : lookG (l.map fun x => (f x, g x)) k = none := by
  rw [lookG_none, List.map_map]
  intro z
  obtain ⟨x, hx, e⟩ := List.mem_map.mp z
  exact h x hx e
/-- book.bits[name] -/
theorem ed_bit {i : Nat} (F : BookF K C) (ok : BOk b) (h : ED te σ G (bookR C b)) (hi : i < b.n) (hn : ED ta σ G (dt (.str (b.nm i)))) : ED (tDGet (tFld K te "bits") ta) σ G (dt (.int ((2 ^ i : Nat) : Int))) :=
  ed_dget (k := .inr (b.nm i)) (ed_fld F h 7) hn (look_map (f := fun i => (Sum.inr (b.nm i) : Key)) (g := fun i => PyData.int ((2 ^ i : Nat) : Int)) (List.mem_range.mpr hi) fun x hx e => nm_inj ok (List.mem_range.mp hx) hi (by injection e))
theorem ed_band {m k : Nat} (ha : ED te σ G (dt (.int m))) (hb : ED ta σ G (dt (.int k))) : ED (tOp rAnd te ta) σ G (dt (.int ((m &&& k : Nat) : Int))) := ED.eq (ed_and ha hb) (congrArg PyData.int (band m k))
theorem bit_truth (m i : Nat) : ((((m &&& 2 ^ i : Nat) : Int)) != 0) = m.testBit i := by
  rw [and_bit]
  by_cases h : m.testBit i = true
  · rw [if_pos h, h]
    have : (2 : Nat) ^ i ≠ 0 := by have := Nat.two_pow_pos i; omega
    simp only [bne_iff_ne, ne_eq]
    omega
  · rw [if_neg h]
    simp at h
    rw [h]; rfl
end
section
variable {P : Program} {w : World} {K : Fg} {mg : Str → Option Value} {base : Heap} {C : Addr}
theorem c_size_of (T : Txt K mg) : Callee P w K mg base CX0 1 "size_of" ["mask"] (FSp (fun _ : Nat => True) (fun m => [dt (.int m)]) (fun m => dt (.int (pc m)))) := by
  refine callee T.d_size_of sc_size_of (fun _ _ _ _ _ _ us hl => match us, hl with | [_], _ => rfl) (fun _ => rfl) fun f cdv Ar outer s H0 E hr => ?_
  obtain ⟨hu0, hu, hu64, hu65⟩ := room0 hr
  refine ⟨_, (pss_cons (ps_set (i := 1) sc_size_of.nd rfl (Or.inl rfl) pe_int) (pss_cons (ps_while PassesOwn.never (pt_cmpR op_gt1 (pv 0) pe_int (nomark _)) (pss_cons (ps_aug (i := 0) sc_size_of.nd rfl (Or.inl rfl) (pe_op op_sub1 (pv 0) pe_int) iop_and) (pss_one (ps_aug (i := 1) sc_size_of.nd rfl (Or.inl rfl) pe_int iop_add)))) (pss_one (ps_ret (pv 1))))), fun m vs G H D _ hA e q => ?_⟩
  obtain ⟨v, rfl, h1⟩ := hA.one
  cases Dx.int_inv h1
  refine k_asgS ed_int e fun tv G1 H1 s1 r1 => ?_
  cases Dx.int_inv r1
  refine k_while (fun k σ' G' H' => ∃ y : Nat, σ' = [some (.int k), some (.int y)] ∧ Step G H G' H' ∧ pc k + y = pc m) ⟨m, G1, 0, rfl, s1, rfl⟩ (fun _ _ _ _ ⟨_, _, h, _⟩ => h.i) ?_
  rintro k σ' G' H' ⟨y, rfl, s2, hp⟩
  refine ⟨_, et_test (ed_gt (ed_var (by rfl) (.int _)) ed_int), fun hb G3 H3 s3 => ?_, fun hb G3 H3 s3 => ?_⟩
  · have hk : 0 < k := by have := of_decide_eq_true hb; omega
    have e1 : (k : Int) - 1 = ((k - 1 : Nat) : Int) := by omega
    refine ⟨_, rfl, ⟨_, rfl, _, _, rfl, rfl, _, _, rfl, rfl, ⟨_, rfl, _, _, rfl, rfl, k &&& (k - 1), G3, and_pred_lt k hk, y + 1, ?_, s2.trans s3, ?_⟩⟩⟩
    · rw [e1]
      show [some (V.int (Builtin.bitAnd (k : Int) ((k - 1 : Nat) : Int))), some (V.int ((y : Int) + 1))] = _
      rw [band]; rfl
    · have := pc_clear k hk; omega
  · have hk : k = 0 := by have := of_decide_eq_false hb; omega
    subst hk
    rw [pc_zero] at hp
    refine k_ret (R := dt (.int (pc m))) (ed_var (by rfl) (v := .int (y : Int)) ?_) s3.i fun v G4 H4 s4 r => q v G4 H4 ((s2.trans s3).trans s4) r
    rw [← hp, Nat.zero_add]
    exact .int _
theorem c_mask_of (T : Txt K mg) (F : BookF K C) : Callee P w K mg base CX0 1 "mask_of" ["book", "build"] (FSp (fun a : Bk × Nat => BOk a.1 ∧ a.2 < 2 ^ a.1.n) (fun a => [bookR C a.1, dt (.tuple ((a.1.bld a.2).map .str))]) (fun a => dt (.int a.2))) := by
  refine callee T.d_mask_of sc_mask_of (fun _ _ _ _ _ _ us hl => match us, hl with | [_, _], _ => rfl) (fun _ => rfl) fun f cdv Ar outer s H0 E hr => ?_
  obtain ⟨hu0, hu, hu64, hu65⟩ := room0 hr
  refine ⟨_, (pss_one (ps_ret (pe_callB (call_sumU K) (by rfl) T.f_sum (by decide +kernel) (pa_cons (pe_lc (own := [("name", 2)]) rfl sc_mask_of.nd (pi_tupK K (pv 1)) (blkOk_by (own := [("name", 2)]) (N := N_mask_of) (sc := defScope s_mask_of) (by decide +kernel)) (fun _ _ _ _ _ => (pg_name (i := 2) sc_mask_of.nd rfl (Or.inl rfl))) (fun _ _ _ _ _ => pts_nil) (fun _ _ _ _ _ => (pe_dget hu (pe_fldK K (pv 0)) (pv 2) (fun _ _ => rfl)))) pa_nil)))), fun a vs G H D hP hA e q => ?_⟩
  obtain ⟨b, m⟩ := a
  have ok : BOk b := hP.1
  have hm := hP.2
  obtain ⟨v, x, rfl, h1, h2⟩ := hA.two
  dsimp only at h1 h2 hm
  refine k_ret (R := dt (.int m)) (ED.eq (ed_sum (ns := ((List.range b.n).filter m.testBit).map fun i => ((2 ^ i : Nat) : Int)) (ED.eq (ed_lcN1 (xs := (List.range b.n).filter m.testBit) (Rx := fun i => dt (.str (b.nm i))) (f := fun i => .int ((2 ^ i : Nat) : Int)) ?_ ?_ ?_) (by rw [List.map_map]; rfl))) ?_) e q
  · have := ei_tup (K := K) (ed_var (σ := L2.start N_mask_of [v, x]) (i := 1) (R := dt (.tuple ((b.bld m).map .str))) (by rfl) h2)
    rw [List.map_map] at this
    unfold Bk.bld at this
    rw [List.map_map] at this
    exact this
  · have := bld_len5 (b := b) ok m
    rw [bld_len] at this
    exact Nat.le_trans this (by decide)
  · intro i hi v' G1 g1 rv
    have hin := List.mem_range.mp (List.mem_filter.mp hi).1
    exact ed_bit F ok (ed_var (by rfl) ((bookR C b).mono g1 h1)) hin (ed_var (by rfl) rv)
  · have e1 := mask_eta hm
    unfold maskOf at e1
    have : ∀ l : List Nat, (l.map fun i => ((2 ^ i : Nat) : Int)).sum = (((l.map (2 ^ ·)).sum : Nat) : Int) := by
      intro l
      induction l with
      | nil => rfl
      | cons a l ih => rw [List.map_cons, List.sum_cons, ih, List.map_cons, List.sum_cons]; simp
    rw [this, e1]
theorem c_is_let (T : Txt K mg) (F : BookF K C) : Callee P w K mg base CX0 2 "is_let" ["book", "mask", "spot"] (FSp (fun a : Bk × Nat × Nat => BOk a.1 ∧ a.2.2 < a.1.n) (fun a => [bookR C a.1, dt (.int a.2.1), dt (.int a.2.2)]) (fun a => dt (.bool (a.1.letP a.2.1 a.2.2)))) := by
  have c_size_of := c_size_of (P := P) (w := w) (base := base) T
  refine callee T.d_is_let sc_is_let (fun _ _ _ _ _ _ us hl => match us, hl with | [_, _, _], _ => rfl) (fun _ => rfl) fun f cdv Ar outer s H0 E hr => ?_
  obtain ⟨hu0, hu, hu64, hu65⟩ := room0 hr
  refine ⟨_, (pss_one (ps_ret (pe_callB (call_allU K) (by rfl) T.f_all (by decide +kernel) (pa_cons (pe_lc (own := [("some", 3), ("many", 4)]) rfl sc_is_let.nd (pi_listK K (pe_ix (ix_seqK K) (pe_fldK K (pv 0)) (pv 2) (fun _ _ => rfl))) (blkOk_by (own := [("some", 3), ("many", 4)]) (N := N_is_let) (sc := defScope s_is_let) (by decide +kernel)) (fun _ _ _ _ _ => (pg_tupK K (n := 2) (pgs_cons (pg_name (i := 3) sc_is_let.nd rfl (Or.inl rfl)) (pgs_cons (pg_name (i := 4) sc_is_let.nd rfl (Or.inl rfl)) pgs_nil)))) (fun _ _ _ _ _ => pts_nil) (fun _ _ _ _ _ => (pe_cmpR op_ge1 (pe_cl c_size_of hr pass0 (pa_cons (pe_op op_and1 (pv 1) (pv 3)) pa_nil)) (pv 4) (nomark _)))) pa_nil)))), fun a vs G H D hP hA e q => ?_⟩
  obtain ⟨b, m, i⟩ := a
  have ok : BOk b := hP.1
  have hi := hP.2
  obtain ⟨v, x, y, rfl, h1, h2, h3⟩ := hA.three
  dsimp only at h1 h2 h3 hi
  have hlen : (b.ask i).length ≤ 13 := by
    unfold Bk.ask
    rw [List.length_cons, List.length_map]
    have := List.length_filter_le (fun w : Wt => decide (w.who = i)) b.wants
    have := ok.wl
    omega
  refine k_ret (ed_allM (f := fun p : Nat × Nat => decide (p.2 ≤ pc (m &&& p.1))) (ed_lcPb (xs := b.ask i) (a := fun p : Nat × Nat => .int p.1) (b := fun p : Nat × Nat => .int p.2) (ei_listM (ed_ixL (ed_fld F (ed_var (by rfl) h1) 12) (ed_var (by rfl) h3) (at_nat ?_))) (by omega) ?_)) e q
  · rw [List.getElem?_map, List.getElem?_range hi]; rfl
  · intro p hp y' z' G1 g1 ry rz
    exact ED.eq (ed_ge (ed_call (m &&& p.1) (ea_cons (ed_band (ed_var (by rfl) (Dx.mono g1 h2)) (ed_var (by rfl) ry)) ea_nil) True.intro) (ed_var (by rfl) rz)) (by simp)
theorem sum_cast (l : List Nat) : (l.map fun i : Nat => (i : Int)).sum = ((l.sum : Nat) : Int) := by
  induction l with
  | nil => rfl
  | cons a l ih => rw [List.map_cons, List.sum_cons, ih, List.sum_cons]; simp
theorem c_points_let (T : Txt K mg) (F : BookF K C) : Callee P w K mg base CX0 1 "points_let" ["book", "mask"] (FSp (fun a : Bk × Nat => BOk a.1) (fun a => [bookR C a.1, dt (.int a.2)]) (fun a => dt (.int (a.1.ptsP a.2)))) := by
  refine callee T.d_points_let sc_points_let (fun _ _ _ _ _ _ us hl => match us, hl with | [_, _], _ => rfl) (fun _ => rfl) fun f cdv Ar outer s H0 E hr => ?_
  obtain ⟨hu0, hu, hu64, hu65⟩ := room0 hr
  refine ⟨_, (pss_one (ps_ret (pe_op (op_addU K) (pe_fldK K (pv 0)) (pe_callB (call_sumU K) (by rfl) T.f_sum (by decide +kernel) (pa_cons (pe_lc (own := [("name", 2), ("many", 3)]) rfl sc_points_let.nd (pi_tupK K (pe_ix (ix_seqK K) (pe_fldK K (pv 0)) pe_int (fun _ _ => rfl))) (blkOk_by (own := [("name", 2), ("many", 3)]) (N := N_points_let) (sc := defScope s_points_let) (by decide +kernel)) (fun _ _ _ _ _ => (pg_tupK K (n := 2) (pgs_cons (pg_name (i := 2) sc_points_let.nd rfl (Or.inl rfl)) (pgs_cons (pg_name (i := 3) sc_points_let.nd rfl (Or.inl rfl)) pgs_nil)))) (fun _ _ _ _ _ => (pts_one (pt_truthK K (pe_op op_and1 (pv 1) (pe_dget hu (pe_fldK K (pv 0)) (pv 2) (fun _ _ => rfl)))))) (fun _ _ _ _ _ => (pv 3))) pa_nil))))), fun a vs G H D ok hA e q => ?_⟩
  obtain ⟨b, m⟩ := a
  obtain ⟨v, x, rfl, h1, h2⟩ := hA.two
  have ok : BOk b := ok
  dsimp only at h1 h2
  refine k_ret (ED.eq (ed_add (ed_fld F (ed_var (by rfl) h1) 1) (ed_sum (ns := ((b.gives.filter fun p => m.testBit p.1).map (·.2)).map fun i : Nat => (i : Int)) (ED.eq (ed_lcP (xs := b.gives) (p := fun p => m.testBit p.1) (f := fun p : Nat × Nat => .int p.2) (a := fun p : Nat × Nat => .str (b.nm p.1)) (b := fun p : Nat × Nat => .int p.2) (ei_tupM (ed_ixT (ed_fld F (ed_var (by rfl) h1) 0) ed_int (at_nat (j := 5) rfl))) (by have := ok.gl; omega) ?_) (by rw [List.map_map, List.map_map]; rfl)))) ?_) e q
  · intro p hp y' z' G1 g1 ry rz
    exact ⟨ET.eq (et_ti (ed_band (ed_var (by rfl) (Dx.mono g1 h2)) (ed_bit F ok (ed_var (by rfl) ((bookR C b).mono g1 h1)) (ok.go p hp).1 (ed_var (by rfl) ry)))) (bit_truth _ _), fun _ => ed_var (by rfl) rz⟩
  · rw [sum_cast]; simp [Bk.ptsP]
end
end RT
end
section
set_option maxRecDepth 100000
set_option maxHeartbeats 4000000
/-! RTW6: what holds; steps; builds. -/
namespace RT
open PySem PySem.Spec PyProof.Rows L2
open Evl (Ex Ex.refl Ex.trans Ex.new Ex.mut)
section
variable {P : Program} {w : World} {K : Fg} {mg : Str → Option Value} {base : Heap} {C : Addr}
theorem c_does_hold (T : Txt K mg) (F : BookF K C) : Callee P w K mg base CX0 3 "does_hold" ["book", "mask"] (FSp (fun a : Bk × Nat => BOk a.1) (fun a => [bookR C a.1, dt (.int a.2)]) (fun a => dt (.bool (a.1.holdP a.2)))) := by
  have c_size_of := c_size_of (P := P) (w := w) (base := base) T
  have c_points_let := c_points_let (P := P) (w := w) (base := base) T F
  have c_is_let := c_is_let (P := P) (w := w) (base := base) T F
  refine callee T.d_does_hold sc_does_hold (fun _ _ _ _ _ _ us hl => match us, hl with | [_, _], _ => rfl) (fun _ => rfl) fun f cdv Ar outer s H0 E hr => ?_
  obtain ⟨hu0, hu, hu64, hu65⟩ := room0 hr
  refine ⟨_, (pss_cons (ps_if (L2.PW.pt (pw_or (pt_cmpR op_gt1 (pe_cl c_size_of hr pass0 (pa_cons (pv 1) pa_nil)) (pe_cl c_points_let hr pass0 (pa_cons (pv 0) (pa_cons (pv 1) pa_nil))) (nomark _)) (pw_or1 (pt_truthK K (pe_callB (call_anyU K) (by rfl) T.f_any (by decide +kernel) (pa_cons (pe_lc (own := [("pair", 2)]) rfl sc_does_hold.nd (pi_listK K (pe_fldK K (pv 0))) (blkOk_by (own := [("pair", 2)]) (N := N_does_hold) (sc := defScope s_does_hold) (by decide +kernel)) (fun _ _ _ _ _ => (pg_name (i := 2) sc_does_hold.nd rfl (Or.inl rfl))) (fun _ _ _ _ _ => pts_nil) (fun _ _ _ _ _ => (pe_cmpR (op_eqK K hu64) (pe_op op_and1 (pv 1) (pv 2)) (pv 2) (nomark _)))) pa_nil)))))) (pss_one (ps_ret pe_bl)) pss_nil) (pss_one (ps_ret (pe_callB (call_allU K) (by rfl) T.f_all (by decide +kernel) (pa_cons (pe_lc (own := [("spot", 3)]) rfl sc_does_hold.nd (pi_range1 (by rfl) T.f_range (pa_cons (pe_callB (call_lenU K) (by rfl) T.f_len (by decide +kernel) (pa_cons (pe_fldK K (pv 0)) pa_nil)) pa_nil)) (blkOk_by (own := [("spot", 3)]) (N := N_does_hold) (sc := defScope s_does_hold) (by decide +kernel)) (fun _ _ _ _ _ => (pg_name (i := 3) sc_does_hold.nd rfl (Or.inl rfl))) (fun _ _ _ _ _ => (pts_one (pt_truthK K (pe_op op_and1 (pv 1) (pe_ix (ix_seqK K) (pe_fldK K (pv 0)) (pv 3) (fun _ _ => rfl)))))) (fun _ _ _ _ _ => (pe_cl c_is_let hr pass0 (pa_cons (pv 0) (pa_cons (pv 1) (pa_cons (pv 3) pa_nil)))))) pa_nil))))), fun a vs G H D hP hA e q => ?_⟩
  obtain ⟨b, m⟩ := a
  have ok : BOk b := hP
  obtain ⟨v, x, rfl, h1, h2⟩ := hA.two
  dsimp only at h1 h2
  refine k_retS (R := dt (.bool false)) (ET.eq (et_or (et_test (ed_gt (ed_call m (ea_cons (ed_var (by rfl) h2) ea_nil) True.intro) (ed_call (b, m) (ea_cons (ed_var (by rfl) h1) (ea_cons (ed_var (by rfl) h2) ea_nil)) ok))) fun _ => et_tb (ed_anyM (f := fun p : Nat × Nat => decide (m &&& (2 ^ p.1 + 2 ^ p.2) = 2 ^ p.1 + 2 ^ p.2)) (ed_lcNb (xs := b.bars) (Rx := fun p => dt (.int ((2 ^ p.1 + 2 ^ p.2 : Nat) : Int))) (ei_listM (ed_fld F (ed_var (by rfl) h1) 11)) (by have := ok.bl; omega) fun p hp y G1 g1 ry => ED.eq (ed_eqI (ed_band (ed_var (by rfl) (Dx.mono g1 h2)) (ed_var (by rfl) ry)) (ed_var (by rfl) ry)) ?_))) rfl) e (fun _ => ed_bl) (fun hb v G1 H1 s1 r => q v G1 H1 s1 ?_) fun hb G1 H1 s1 => ?_
  · congr 1
    exact decide_eq_decide.mpr ⟨fun h => by exact_mod_cast h, fun h => by exact_mod_cast h⟩
  · have : b.holdP m = false := by
      unfold Bk.holdP
      have e1 : decide ((b.ptsP m : Int) < (pc m : Int)) = decide (b.ptsP m < pc m) := by simp
      rw [e1] at hb
      rw [hb]; rfl
    rw [this]; exact r
  · have bk : ∀ {σ : L2.St} {G2}, σ[0]? = some (some v) → Ex G1 G2 → ED (tVar 0) σ G2 (bookR C b) := fun hσ g => ed_var hσ ((bookR C b).mono (s1.g.trans g) h1)
    have mk : ∀ {σ : L2.St} {G2}, σ[1]? = some (some x) → Ex G1 G2 → ED (tVar 1) σ G2 (dt (.int (m : Int))) := fun hσ g => ed_var hσ (Dx.mono (s1.g.trans g) h2)
    have n5 : b.n ≤ 5 := ok.n5
    refine k_ret (R := dt (.bool (((List.range b.n).filter m.testBit).all (b.letP m)))) (ed_allM (f := b.letP m) (ED.eq (ed_lcN (xs := List.range b.n) (Rx := fun i => dt (.int (i : Int))) (p := m.testBit) (f := fun i => PyData.bool (b.letP m i)) (ei_range (ED.eq (ed_lenL (ed_fld F (bk rfl (Ex.refl _)) 3)) (by simp [nms_len])) (by omega)) (by simp; omega) ?_) (by rw [List.map_map]; rfl))) s1.i fun v G2 H2 s2 r => q v G2 H2 (s1.trans s2) ?_
    · intro i hi y G2 g2 ry
      have hin := List.mem_range.mp hi
      refine ⟨ET.eq (et_ti (ed_band (mk rfl g2) (ed_ixL (ed_fld F (bk rfl g2) 6) (ed_var (by rfl) ry) (at_nat ?_)))) (bit_truth m i), fun _ => ed_call (b, m, i) (ea_cons (bk rfl g2) (ea_cons (mk rfl g2) (ea_cons (ed_var (by rfl) ry) ea_nil))) ⟨ok, hin⟩⟩
      rw [List.getElem?_map, List.getElem?_range hin]; rfl
    · have : b.holdP m = ((List.range b.n).filter m.testBit).all (b.letP m) := by
        unfold Bk.holdP
        have e1 : decide ((b.ptsP m : Int) < (pc m : Int)) = decide (b.ptsP m < pc m) := by simp
        rw [e1] at hb
        rw [hb]; rfl
      show Dx G2 v (.bool (b.holdP m))
      rw [this]; exact r
/-! ### steps -/
def sTake (b : Bk) (i : Nat) : PyData := .tuple [.str "take", .str (b.nm i)]
def sGive (b : Bk) (i : Nat) : PyData := .tuple [.str "give", .str (b.nm i)]
def sReset : PyData := .tuple [.str "reset"]
def takesP (b : Bk) (m : Nat) : List Nat := (List.range b.n).filter fun i => !m.testBit i && b.holdP (m + 2 ^ i)
def givesP (b : Bk) (m : Nat) : List Nat := (List.range b.n).filter fun i => m.testBit i && b.holdP (m - 2 ^ i)
def stepsD (b : Bk) (m : Nat) : List PyData := (takesP b m).map (fun i => .tuple [sTake b i, .int ((m + 2 ^ i : Nat) : Int)]) ++ (givesP b m).map (fun i => .tuple [sGive b i, .int ((m - 2 ^ i : Nat) : Int)]) ++ if !isNn (dReset b) && decide (0 < m) then [.tuple [sReset, .int 0]] else []
theorem c_steps_at (T : Txt K mg) (F : BookF K C) : Callee P w K mg base CX0 4 "steps_at" ["book", "mask"] (FSp (fun a : Bk × Nat => BOk a.1) (fun a => [bookR C a.1, dt (.int a.2)]) (fun a => dt (.list (stepsD a.1 a.2)))) := by
  have c_does_hold := c_does_hold (P := P) (w := w) (base := base) T F
  refine callee T.d_steps_at sc_steps_at (fun _ _ _ _ _ _ us hl => match us, hl with | [_, _], _ => rfl) (fun _ => rfl) fun f cdv Ar outer s H0 E hr => ?_
  obtain ⟨hu0, hu, hu64, hu65⟩ := room0 hr
  refine ⟨_, (pss_cons (ps_set (i := 2) sc_steps_at.nd rfl (Or.inl rfl) (pe_lst pa_nil)) (pss_cons (ps_for PassesOwn.never rfl (pi_listK K (pe_fldK K (pv 0))) (pg_name (i := 3) sc_steps_at.nd rfl (Or.inl rfl)) (pss_one (ps_if (L2.PW.pt (pw_and (pt_not (pt_truthK K (pe_op op_and1 (pv 1) (pe_dget hu (pe_fldK K (pv 0)) (pv 3) (fun _ _ => rfl))))) (pw_and1 (pt_truthK K (pe_cl c_does_hold hr pass0 (pa_cons (pv 0) (pa_cons (pe_op (op_addU K) (pv 1) (pe_dget hu (pe_fldK K (pv 0)) (pv 3) (fun _ _ => rfl))) pa_nil))))))) (pss_one (ps_expr (pe_bm PySem.F.plainAttrs_list PySem.F.slot_list_append PySem.F.type_list_append mt_append (pv 2) (pa_cons (pe_tup (pa_cons (pe_tup (pa_cons pe_str (pa_cons (pv 3) pa_nil))) (pa_cons (pe_op (op_addU K) (pv 1) (pe_dget hu (pe_fldK K (pv 0)) (pv 3) (fun _ _ => rfl))) pa_nil))) pa_nil)))) pss_nil))) (pss_cons (ps_for PassesOwn.never rfl (pi_listK K (pe_fldK K (pv 0))) (pg_name (i := 3) sc_steps_at.nd rfl (Or.inl rfl)) (pss_one (ps_if (L2.PW.pt (pw_and (pt_truthK K (pe_op op_and1 (pv 1) (pe_dget hu (pe_fldK K (pv 0)) (pv 3) (fun _ _ => rfl)))) (pw_and1 (pt_truthK K (pe_cl c_does_hold hr pass0 (pa_cons (pv 0) (pa_cons (pe_op op_sub1 (pv 1) (pe_dget hu (pe_fldK K (pv 0)) (pv 3) (fun _ _ => rfl))) pa_nil))))))) (pss_one (ps_expr (pe_bm PySem.F.plainAttrs_list PySem.F.slot_list_append PySem.F.type_list_append mt_append (pv 2) (pa_cons (pe_tup (pa_cons (pe_tup (pa_cons pe_str (pa_cons (pv 3) pa_nil))) (pa_cons (pe_op op_sub1 (pv 1) (pe_dget hu (pe_fldK K (pv 0)) (pv 3) (fun _ _ => rfl))) pa_nil))) pa_nil)))) pss_nil))) (pss_cons (ps_if (L2.PW.pt (pw_and (pt_cmpR op_notN1 (pe_fldK K (pv 0)) pe_non (nomark _)) (pw_and1 (pt_cmpR op_gt1 (pv 1) pe_int (nomark _))))) (pss_one (ps_expr (pe_bm PySem.F.plainAttrs_list PySem.F.slot_list_append PySem.F.type_list_append mt_append (pv 2) (pa_cons (pe_tup (pa_cons (pe_tup (pa_cons pe_str pa_nil)) (pa_cons pe_int pa_nil))) pa_nil)))) pss_nil) (pss_one (ps_ret (pv 2))))))), fun a vs G H D hP hA e q => ?_⟩
  obtain ⟨b, m⟩ := a
  have ok : BOk b := hP
  obtain ⟨v, x, rfl, h1, h2⟩ := hA.two
  dsimp only at h1 h2
  have n5 : b.n ≤ 5 := ok.n5
  have bk : ∀ {σ : L2.St} {G2}, σ[0]? = some (some v) → Ex G G2 → ED (tVar 0) σ G2 (bookR C b) := fun hσ g => ed_var hσ ((bookR C b).mono g h1)
  have mk : ∀ {σ : L2.St} {G2}, σ[1]? = some (some x) → Ex G G2 → ED (tVar 1) σ G2 (dt (.int (m : Int))) := fun hσ g => ed_var hσ (Dx.mono g h2)
  have nms : ∀ {σ : L2.St} {G2}, σ[0]? = some (some v) → Ex G G2 → EI (iList K (tFld K (tVar 0) "own_names")) σ G2 ((List.range b.n).map fun i => dt (.str (b.nm i))) := fun hσ g => by
    have := ei_list (K := K) (ed_fld F (bk hσ g) 3)
    rw [nms_eq, List.map_map, List.map_map] at this
    exact this
  have bit : ∀ {σ : L2.St} {G2} {i : Nat} {y : V}, σ[0]? = some (some v) → Ex G G2 → i < b.n → σ[3]? = some (some y) → Dx G2 y (.str (b.nm i)) → ED (tDGet (tFld K (tVar 0) "bits") (tVar 3)) σ G2 (dt (.int ((2 ^ i : Nat) : Int))) := fun hσ g hi hy ry => ed_bit F ok (bk hσ g) hi (ed_var hy ry)
  refine k_lstS (Step.refl e) ead_nil (by decide) fun p vs G1 H1 g1 s1 n1 hp0 _ e1 x1 => ?_
  refine k_forApp (fun i => !m.testBit i && b.holdP (m + 2 ^ i)) (fun i => .tuple [sTake b i, .int ((m + 2 ^ i : Nat) : Int)]) s1 (nms rfl g1) hp0 rfl (by decide) e1 n1 x1 (by simp; omega) (fun i hi y σ' G2 g2 sb ry => ?_) fun vs2 σ2 G2 H2 sb2 g2 s2 n2 e2 x2 => ?_
  · have hin := List.mem_range.mp hi
    have g := g1.trans g2
    have k0 := sb.set (v := some y) |>.get (j := 0) (u := v) rfl
    have k1 := sb.set (v := some y) |>.get (j := 1) (u := x) rfl
    have k3 : (σ'.set 3 (some y))[3]? = some (some y) := sb.at (show 3 < 4 by decide)
    have sum : ED (tOp (rAddU K) (tVar 1) (tDGet (tFld K (tVar 0) "bits") (tVar 3))) (σ'.set 3 (some y)) G2 (dt (.int ((m + 2 ^ i : Nat) : Int))) := ED.eq (ed_add (mk k1 g) (bit k0 g hin k3 ry)) (by simp)
    refine ⟨et_and (ET.eq (et_not (et_ti (ed_band (mk k1 g) (bit k0 g hin k3 ry)))) (by rw [bit_truth])) fun _ => et_tb (ed_call (b, m + 2 ^ i) (ea_cons (bk k0 g) (ea_cons sum ea_nil)) ok), fun _ => ?_⟩
    exact ed_tup (ead_cons (ed_tup (ead_cons ed_str (ead_cons (ed_var k3 ry) ead_nil)) (by simp)) (ead_cons sum ead_nil)) (by simp)
  refine k_forApp (fun i => m.testBit i && b.holdP (m - 2 ^ i)) (fun i => .tuple [sGive b i, .int ((m - 2 ^ i : Nat) : Int)]) s2 (nms (sb2.get rfl) (g1.trans g2)) hp0 (sb2.get rfl) (by decide) e2 n2 x2 (by simp; have := List.length_filter_le (fun i => !m.testBit i && b.holdP (m + 2 ^ i)) (List.range b.n); rw [List.length_range] at this; omega) (fun i hi y σ' G3 g3 sb ry => ?_) fun vs3 σ3 G3 H3 sb3 g3 s3 n3 e3 x3 => ?_
  · have hin := List.mem_range.mp hi
    have g := (g1.trans g2).trans g3
    have k0 := sb.set (v := some y) |>.get (j := 0) (u := v) (sb2.get rfl)
    have k1 := sb.set (v := some y) |>.get (j := 1) (u := x) (sb2.get rfl)
    have k3 : (σ'.set 3 (some y))[3]? = some (some y) := sb.at (by rw [sb2.1]; exact (show 3 < 4 by decide))
    by_cases hb : m.testBit i = true
    · have le := tb_ge hb
      have dif : ED (tOp rSubI (tVar 1) (tDGet (tFld K (tVar 0) "bits") (tVar 3))) (σ'.set 3 (some y)) G3 (dt (.int ((m - 2 ^ i : Nat) : Int))) := ED.eq (ed_subI (mk k1 g) (bit k0 g hin k3 ry)) (by congr 1; omega)
      refine ⟨et_and (ET.eq (et_ti (ed_band (mk k1 g) (bit k0 g hin k3 ry))) (bit_truth m i)) fun _ => et_tb (ed_call (b, m - 2 ^ i) (ea_cons (bk k0 g) (ea_cons dif ea_nil)) ok), fun _ => ?_⟩
      exact ed_tup (ead_cons (ed_tup (ead_cons ed_str (ead_cons (ed_var k3 ry) ead_nil)) (by simp)) (ead_cons dif ead_nil)) (by simp)
    · refine ⟨et_and (ET.eq (et_ti (ed_band (mk k1 g) (bit k0 g hin k3 ry))) (bit_truth m i)) fun z => absurd z hb, fun z => ?_⟩
      simp [hb] at z
  have k0 : σ3[0]? = some (some v) := sb3.get (sb2.get rfl)
  have k1 : σ3[1]? = some (some x) := sb3.get (sb2.get rfl)
  have k2 : σ3[2]? = some (some (.ref p)) := sb3.get (sb2.get rfl)
  have g := (g1.trans g2).trans g3
  have fin : ∀ {σ4 : L2.St} {G4 H4 : Hp} {vs4 : List V}, σ4[2]? = some (some (.ref p)) → Step G H G4 H4 → G4 p = none → H4 p = some (.lst vs4) → DxA G4 vs4 (stepsD b m) → tRet (tVar 2) D σ4 H4 := fun {σ4 G4 H4 vs4} hσ s4 n4 e4 x4 => by
    have s5 := s4.pub hp0 n4 e4
    refine k_ret (R := dt (.list (stepsD b m))) (ed_var hσ (.lst upd_same (x4.mono (Ex.new n4)))) s5.i fun v G6 H6 s6 r => q v G6 H6 (s5.trans s6) r
  refine k_if (D := { D with nx := tRet (tVar 2) D }) (et_and (et_test (ed_notNn (ed_fld F (bk k0 g) 2))) fun _ => ET.eq (et_test (ed_gt (mk k1 g) ed_int)) (by simp : _ = decide (0 < m))) s3.i (fun hb G4 H4 s4 => ?_) fun hb G4 H4 s4 => ?_
  · have p4 : H4 p = some (.lst vs3) := s4.h _ _ e3
    have n4 : G4 p = none := s4.s p (by rw [e3]; intro z; cases z) n3
    have ln : ∀ (f : Nat → Bool), ((List.range b.n).filter f).length ≤ 5 := fun f => by have := List.length_filter_le f (List.range b.n); rw [List.length_range] at this; omega
    refine ⟨.ref p, k2, .inl ⟨rfl, vs3, SqL.of p4⟩, ?_⟩
    refine (ed_tup (ead_cons (ed_tup (ead_cons ed_str ead_nil) (by simp)) (ead_cons ed_int ead_nil)) (by simp) : ED _ σ3 G4 (dt (.tuple [sReset, .int 0]))) H4 s4.i _ fun y G5 H5 s5 r => ?_
    have p5 : H5 p = some (.lst vs3) := s5.h _ _ p4
    have n5' : G5 p = none := s5.s p (by rw [p4]; intro z; cases z) n4
    have x5 := x3.mono (s4.g.trans s5.g)
    refine ⟨p, vs3, y, rfl, rfl, p5, ?_, ?_⟩
    · rw [x3.length]
      refine sz_lt ?_
      have l1 := ln fun i => !m.testBit i && b.holdP (m + 2 ^ i)
      have l2 := ln fun i => m.testBit i && b.holdP (m - 2 ^ i)
      simp only [List.nil_append, List.length_append, List.length_map]; omega
    · refine fin k2 (((s3.trans s4).trans s5).mut hp0 n5') n5' upd_same ?_
      have : stepsD b m = ((takesP b m).map (fun i => .tuple [sTake b i, .int ((m + 2 ^ i : Nat) : Int)]) ++ (givesP b m).map (fun i => .tuple [sGive b i, .int ((m - 2 ^ i : Nat) : Int)])) ++ [.tuple [sReset, .int 0]] := by unfold stepsD; rw [if_pos hb]
      rw [this]
      exact x5.append (.cons r .nil)
  · refine fin k2 (s3.trans s4) (s4.s p (by rw [e3]; intro z; cases z) n3) (s4.h _ _ e3) ?_
    have : stepsD b m = (takesP b m).map (fun i => .tuple [sTake b i, .int ((m + 2 ^ i : Nat) : Int)]) ++ (givesP b m).map (fun i => .tuple [sGive b i, .int ((m - 2 ^ i : Nat) : Int)]) := by unfold stepsD; rw [if_neg (by rw [hb]; decide), List.append_nil]
    rw [this]
    exact x3.mono s4.g
end
end RT
end
section
set_option maxRecDepth 100000
set_option maxHeartbeats 4000000
/-! RTW7: builds looked at. -/
namespace RT
open PySem PySem.Spec PyProof.Rows L2
open Evl (Ex Ex.refl Ex.trans Ex.new Ex.mut)
/-- an item of what is given as a build -/
def od : Option Str → PyData
  | none => .none
  | some s => .str s
def inB (b : Bk) : Option Str → Bool
  | none => false
  | some s => wordS s && decide (s ∈ b.nms)
def skB (b : Bk) (l : List (Option Str)) : Bool := l.all (inB b) && decide l.Nodup
def ordB (b : Bk) (l : List (Option Str)) : List Str := b.nms.filter fun s => decide (some s ∈ l)
def isB (b : Bk) (l : List (Option Str)) : Bool := skB b l && decide (l = (ordB b l).map some)
theorem inB_some {b : Bk} : ∀ {l : List (Option Str)}, l.all (inB b) = true → ∃ ss : List Str, l = ss.map some ∧ ∀ s ∈ ss, wordS s = true ∧ s ∈ b.nms
  | [], _ => ⟨[], rfl, by simp⟩
  | none :: l, h => by simp [inB] at h
  | some s :: l, h => by
    simp only [List.all_cons, Bool.and_eq_true, inB, decide_eq_true_eq] at h
    obtain ⟨ss, rfl, h2⟩ := inB_some h.2
    refine ⟨s :: ss, rfl, fun x hx => ?_⟩
    rcases List.mem_cons.mp hx with e | e
    · subst e; exact h.1
    · exact h2 x e
section
variable {P : Program} {w : World} {K : Fg} {mg : Str → Option Value} {base : Heap} {C : Addr}
theorem c_are_skills_of (T : Txt K mg) (F : BookF K C) : Callee P w K mg base CX0 2 "are_skills_of" ["book", "value"] (FSp (fun a : Bk × List (Option Str) => BOk a.1 ∧ a.2.length ≤ 1000 ∧ ∀ s, some s ∈ a.2 → s.length ≤ 80000) (fun a => [bookR C a.1, dt (.tuple (a.2.map od))]) (fun a => dt (.bool (skB a.1 a.2)))) := by
  have c_is_row := c_is_row (P := P) (w := w) (base := base) T
  have c_is_word := c_is_word (P := P) (w := w) (base := base) T
  have c_are_unlike := c_are_unlike (P := P) (w := w) (base := base) T
  refine callee T.d_are_skills_of sc_are_skills_of (fun _ _ _ _ _ _ us hl => match us, hl with | [_, _], _ => rfl) (fun _ => rfl) fun f cdv Ar outer s H0 E hr => ?_
  obtain ⟨hu0, hu, hu64, hu65⟩ := room0 hr
  refine ⟨_, (pss_cons (ps_if (L2.PW.pt (pw_or (pt_not (pt_truthK K (pe_cl c_is_row hr pass0 (pa_cons (pv 1) pa_nil)))) (pw_or1 (pt_not (pt_truthK K (pe_callB (call_allU K) (by rfl) T.f_all (by decide +kernel) (pa_cons (pe_lc (own := [("name", 2)]) rfl sc_are_skills_of.nd (pi_tupK K (pv 1)) (blkOk_by (own := [("name", 2)]) (N := N_are_skills_of) (sc := defScope s_are_skills_of) (by decide +kernel)) (fun _ _ _ _ _ => (pg_name (i := 2) sc_are_skills_of.nd rfl (Or.inl rfl))) (fun _ _ _ _ _ => pts_nil) (fun _ _ _ _ _ => (pe_and (pe_cl c_is_word hr pass0 (pa_cons (pv 2) pa_nil)) (pe_one (pe_cmpR (op_inU K hu65) (pv 2) (pe_fldK K (pv 0)) (by rfl)))))) pa_nil))))))) (pss_one (ps_ret pe_bl)) pss_nil) (pss_one (ps_ret (pe_cl c_are_unlike hr pass0 (pa_cons (pv 1) pa_nil))))), fun a vs G H D hP hA e q => ?_⟩
  obtain ⟨b, l⟩ := a
  obtain ⟨ok, hl, hz⟩ := hP
  have ok : BOk b := ok
  obtain ⟨v, x, rfl, h1, h2⟩ := hA.two
  dsimp only at h1 h2 hl hz
  refine k_retS (b := !l.all (inB b)) (R := dt (.bool false)) (ET.eq (et_or (b := !l.all (inB b)) (et_not (et_tb (ed_call "tuple" (ea_cons (ed_ty (ed_var (by rfl) h2)) ea_nil) (by decide)))) fun _ => et_not (et_tb (ed_allM (f := inB b) (ed_lcNb (xs := l) (Rx := fun o => dt (od o)) (ei_tupM (ed_var (by rfl) h2)) (by omega) ?_)))) rfl) e (fun _ => ed_bl) (fun hb v G1 H1 s1 r => q v G1 H1 s1 ?_) fun hb G1 H1 s1 => ?_
  · intro o ho y G1 g1 ry
    cases o with
    | none => exact ED.eq (ed_andV (a := false) (b := false) (ed_call .none (ea_cons (ed_var (by rfl) ry) ea_nil) (fun s hs => by cases hs)) fun z => by cases z) rfl
    | some s => exact ED.eq (ed_andV (ed_call (.str s) (ea_cons (ed_var (by rfl) ry) ea_nil) (fun s' hs => by cases hs; exact hz s ho)) fun _ => ed_inL (ed_var (by rfl) ry) (ed_fld F (ed_var (by rfl) ((bookR C b).mono g1 h1)) 3)) rfl
  · have : skB b l = false := by unfold skB; rw [show l.all (inB b) = false by simpa using hb]; rfl
    show Dx G1 v (.bool (skB b l))
    rw [this]; exact r
  · have hall : l.all (inB b) = true := by simpa using hb
    obtain ⟨ss, rfl, hs⟩ := inB_some hall
    refine k_ret (R := dt (.bool (skB b (ss.map some)))) (ed_call (.st ss) (ea_cons (ed_var (by rfl) (Dx.mono s1.g ?_)) ea_nil) (by simp only [UA.len]; simp at hl; omega) ?_) s1.i fun v G2 H2 s2 r => q v G2 H2 (s1.trans s2) r
    · show Dx G x (.tuple (ss.map .str))
      have : (ss.map some).map od = ss.map PyData.str := by rw [List.map_map]; rfl
      rw [← this]; exact h2
    · show dt (.bool (decide ss.Nodup)) = _
      unfold skB
      rw [hall, Bool.true_and]
      have := nodup_map (f := (some : Str → Option Str)) (fun a b e => by cases e; rfl) (l := ss)
      rw [decide_eq_decide.mpr this]
theorem c_in_order (T : Txt K mg) (F : BookF K C) : Callee P w K mg base CX0 1 "in_order" ["book", "skills"] (FSp (fun a : Bk × List Str => BOk a.1) (fun a => [bookR C a.1, dt (.tuple (a.2.map .str))]) (fun a => dt (.tuple ((a.1.nms.filter fun s => decide (s ∈ a.2)).map .str)))) := by
  refine callee T.d_in_order sc_in_order (fun _ _ _ _ _ _ us hl => match us, hl with | [_, _], _ => rfl) (fun _ => rfl) fun f cdv Ar outer s H0 E hr => ?_
  obtain ⟨hu0, hu, hu64, hu65⟩ := room0 hr
  refine ⟨_, (pss_one (ps_ret (pe_callTy (call_tupleU K) (by rfl) T.f_tuple (by decide +kernel) (pa_cons (pe_lc (own := [("name", 2)]) rfl sc_in_order.nd (pi_listK K (pe_fldK K (pv 0))) (blkOk_by (own := [("name", 2)]) (N := N_in_order) (sc := defScope s_in_order) (by decide +kernel)) (fun _ _ _ _ _ => (pg_name (i := 2) sc_in_order.nd rfl (Or.inl rfl))) (fun _ _ _ _ _ => (pts_one (pt_cmpR (op_inU K hu65) (pv 2) (pv 1) (by rfl)))) (fun _ _ _ _ _ => (pv 2))) pa_nil)))), fun a vs G H D hP hA e q => ?_⟩
  obtain ⟨b, ss⟩ := a
  have ok : BOk b := hP
  obtain ⟨v, x, rfl, h1, h2⟩ := hA.two
  dsimp only at h1 h2
  refine k_ret (ed_tupL (ed_lcN (xs := b.nms) (Rx := fun s => dt (.str s)) (p := fun s => decide (s ∈ ss)) (f := fun s => .str s) (ei_listM (ed_fld F (ed_var (by rfl) h1) 3)) (by rw [nms_len]; have := ok.n5; unfold Bk.n; omega) ?_)) e q
  intro s hs y G1 g1 ry
  exact ⟨et_test (ed_inT (ed_var (by rfl) ry) (ed_var (by rfl) (Dx.mono g1 h2))), fun _ => ed_var (by rfl) ry⟩
/-- what is_build is asked of -/
inductive BV where
  | ot (T : String) (R : Rel) | tp (l : List (Option Str))
def BV.R : BV → Rel
  | .ot _ R => R
  | .tp l => dt (.tuple (l.map od))
def BV.ok : BV → Prop
  | .ot T R => T ∈ TYS ∧ isT T "tuple" = false ∧ ∀ v G, R.r v G → (tyR T).r v G
  | .tp l => l.length ≤ 1000 ∧ ∀ s, some s ∈ l → s.length ≤ 80000
def BV.is (b : Bk) : BV → Bool
  | .ot _ _ => false
  | .tp l => isB b l
theorem c_is_build (T : Txt K mg) (F : BookF K C) : Callee P w K mg base CX0 3 "is_build" ["book", "value"] (FSp (fun a : Bk × BV => BOk a.1 ∧ a.2.ok) (fun a => [bookR C a.1, a.2.R]) (fun a => dt (.bool (a.2.is a.1)))) := by
  have c_are_skills_of := c_are_skills_of (P := P) (w := w) (base := base) T F
  have c_in_order := c_in_order (P := P) (w := w) (base := base) T F
  refine callee T.d_is_build sc_is_build (fun _ _ _ _ _ _ us hl => match us, hl with | [_, _], _ => rfl) (fun _ => rfl) fun f cdv Ar outer s H0 E hr => ?_
  obtain ⟨hu0, hu, hu64, hu65⟩ := room0 hr
  refine ⟨_, (pss_one (ps_ret (pe_and (pe_callB (call_isiU K) (by rfl) T.f_isinstance (by decide +kernel) (pa_cons (pv 1) (pa_cons (pe_bltn (v := .ty "tuple") (by rfl) T.f_tuple (by decide +kernel) rfl) pa_nil))) (pe_and (pe_cl c_are_skills_of hr pass0 (pa_cons (pv 0) (pa_cons (pv 1) pa_nil))) (pe_one (pe_cmpR (op_eqK K hu64) (pv 1) (pe_cl c_in_order hr pass0 (pa_cons (pv 0) (pa_cons (pv 1) pa_nil))) (nomark _))))))), fun a vs G H D hP hA e q => ?_⟩
  obtain ⟨b, bv⟩ := a
  obtain ⟨ok, hv⟩ := hP
  have ok : BOk b := ok
  obtain ⟨v, x, rfl, h1, h2⟩ := hA.two
  dsimp only at h1 h2 hv
  cases bv with
  | ot T R =>
    refine k_ret (R := dt (.bool false)) (ED.eq (ed_andV (b := false) (ed_isi (ed_var (by rfl) (hv.2.2 _ _ h2)) hv.1 (by decide)) fun z => ?_) (by rw [hv.2.1]; rfl)) e q
    rw [hv.2.1] at z; cases z
  | tp l =>
    refine k_ret (R := dt (.bool (isB b l))) (ED.eq (ed_andV (a := true) (b := isB b l) (ed_isi (ed_ty (ed_var (by rfl) h2)) (tyD_mem _) (by decide)) fun _ => ED.eq (ed_andV (b := decide (l = (ordB b l).map some)) (ed_call (b, l) (ea_cons (ed_var (by rfl) h1) (ea_cons (ed_var (by rfl) h2) ea_nil)) ⟨ok, hv⟩) fun hsk => ?_) rfl) rfl) e q
    have hall : l.all (inB b) = true := by
      have : skB b l = true := hsk
      unfold skB at this
      rw [Bool.and_eq_true] at this
      exact this.1
    obtain ⟨ss, rfl, hs⟩ := inB_some hall
    have e1 : (ss.map some).map od = ss.map PyData.str := by rw [List.map_map]; rfl
    have h2' : Dx G x (.tuple (ss.map .str)) := by rw [← e1]; exact h2
    have sh : ∀ {l : List Str}, (∀ s ∈ l, wordS s = true) → SeqAt.shaped (.tuple (l.map .str)) = true := fun {l} h => (Sh.tuple (k := 0) fun d hd => by
      obtain ⟨s, h3, rfl⟩ := List.mem_map.mp hd
      exact Sh.word (h s h3)).shaped
    have hnm : ∀ s ∈ b.nms, wordS s = true := fun s hs => by
      obtain ⟨r, hr, rfl⟩ := List.mem_map.mp hs
      exact ok.wd r hr
    refine ED.eq (ed_eq (ed_var (by rfl) h2') (ed_call (b, ss) (ea_cons (ed_var (by rfl) h1) (ea_cons (ed_var (by rfl) h2') ea_nil)) ok) (sh fun s h => (hs s h).1) (sh fun s h => hnm s (List.mem_filter.mp h).1)) ?_
    rw [PyData.eqv, eqv_strs]
    congr 1
    have e2 : ordB b (ss.map some) = b.nms.filter fun s => decide (s ∈ ss) := by
      unfold ordB
      congr 1
      funext s
      simp
    rw [e2]
    apply decide_eq_decide.mpr
    constructor
    · intro h; exact congrArg (List.map some) h
    · intro h
      have : ∀ {l m : List Str}, l.map some = m.map some → l = m := by
        intro l
        induction l with
        | nil => intro m h; cases m <;> simp at h; rfl
        | cons a l ih => intro m h; cases m with
          | nil => simp at h
          | cons c m => simp at h; rw [h.1, ih (by simpa using h.2)]
      exact this h
end
end RT
end
section
set_option maxRecDepth 100000
set_option maxHeartbeats 4000000
/-! RTW8: defs that may raise. -/
namespace RT
open PySem PySem.Spec PyProof.Rows L2
open Evl (Ex Ex.refl Ex.trans Ex.new Ex.mut)
/-- what is asked of an exception class of the program -/
structure ErrF (P : Program) (w : World) (K : Fg) (mg : Str → Option Value) (base : Heap) (x fld : Str) (C : Addr) : Prop where
  ex : ∃ (f : Addr) (fd : FuncData) (prm : Str), FnOk P w K mg base CX0 1 f fd ["self", prm] (iniSp C fld) ∧ PySem.W.findIn K (.ref C) "__init__" = some (some (.ref f)) ∧ PySem.W.typeIn K (.ref f) = some (.type "function") ∧ L2.Binds K fd ["self", prm] []
  ox : OexC K C
  gx : mg x = some (.ref C)
theorem pmk_err {X : Cx} {x fld : Str} {C : Addr} {e : Expr} {ta : TA} {p pos : Pos} {k : Nat} (T : ErrF X.prog X.w X.K X.mg X.base x fld C) (hr : Room k X.A) (hg : Gl X x) (ha : PA X [e] ta) (hk : 2 ≤ k := by decide) (hdb : (x == ("__debug__" : Str)) = false := by decide) (he : starEach [e] X.env = (false, eval e X.env) :: starEach [] X.env := by rfl)
    (hpl : (backTo pos (starEach [] X.env)).any (·.1) = false := by rfl) : PMk X (.Call (.Name x p) [e] [] pos) (tMkO C (iniSp C fld) [] ta) := by
  obtain ⟨f, fd, prm, F1, iC, tI, hb⟩ := T.ex
  exact pmk_oex T.ox iC tI F1 (hr.mono hk) hb .nil L2.pass0 hg T.gx ha hdb he hpl
/-- what a call comes to: a value, or an exception with one field -/
inductive Out where
  | val (R : Rel) | exc (C : Addr) (fld : Str) (R : Rel)
def Out.to (o : Out) (G H : Hp) (Q : VK) (E : XK) : Prop := match o with
  | .val R => ∀ v G' H', Step G H G' H' → R.r v G' → Q v H'
  | .exc C fld R => ∀ d v G' H', Step G H G' H' → H' d = some (.xd [(fld, v)]) → R.r v G' → E (.ref C) (some d) H'
def RSp {α : Type} (P : α → Prop) (A : α → List Rel) (B : α → Out) : Sp := fun vs H Q E => ∃ a G, P a ∧ Ex G H ∧ RAll (A a) vs G ∧ (B a).to G H Q E
theorem Out.after {o : Out} {G H G1 H1 : Hp} {Q : VK} {E : XK} (h : o.to G H Q E) (s : Step G H G1 H1) : o.to G1 H1 Q E := by
  cases o with
  | val R => exact fun v G' H' s2 r => h v G' H' (s.trans s2) r
  | exc C fld R => exact fun d v G' H' s2 hd r => h d v G' H' (s.trans s2) hd r
section
variable {σ : L2.St} {G H : Hp} {D : Ends} {ta : TA} {te : TE} {tw ts : TS} {tt : TT} {E : XK}
/-- raise C(e) -/
theorem k_raise {C : Addr} {fld : Str} {R : Rel} (h : ED te σ G R) (e : Ex G H) (q : (Out.exc C fld R).to G H (fun _ _ => True) E) : tMkO C (iniSp C fld) [] (tCons te tNil) σ H (fun cls d H' => E cls d H') := h H e _ fun v G1 H1 s r => by
  refine ⟨by show 1 ≤ 1000; decide, fun a ha => ⟨a, v, rfl, upd_same, fun dx hdx hne => ?_⟩⟩
  have hd1 : H1 dx = none := by rwa [upd_ne hne] at hdx
  refine ⟨rfl, dx, _, upd_same, by rw [upd_ne hne]; exact upd_same, hd1, ?_⟩
  have e2 : upd (L2.del (upd (upd (upd H1 a (exo a C none)) dx (exd dx [(fld, v)])) a (exo a C (some dx))) a) dx (.xd [(fld, v)]) = upd H1 dx (.xd [(fld, v)]) := by
    funext z
    unfold upd L2.del
    by_cases h1 : z = dx
    · simp [h1]
    · by_cases h2 : z = a
      · subst h2; simp [h1, ha]
      · simp [h1, h2]
  rw [e2]
  exact q dx v _ _ (s.new hd1) upd_same r
theorem ed_callV {α : Type} {P : α → Prop} {A : α → List Rel} {B : α → Out} {R : Rel} (a : α) (h : EA ta σ G (A a)) (hp : P a) (hR : B a = .val R := by rfl) : ED (tCall (RSp P A B) [] E ta) σ G R := fun H x Q q =>
  h H x _ fun vs G1 H1 s r => by
    show RSp P A B (vs ++ []) H1 Q E
    rw [List.append_nil]
    refine ⟨a, G1, hp, s.i, r, ?_⟩
    rw [hR]
    exact fun v G2 H2 s2 r2 => q v G2 H2 (s.trans s2) r2
/-- a call that comes to o, as a statement -/
theorem k_dropR {α : Type} {P : α → Prop} {A : α → List Rel} {B : α → Out} {Q : VK} (a : α) (h : EA ta σ G (A a)) (hp : P a) (e : Ex G H) (hv : ∀ R, B a = .val R → ∀ G1 H1, Step G H G1 H1 → tw D σ H1) (hx : ∀ C fld R, B a = .exc C fld R → (Out.exc C fld R).to G H Q E) : tSeq (tDrop (tCall (RSp P A B) [] E ta)) tw D σ H :=
  h H e _ fun vs G1 H1 s r => by
    show RSp P A B (vs ++ []) H1 _ E
    rw [List.append_nil]
    refine ⟨a, G1, hp, s.i, r, ?_⟩
    cases hB : B a with
    | val R => exact fun v G2 H2 s2 _ => hv R hB G2 H2 (s.trans s2)
    | exc C fld R => exact fun d v G2 H2 s2 hd rv => hx C fld R hB d v G2 H2 (s.trans s2) hd rv
end
section
variable {P : Program} {w : World} {K : Fg} {mg : Str → Option Value} {base : Heap} {x : Str} {st : Stmt} {N ps : List Str} {k : Nat} {C CB CN : Addr}
theorem calleeX {α : Type} {Pa : α → Prop} {A : α → List Rel} {B : α → Out} (D : DefAt K mg x st) (S : FnScope N ps (defScope st)) (hb : ∀ (kV doc pm : Value) (an : Option Addr) (cdv ct : Value) (us : List Value), us.length = ps.length → bindArgs (PySem.W.fnOf x x (defArgs st) (defBody st) (defScope st) .none kV doc pm an cdv ct) ⟨us, []⟩ = pure (ps.zip us))
    (hl : ∀ a, (A a).length = ps.length)
    (body : ∀ (f : Addr) (cdv : Value) (Ar : Around) (outer : List Env) (s : Shared) (H0 : Hp) (E : XK), Room k (Ar.deeper (envOfC x (defScope st) s.heap.objs.size f cdv)) →
      ∃ t, PSs (cxOf (L2.CX P w) P w K mg base N x (defScope st) f cdv Ar outer s H0 E) (defBody st) t ∧ ∀ a vs G H (Q : VK), Pa a → RAll (A a) vs G → Ex G H → (B a).to G H Q E → t { nx := fun _ H' => Q .non H', rt := Q } (start N vs) H) : Callee P w K mg base (L2.CX P w) (k + 1) x ps (RSp Pa A B) := by
  obtain ⟨f, fd, F, hm⟩ := D
  refine ⟨f, fd, F.ok S (fun vs H Q E h => by obtain ⟨a, G, _, _, h2, _⟩ := h; rw [h2.length, hl]) fun cdv A outer s H vs Q E hr h => ?_, hm, F.kp, fun s us _ hl => ?_⟩
  · obtain ⟨t, h1, h2⟩ := body f cdv A outer s H E hr
    obtain ⟨a, G, p, e, r, q⟩ := h
    exact ⟨t, h1, h2 a vs G H Q p r e q⟩
  · rw [List.append_nil] at hl ⊢
    exact F.bindsA hb s us hl
theorem isB_bld {b : Bk} (ok : BOk b) (m : Nat) : isB b ((b.bld m).map some) = true := by
  have h1 : ∀ s ∈ b.bld m, s ∈ b.nms := fun s hs => by
    obtain ⟨i, hi, rfl⟩ := List.mem_map.mp hs
    exact nm_mem (List.mem_range.mp (List.mem_filter.mp hi).1)
  have h2 : ∀ s ∈ b.nms, wordS s = true := fun s hs => by
    obtain ⟨r, hr, rfl⟩ := List.mem_map.mp hs
    exact ok.wd r hr
  have nd : (b.bld m).Nodup := by
    unfold Bk.bld List.Nodup
    rw [List.pairwise_map]
    refine (List.Nodup.sublist List.filter_sublist List.nodup_range).imp_of_mem fun {i j} hi hj h z => ?_
    exact h (nm_inj ok (List.mem_range.mp (List.mem_filter.mp hi).1) (List.mem_range.mp (List.mem_filter.mp hj).1) z)
  have e1 : ((b.bld m).map some).all (inB b) = true := by
    rw [List.all_map, List.all_eq_true]
    intro s hs
    simp only [Function.comp, inB, h2 s (h1 s hs), h1 s hs, decide_true, Bool.and_self]
  have e2 : ((b.bld m).map some).Nodup := (nodup_map (f := (some : Str → Option Str)) (fun a b e => by cases e; rfl)).mpr nd
  have e3 : ordB b ((b.bld m).map some) = b.bld m := by
    unfold ordB
    rw [← bld_filter ok m]
    congr 1
    funext s
    rw [bld_filter ok m]
    simp
  unfold isB skB
  rw [e1, e3]
  simp [e2]
/-- what look_at_good is asked of -/
inductive GV where
  | gd (m : Nat) | bad (v : BV)
def GV.R (b : Bk) : GV → Rel
  | .gd m => dt (.tuple ((b.bld m).map .str))
  | .bad v => v.R
def GV.ok (b : Bk) : GV → Prop
  | .gd m => m < 2 ^ b.n
  | .bad v => v.ok ∧ v.is b = false
def GV.out (b : Bk) (CB : Addr) (g : GV) : Out := match g with
  | .gd m => if b.holdP m = true then .val (dt .none) else .exc CB "build" (GV.R b (.gd m))
  | .bad v => .exc CB "build" v.R
theorem c_look_at_good (T : Txt K mg) (F : BookF K C) (E_NoBuild : ErrF P w K mg base "NoBuild" "build" CB) : Callee P w K mg base (L2.CX P w) 4 "look_at_good" ["book", "build"] (RSp (fun a : Bk × GV => BOk a.1 ∧ a.2.ok a.1) (fun a => [bookR C a.1, a.2.R a.1]) (fun a => a.2.out a.1 CB)) := by
  have c_is_build := c_is_build (P := P) (w := w) (base := base) T F
  have c_does_hold := c_does_hold (P := P) (w := w) (base := base) T F
  have c_mask_of := c_mask_of (P := P) (w := w) (base := base) T F
  refine calleeX T.d_look_at_good sc_look_at_good (fun _ _ _ _ _ _ us hl => match us, hl with | [_, _], _ => rfl) (fun _ => rfl) fun f cdv Ar outer s H0 E hr => ?_
  obtain ⟨hu0, hu, hu64, hu65⟩ := room0 hr
  refine ⟨_, (pss_one (ps_if (L2.PW.pt (pw_or (pt_not (pt_truthK K (pe_cl c_is_build hr L2.pass0 (pa_cons (pv 0) (pa_cons (pv 1) pa_nil))))) (pw_or1 (pt_not (pt_truthK K (pe_cl c_does_hold hr L2.pass0 (pa_cons (pv 0) (pa_cons (pe_cl c_mask_of hr L2.pass0 (pa_cons (pv 0) (pa_cons (pv 1) pa_nil))) pa_nil)))))))) (pss_one (ps_raise rfl (L2.takes_of rfl rfl rfl rfl) (pmk_err E_NoBuild hr rfl (pa_cons (pv 1) pa_nil)))) pss_nil)), fun a vs G H Q hP hA e q => ?_⟩
  obtain ⟨b, g⟩ := a
  obtain ⟨ok, hv⟩ := hP
  have ok : BOk b := ok
  obtain ⟨v, x, rfl, h1, h2⟩ := hA.two
  dsimp only at h1 h2 hv q
  cases g with
  | gd m =>
    have e1 : ((b.bld m).map some).map od = (b.bld m).map PyData.str := by rw [List.map_map]; rfl
    have hb5 := bld_len5 (b := b) ok m
    have okv : (BV.tp ((b.bld m).map some)).ok := ⟨by simp; omega, fun s hs => by
      obtain ⟨s', h3, h4⟩ := List.mem_map.mp hs
      cases h4
      obtain ⟨i, hi, rfl⟩ := List.mem_map.mp h3
      exact Nat.le_trans (word_len (nm_word ok (List.mem_range.mp (List.mem_filter.mp hi).1))) (by decide)⟩
    refine k_if (b := !b.holdP m) (ET.eq (et_or (b := !b.holdP m) (et_not (et_tb (ed_call (b, BV.tp ((b.bld m).map some)) (ea_cons (ed_var (by rfl) h1) (ea_cons (ed_var (by rfl) (show Dx G x (.tuple (((b.bld m).map some).map od)) by rw [e1]; exact h2)) ea_nil)) ⟨ok, okv⟩))) fun _ => et_not (et_tb (ed_call (b, m) (ea_cons (ed_var (by rfl) h1) (ea_cons (ed_call (b, m) (ea_cons (ed_var (by rfl) h1) (ea_cons (ed_var (by rfl) h2) ea_nil)) ⟨ok, hv⟩) ea_nil)) ok))) ?_) e (fun hb G1 H1 s1 => ?_) fun hb G1 H1 s1 => ?_
    · show (!isB b ((b.bld m).map some) || !b.holdP m) = _
      rw [isB_bld ok]; rfl
    · refine k_raise (R := GV.R b (.gd m)) (ed_var (by rfl) ((GV.R b (.gd m)).mono s1.g h2)) s1.i ?_
      have hh : b.holdP m = false := by simpa using hb
      unfold GV.out at q
      dsimp only at q
      rw [hh, if_neg (by decide)] at q
      exact fun d v G' H' s2 hd r => q d v G' H' (s1.trans s2) hd r
    · have hh : b.holdP m = true := by simpa using hb
      unfold GV.out at q
      dsimp only at q
      rw [if_pos hh] at q
      exact q _ G1 H1 s1 .non
  | bad bv =>
    refine k_if (b := true) (ET.eq (et_or (b := true) (et_not (et_tb (ed_call (b, bv) (ea_cons (ed_var (by rfl) h1) (ea_cons (ed_var (by rfl) h2) ea_nil)) ⟨ok, hv.1⟩))) fun z => ?_) ?_) e (fun hb G1 H1 s1 => ?_) fun hb => by cases hb
    · rw [show BV.is b bv = false from hv.2] at z; cases z
    · show (!BV.is b bv || true) = true
      simp
    · refine k_raise (R := bv.R) (ed_var (by rfl) (bv.R.mono s1.g h2)) s1.i ?_
      exact fun d v G' H' s2 hd r => q d v G' H' (s1.trans s2) hd r
end
end RT
end
section
set_option maxRecDepth 100000
set_option maxHeartbeats 2000000
/-! RTCalc7: comprehensions with two loops. -/
namespace RT
open PySem PySem.Spec PyProof.Rows L2
open Evl (Ex Ex.refl Ex.trans Ex.new Ex.mut)
section
variable {σ : L2.St} {G : Hp} {te : TE} {α β : Type}
theorem ed_lc2 {wi wi1 : TI} {g g1 : TG} {vs vs1 : List Nat} {xs : List α} {Rx : α → Rel} {ys : α → List β} {Ry : α → β → Rel} {f : α → β → PyData} (h : EI wi σ G (xs.map Rx)) (hz : ∀ k, ((xs.take k).flatMap ys).length ≤ 80000) (hy : ∀ x ∈ xs, (ys x).length ≤ 10000)
    (ht : ∀ x ∈ xs, ∀ v G1, Ex G G1 → (Rx x).r v G1 → ∃ σ2, GT g v (wipe σ vs) G1 σ2 ∧ wipe σ2 vs = wipe σ vs ∧ EI wi1 σ2 G1 ((ys x).map (Ry x)) ∧ ∀ y ∈ ys x, ∀ u G2, Ex G1 G2 → (Ry x y).r u G2 → ∃ σ3, GT g1 u (wipe σ2 vs1) G2 σ3 ∧ wipe σ3 vs1 = wipe σ2 vs1 ∧ ED te σ3 G2 (dt (f x y))) :
    ED (tLc2 wi g tYes wi1 g1 tYes te vs vs1) σ G (dt (.list (xs.flatMap fun x => (ys x).map (f x)))) := fun H e Q q => h H e _ fun J G1 H1 s1 w D hD => by
  have hHD : H D = none := ex_none s1.h hD
  let out : Nat → List PyData := fun i => (xs.take i).flatMap fun x => (ys x).map (f x)
  let Pv : List PyData → Hp → Prop := fun ds H' => ∃ G' acc, Step G H G' H' ∧ Ex G1 G' ∧ H' D = some (.lst acc) ∧ G' D = none ∧ DxA G' acc ds
  have lenO : ∀ i, (out i).length ≤ 80000 := fun i => by
    have := hz i
    have e : (out i).length = ((xs.take i).flatMap ys).length := by simp [out, List.length_flatMap]
    omega
  refine ⟨fun i m H' => m = xs.length - i ∧ i ≤ xs.length ∧ Pv (out i) H', ⟨xs.length, by simp, Nat.zero_le _, G1, [], s1.new hD, Ex.refl _, upd_same, ex_none s1.i hD, .nil⟩, ?_⟩
  rintro i m H' ⟨rfl, hi, G', acc, s2, g2, hacc, hGD, hdx⟩
  by_cases hlt : i < xs.length
  · refine .inr ⟨w.go i H' (by simpa using hlt) (g2.trans s2.i), fun H3 => Pv (out (i + 1)) H3, fun H3 hp => ⟨xs.length - (i + 1), by omega, rfl, hlt, hp⟩, fun v H3 hyv => ?_⟩
    have hgi : xs[i]? = some xs[i] := List.getElem?_eq_getElem hlt
    have hm : xs[i] ∈ xs := List.getElem_mem hlt
    have etake : out (i + 1) = out i ++ (ys xs[i]).map (f xs[i]) := by
      show (xs.take (i + 1)).flatMap _ = _
      rw [List.take_succ, hgi, List.flatMap_append]
      simp [out]
    obtain ⟨G3, s3, hr⟩ := w.yld i (Rx xs[i]) H' v H3 (by rw [List.getElem?_map, hgi] <;> rfl) hyv G' g2 s2.i
    obtain ⟨σ2, h1, h2, h3, h4⟩ := ht xs[i] hm v G3 (s2.g.trans s3.g) hr
    refine h1 H3 s3.i _ ⟨h2, ?_⟩
    show wi1 σ2 H3 _
    refine h3 H3 s3.i _ fun J1 G4 H4 s4 w1 => ?_
    have k4 := s3.trans s4
    have hD4 : G4 D = none := k4.s D (by rw [hacc]; intro z; cases z) hGD
    let Iv : Nat → Hp → Prop := fun j H5 => ∃ G5 acc, Step G H G5 H5 ∧ Ex G1 G5 ∧ Ex G4 G5 ∧ H5 D = some (.lst acc) ∧ G5 D = none ∧ DxA G5 acc (out i ++ ((ys xs[i]).take j).map (f xs[i]))
    refine ⟨fun j k H5 => k = (ys xs[i]).length - j ∧ j ≤ (ys xs[i]).length ∧ Iv j H5, ⟨_, rfl, Nat.zero_le _, G4, acc, s2.trans k4, g2.trans k4.g, Ex.refl _, k4.h _ _ hacc, hD4, by simpa using hdx.mono k4.g⟩, ?_⟩
    rintro j k H5 ⟨rfl, hj, G5, acc5, s5, g5, g45, hacc5, hD5, hdx5⟩
    by_cases hlj : j < (ys xs[i]).length
    · refine .inr ⟨w1.go j H5 (by simpa using hlj) (g45.trans s5.i), fun H6 => Iv (j + 1) H6, fun H6 hp => ⟨_, by omega, rfl, hlj, hp⟩, fun u H6 hyu => ?_⟩
      have hgj : (ys xs[i])[j]? = some (ys xs[i])[j] := List.getElem?_eq_getElem hlj
      obtain ⟨G6, s6, hru⟩ := w1.yld j (Ry xs[i] (ys xs[i])[j]) H5 u H6 (by rw [List.getElem?_map, hgj] <;> rfl) hyu G5 g45 s5.i
      obtain ⟨σ3, h5, h6, h7⟩ := h4 _ (List.getElem_mem hlj) u G6 ((s4.g.trans g45).trans s6.g) hru
      refine h5 H6 s6.i _ ⟨h6, ?_⟩
      show te σ3 H6 _
      refine h7 H6 s6.i _ fun y G7 H7 s7 r7 => ?_
      have k := s6.trans s7
      have hD7 : G7 D = none := k.s D (by rw [hacc5]; intro z; cases z) hD5
      refine ⟨acc5, k.h _ _ hacc5, ?_, G7, acc5 ++ [y], (s5.trans k).mut hHD hD7, g5.trans k.g, g45.trans k.g, upd_same, hD7, ?_⟩
      · rw [hdx5.length, List.length_append, List.length_map]
        have h9 : ((ys xs[i]).take j).length = j := by simp; omega
        have := lenO i
        have := hy _ hm
        exact sz_lt (by omega)
      · rw [List.take_succ, hgj, List.map_append, ← List.append_assoc]
        exact (hdx5.mono k.g).append (.cons r7 .nil)
    · have hjl : j = (ys xs[i]).length := by omega
      subst hjl
      refine .inl ⟨by have := w1.stop H5 (g45.trans s5.i); simpa using this, G5, acc5, s5, g5, hacc5, hD5, ?_⟩
      rw [List.take_length] at hdx5
      rw [etake]
      exact hdx5
  · have : i = xs.length := by omega
    subst this
    refine .inl ⟨by have := w.stop H' (g2.trans s2.i); simpa using this, q _ _ _ (s2.pub hHD hGD hacc) (.lst upd_same ?_)⟩
    have : out xs.length = xs.flatMap fun x => (ys x).map (f x) := by show (xs.take xs.length).flatMap _ = _; rw [List.take_length]
    rw [this] at hdx
    exact hdx.mono (Ex.new hGD)
end
end RT
end
section
set_option maxRecDepth 100000
set_option maxHeartbeats 4000000
/-! RTW9: questions; plain prices. -/
namespace RT
open PySem PySem.Spec PyProof.Rows L2
open Evl (Ex Ex.refl Ex.trans Ex.new Ex.mut)
structure PtsF (P : Program) (w : World) (K : Fg) (mg : Str → Option Value) (base : Heap) (C : Addr) : Prop where
  ex : ∃ (p g : Addr) (fd : FuncData), PropOf K C "points" p g ∧ FnOk P w K mg base CX0 1 g fd ["self"] (getSp C "own_points") ∧ L2.Binds K fd ["self"] []
theorem pe_pts {X : Cx} {C : Addr} {e : Expr} {ta : TE} {pos : Pos} {j : Nat} (T : PtsF X.prog X.w X.K X.mg X.base C) (c : Cls X.K C) (hr : Room j X.A) (he : PE X e ta) (hj : 2 ≤ j := by decide) (hab : attributeBase e "points" X.env (eval e X.env) = eval e X.env := by rfl) : PE X (.Attribute e "points" pos) (tProp C (getSp C "own_points") [] (fun _ _ _ => True) ta) := by
  obtain ⟨p, g, fd, h1, h2, h3⟩ := T.ex
  exact pe_prop he c h1 h2 (hr.mono hj) h3 .nil L2.pass0 hab
theorem look_inj {β : Type} {f : Nat → Key} {g : β → PyData} {n i : Nat} (hf : ∀ j, j < n → f j = f i → j = i) : ∀ {l : List (Nat × β)}, (∀ p ∈ l, p.1 < n) → lookG (l.map fun p => (f p.1, g p.2)) (f i) = (lookG l i).map g
  | [], _ => rfl
  | p :: l, h => by
    rw [List.map_cons, lookG_cons, lookG_cons, look_inj hf fun q hq => h q (List.mem_cons_of_mem _ hq)]
    by_cases e : p.1 = i
    · rw [if_pos e, e, if_pos rfl]; rfl
    · rw [if_neg e, if_neg fun z => e (hf _ (h p List.mem_cons_self) z)]
namespace Bk
variable (b : Bk)
def loose (m : Nat) : List Nat := ((List.range b.n).filter m.testBit).filter fun i => b.holdP (m - 2 ^ i)
def freeP (m k : Nat) : Bool := decide (m = k) || (decide (pc m < b.pts) || decide (pc k < b.pts)) || (b.loose m).any fun i => !k.testBit i
def downP : Bool := b.wants.all fun w => w.some.all fun j => decide (j < w.who)
def plainP : Bool := b.downP && decide (b.bars = []) && decide (b.gives = []) && b.wants.all fun w => decide (w.kind = .all)
def plainD (m k : Nat) : Nat := ((List.range b.n).filter fun i => m.testBit i && !k.testBit i).length + if b.freeP m k then 0 else 1
end Bk
/-- what look_at_many is asked of -/
inductive MV where
  | nat (k : Nat) | non | neg | tru | one
def MV.d : MV → PyData
  | .nat k => .int k
  | .non => .none
  | .neg => .int (-1)
  | .tru => .bool true
  | .one => .str "1"
def MV.out (CN : Addr) (v : MV) : Out := match v with
  | .nat _ => .val (dt .none)
  | v => .exc CN "value" (dt v.d)
def GV.out2 (b : Bk) (CB : Addr) (g h : GV) : Out := match g.out b CB with
  | .val _ => h.out b CB
  | o => o
theorem GV.out_val {b : Bk} {CB : Addr} {g : GV} {R : Rel} (h : g.out b CB = .val R) : R = dt .none := by
  cases g with
  | gd m =>
    unfold GV.out at h
    dsimp only at h
    split at h
    · cases h; rfl
    · cases h
  | bad v => cases h
section
variable {P : Program} {w : World} {K : Fg} {mg : Str → Option Value} {base : Heap} {C CB CN : Addr}
theorem ed_pts {σ : L2.St} {G : Hp} {te : TE} {b : Bk} {E : XK} (h : ED te σ G (bookR C b)) : ED (tProp C (getSp C "own_points") [] E te) σ G (dt (.int b.pts)) := fun H e Q q =>
  h H e _ fun v G1 H1 s r => by
    obtain ⟨a, dx, fs, rfl, ea, hq⟩ := r
    obtain ⟨u, h1, h2⟩ := hq _ (List.mem_of_getElem? (i := 1) (a := (("own_points", dt (.int b.pts)) : Fld)) rfl)
    exact ⟨a, dx, fs, rfl, s.i _ _ ea, a, dx, fs, u, rfl, s.i _ _ ea, h1, q u G1 H1 s h2⟩
theorem c_look_at_both (T : Txt K mg) (F : BookF K C) (E_NoBuild : ErrF P w K mg base "NoBuild" "build" CB) : Callee P w K mg base (L2.CX P w) 5 "look_at_both" ["book", "one", "other"] (RSp (fun a : Bk × GV × GV => BOk a.1 ∧ a.2.1.ok a.1 ∧ a.2.2.ok a.1) (fun a => [bookR C a.1, a.2.1.R a.1, a.2.2.R a.1]) (fun a => GV.out2 a.1 CB a.2.1 a.2.2)) := by
  have c_look_at_good := c_look_at_good (P := P) (w := w) (base := base) T F E_NoBuild
  refine calleeX T.d_look_at_both sc_look_at_both (fun _ _ _ _ _ _ us hl => match us, hl with | [_, _, _], _ => rfl) (fun _ => rfl) fun f cdv Ar outer s H0 E hr => ?_
  obtain ⟨hu0, hu, hu64, hu65⟩ := room0 hr
  refine ⟨_, (pss_cons (ps_expr (pe_cl c_look_at_good hr (L2.passes_call (L2.takes_of rfl rfl rfl rfl) (fun _ _ _ _ h => h)) (pa_cons (pv 0) (pa_cons (pv 1) pa_nil)))) (pss_one (ps_expr (pe_cl c_look_at_good hr (L2.passes_call (L2.takes_of rfl rfl rfl rfl) (fun _ _ _ _ h => h)) (pa_cons (pv 0) (pa_cons (pv 2) pa_nil)))))), fun a vs G H Q hP hA e q => ?_⟩
  obtain ⟨b, g, h⟩ := a
  obtain ⟨ok, hg, hh⟩ := hP
  have ok : BOk b := ok
  obtain ⟨v, x, y, rfl, h1, h2, h3⟩ := hA.three
  dsimp only at h1 h2 h3 hg hh q
  refine k_dropR (Q := Q) (b, g) (ea_cons (ed_var (by rfl) h1) (ea_cons (ed_var (by rfl) h2) ea_nil)) ⟨ok, hg⟩ e (fun R hR G1 H1 s1 => ?_) fun C' fld R hR => ?_
  · have hR : g.out b CB = .val R := hR
    have e1 : GV.out2 b CB g h = h.out b CB := by unfold GV.out2; rw [hR]
    rw [e1] at q
    show tSeq (tDrop _) tNext { nx := fun _ H' => Q .non H', rt := Q } _ H1
    refine k_dropR (Q := Q) (b, h) (ea_cons (ed_var (by rfl) ((bookR C b).mono s1.g h1)) (ea_cons (ed_var (by rfl) ((h.R b).mono s1.g h3)) ea_nil)) ⟨ok, hh⟩ s1.i (fun R2 hR2 G2 H2 s2 => ?_) fun C' fld R2 hR2 => ?_
    · have hR2 : h.out b CB = .val R2 := hR2
      rw [hR2, GV.out_val hR2] at q
      exact q _ G2 H2 (s1.trans s2) .non
    · have hR2 : h.out b CB = .exc C' fld R2 := hR2
      rw [hR2] at q
      exact Out.after (o := .exc C' fld R2) q s1
  · have hR : g.out b CB = .exc C' fld R := hR
    have e1 : GV.out2 b CB g h = .exc C' fld R := by unfold GV.out2; rw [hR]
    rw [e1] at q
    exact q
theorem c_look_at_many (T : Txt K mg) (E_NoNumber : ErrF P w K mg base "NoNumber" "value" CN) : Callee P w K mg base (L2.CX P w) 3 "look_at_many" ["many"] (RSp (fun _ : MV => True) (fun a => [dt a.d]) (fun a => a.out CN)) := by
  have c_is_whole := c_is_whole (P := P) (w := w) (base := base) T
  refine calleeX T.d_look_at_many sc_look_at_many (fun _ _ _ _ _ _ us hl => match us, hl with | [_], _ => rfl) (fun _ => rfl) fun f cdv Ar outer s H0 E hr => ?_
  obtain ⟨hu0, hu, hu64, hu65⟩ := room0 hr
  refine ⟨_, (pss_one (ps_if (L2.PW.pt (pw_or (pt_not (pt_truthK K (pe_cl c_is_whole hr L2.pass0 (pa_cons (pv 0) pa_nil)))) (pw_or1 (pt_cmpR (op_ltU K hu0) (pv 0) pe_int (nomark _))))) (pss_one (ps_raise rfl (L2.takes_of rfl rfl rfl rfl) (pmk_err E_NoNumber hr rfl (pa_cons (pv 0) pa_nil)))) pss_nil)), fun a vs G H Q hP hA e q => ?_⟩
  obtain ⟨v, rfl, h1⟩ := hA.one
  have wh : ∀ {σ : L2.St} {E1 : XK}, σ[0]? = some (some v) → ED (tCall (FSp (fun t : String => t ∈ TYS) (fun t => [tyR t]) (fun t => dt (.bool (isT t "int" && !isT t "bool")))) [] E1 (tCons (tVar 0) tNil)) σ G (dt (.bool (isT (tyD a.d) "int" && !isT (tyD a.d) "bool"))) := fun hσ => ed_call (tyD a.d) (ea_cons (ed_ty (ed_var hσ h1)) ea_nil) (tyD_mem _)
  have bad : ∀ {R : Rel}, a.out CN = .exc CN "value" (dt a.d) → ∀ G1 H1, Step G H G1 H1 → (Out.exc CN "value" (dt a.d)).to G1 H1 (fun _ _ => True) E := fun {R} ha G1 H1 s1 => by
    rw [ha] at q
    exact fun d v G' H' s2 hd r => q d v G' H' (s1.trans s2) hd r
  cases a with
  | nat k =>
    refine k_no (ET.eq (et_or (b := false) (et_not (et_tb (wh rfl))) fun _ => ET.eq (et_test (ed_lt (i := (k : Int)) (ed_var (by rfl) h1) ed_int)) (by simp)) rfl) e fun G1 H1 s1 => ?_
    exact q _ G1 H1 s1 .non
  | non =>
    refine k_if (b := true) (ET.eq (et_or (b := true) (et_not (et_tb (wh rfl))) fun z => by cases z) rfl) e (fun _ G1 H1 s1 => ?_) fun z => by cases z
    exact k_raise (R := dt .none) (ed_var (by rfl) (Dx.mono s1.g h1)) s1.i (bad (R := dt .none) rfl G1 H1 s1)
  | neg =>
    refine k_if (b := true) (ET.eq (et_or (b := true) (et_not (et_tb (wh rfl))) fun _ => et_test (ed_lt (i := -1) (ed_var (by rfl) h1) ed_int)) rfl) e (fun _ G1 H1 s1 => ?_) fun z => by cases z
    exact k_raise (R := dt (.int (-1))) (ed_var (by rfl) (Dx.mono s1.g h1)) s1.i (bad (R := dt .none) rfl G1 H1 s1)
  | tru =>
    refine k_if (b := true) (ET.eq (et_or (b := true) (et_not (et_tb (wh rfl))) fun z => by cases z) rfl) e (fun _ G1 H1 s1 => ?_) fun z => by cases z
    exact k_raise (R := dt (.bool true)) (ed_var (by rfl) (Dx.mono s1.g h1)) s1.i (bad (R := dt .none) rfl G1 H1 s1)
  | one =>
    refine k_if (b := true) (ET.eq (et_or (b := true) (et_not (et_tb (wh rfl))) fun z => by cases z) rfl) e (fun _ G1 H1 s1 => ?_) fun z => by cases z
    exact k_raise (R := dt (.str "1")) (ed_var (by rfl) (Dx.mono s1.g h1)) s1.i (bad (R := dt .none) rfl G1 H1 s1)
/-- prices of a book without them -/
theorem c_step_price (T : Txt K mg) (F : BookF K C) : Callee P w K mg base CX0 1 "step_price" ["book", "step"] (FSp (fun a : Bk × Nat => BOk a.1 ∧ a.1.prices = [] ∧ a.2 < a.1.n) (fun a => [bookR C a.1, dt (sGive a.1 a.2)]) (fun a => dt (.int 1))) := by
  refine callee T.d_step_price sc_step_price (fun _ _ _ _ _ _ us hl => match us, hl with | [_, _], _ => rfl) (fun _ => rfl) fun f cdv Ar outer s H0 E hr => ?_
  obtain ⟨hu0, hu, hu64, hu65⟩ := room0 hr
  refine ⟨_, (pss_cons (ps_if (pt_cmpR (op_eqK K hu64) (pe_ix (ix_seqK K) (pv 1) pe_int (fun _ _ => rfl)) pe_str (nomark _)) (pss_one (ps_ret (pe_fldK K (pv 0)))) pss_nil) (pss_one (ps_ret (pe_ifExp (pt_cmpR (op_eqK K hu64) (pe_ix (ix_seqK K) (pv 1) pe_int (fun _ _ => rfl)) pe_str (nomark _)) (pe_dget2 hu (pe_fldK K (pv 0)) (pe_ix (ix_seqK K) (pv 1) pe_int (fun _ _ => rfl)) pe_int ⟨rfl, rfl, rfl, rfl⟩) pe_int)))), fun a vs G H D hP hA e q => ?_⟩
  obtain ⟨b, i⟩ := a
  obtain ⟨ok, hp, hi⟩ := hP
  have ok : BOk b := ok
  obtain ⟨v, x, rfl, h1, h2⟩ := hA.two
  dsimp only at h1 h2 hp hi
  have g0 : ∀ {σ : L2.St} {G2}, σ[1]? = some (some x) → Ex G G2 → ED (tOp (rIx K) (tVar 1) (tC (.int 0))) σ G2 (dt (.str "give")) := fun hσ g => ed_ixT (ed_var hσ (Dx.mono g h2)) ed_int rfl
  have eqs : ∀ {σ : L2.St} {G2 : Hp} {te : TE} {x y : Str}, ED te σ G2 (dt (.str x)) → wordS x = true → wordS y = true → ED (tOp (rEqD K) te (tC (.str y))) σ G2 (dt (.bool (decide (x = y)))) := fun h hx hy => ed_eqS h ed_str hx hy
  refine k_retS (b := false) (R := dt .none) (ET.eq (et_test (eqs (y := "reset") (g0 rfl (Ex.refl _)) (by decide +kernel) (by decide +kernel))) (by decide)) e (fun z => by cases z) (fun z => by cases z) fun _ G1 H1 s1 => ?_
  refine k_ret (R := dt (.int 1)) (ed_if (b := true) (ET.eq (et_test (eqs (y := "give") (g0 rfl s1.g) (by decide +kernel) (by decide +kernel))) (by decide)) (fun _ => ?_) fun z => by cases z) s1.i fun v G2 H2 s2 r => q v G2 H2 (s1.trans s2) r
  have := ed_dget2 (k := .inr (b.nm i)) (ed_fld F (ed_var (σ := L2.start N_step_price [v, x]) (i := 0) (by rfl) ((bookR C b).mono s1.g h1)) 9) (ed_ixT (K := K) (d := .str (b.nm i)) (ed_var (i := 1) (by rfl) (Dx.mono s1.g h2)) (ed_int (i := 1)) rfl) (ed_int (i := 1))
  refine ED.eq this ?_
  rw [hp]; rfl
theorem c_price_by (T : Txt K mg) (F : BookF K C) : Callee P w K mg base CX0 2 "price_by" ["book", "name"] (FSp (fun a : Bk × Nat => BOk a.1 ∧ a.1.prices = [] ∧ a.2 < a.1.n) (fun a => [bookR C a.1, dt (.str (a.1.nm a.2))]) (fun a => dt (.int 1))) := by
  have c_step_price := c_step_price (P := P) (w := w) (base := base) T F
  refine callee T.d_price_by sc_price_by (fun _ _ _ _ _ _ us hl => match us, hl with | [_, _], _ => rfl) (fun _ => rfl) fun f cdv Ar outer s H0 E hr => ?_
  obtain ⟨hu0, hu, hu64, hu65⟩ := room0 hr
  refine ⟨_, (pss_one (ps_ret (pe_cl c_step_price hr pass0 (pa_cons (pv 0) (pa_cons (pe_tup (pa_cons pe_str (pa_cons (pv 1) pa_nil))) pa_nil))))), fun a vs G H D hP hA e q => ?_⟩
  obtain ⟨b, i⟩ := a
  obtain ⟨v, x, rfl, h1, h2⟩ := hA.two
  exact k_ret (R := dt (.int 1)) (ed_call (b, i) (ea_cons (ed_var (by rfl) h1) (ea_cons (ed_tup (ead_cons ed_str (ead_cons (ed_var (by rfl) h2) ead_nil)) (by simp)) ea_nil)) hP) e q
theorem c_loose_in (T : Txt K mg) (F : BookF K C) : Callee P w K mg base CX0 4 "loose_in" ["book", "mask"] (FSp (fun a : Bk × Nat => BOk a.1) (fun a => [bookR C a.1, dt (.int a.2)]) (fun a => dt (.list ((a.1.loose a.2).map fun i => .str (a.1.nm i))))) := by
  have c_does_hold := c_does_hold (P := P) (w := w) (base := base) T F
  refine callee T.d_loose_in sc_loose_in (fun _ _ _ _ _ _ us hl => match us, hl with | [_, _], _ => rfl) (fun _ => rfl) fun f cdv Ar outer s H0 E hr => ?_
  obtain ⟨hu0, hu, hu64, hu65⟩ := room0 hr
  refine ⟨_, (pss_cons (ps_setLc (i := 2) (own := [("name", 3)]) rfl sc_loose_in.nd rfl rfl (sw_true rfl rfl rfl (by decide +kernel)) (pi_listK K (pe_fldK K (pv 0))) (blkOk_by (own := [("name", 3)]) (N := N_loose_in) (sc := defScope s_loose_in) (by decide +kernel)) (fun _ _ _ _ _ => (pg_name (i := 3) sc_loose_in.nd rfl (Or.inl rfl))) (fun _ _ _ _ _ => (pts_one (pt_truthK K (pe_op op_and1 (pv 1) (pe_dget hu (pe_fldK K (pv 0)) (pv 3) (fun _ _ => rfl)))))) (fun _ _ _ _ _ => (pv 3))) (pss_one (ps_ret (pe_lc (own := [("name", 3)]) rfl sc_loose_in.nd (pi_listK K (pv 2)) (blkOk_by (own := [("name", 3)]) (N := N_loose_in) (sc := defScope s_loose_in) (by decide +kernel)) (fun _ _ _ _ _ => (pg_name (i := 3) sc_loose_in.nd rfl (Or.inl rfl))) (fun _ _ _ _ _ => (pts_one (pt_truthK K (pe_cl c_does_hold hr pass0 (pa_cons (pv 0) (pa_cons (pe_op op_sub1 (pv 1) (pe_dget hu (pe_fldK K (pv 0)) (pv 3) (fun _ _ => rfl))) pa_nil)))))) (fun _ _ _ _ _ => (pv 3)))))), fun a vs G H D hP hA e q => ?_⟩
  obtain ⟨b, m⟩ := a
  have ok : BOk b := hP
  have n5 := ok.n5
  obtain ⟨v, x, rfl, h1, h2⟩ := hA.two
  dsimp only at h1 h2
  have nms : ∀ {σ : L2.St} {G2}, σ[0]? = some (some v) → Ex G G2 → EI (iList K (tFld K (tVar 0) "own_names")) σ G2 ((List.range b.n).map fun i => dt (.str (b.nm i))) := fun hσ g => by
    have := ei_list (K := K) (ed_fld F (ed_var hσ ((bookR C b).mono g h1)) 3)
    rw [nms_eq, List.map_map, List.map_map] at this
    exact this
  refine k_asgS (ed_lcN (xs := List.range b.n) (Rx := fun i => dt (.str (b.nm i))) (p := m.testBit) (f := fun i => .str (b.nm i)) (nms rfl (Ex.refl _)) (by simp; unfold Bk.n; omega) fun i hi y G1 g1 ry => ⟨ET.eq (et_ti (ed_band (ed_var (by rfl) (Dx.mono g1 h2)) (ed_bit F ok (ed_var (by rfl) ((bookR C b).mono g1 h1)) (List.mem_range.mp hi) (ed_var (by rfl) ry)))) (bit_truth _ _), fun _ => ed_var (by rfl) ry⟩) e fun nv G1 H1 s1 rn => ?_
  refine k_ret (ed_lcN (xs := (List.range b.n).filter m.testBit) (Rx := fun i => dt (.str (b.nm i))) (p := fun i => b.holdP (m - 2 ^ i)) (f := fun i => .str (b.nm i)) (ei_listM (ed_var (by rfl) rn)) (by have := List.length_filter_le m.testBit (List.range b.n); rw [List.length_range] at this; have n5 : b.n ≤ 5 := ok.n5; omega) fun i hi y G2 g2 ry => ⟨et_tb (ed_call (b, m - 2 ^ i) (ea_cons (ed_var (by rfl) ((bookR C b).mono (s1.g.trans g2) h1)) (ea_cons (ED.eq (ed_subI (ed_var (by rfl) (Dx.mono (s1.g.trans g2) h2)) (ed_bit F ok (ed_var (by rfl) ((bookR C b).mono (s1.g.trans g2) h1)) (List.mem_range.mp (List.mem_filter.mp hi).1) (ed_var (by rfl) ry))) ?_) ea_nil)) ok), fun _ => ed_var (by rfl) ry⟩) s1.i fun v G2 H2 s2 r => q v G2 H2 (s1.trans s2) r
  have := tb_ge (List.mem_filter.mp hi).2
  congr 1; omega
end
end RT
end
section
set_option maxRecDepth 100000
set_option maxHeartbeats 4000000
/-! RTW10: plain books and their prices. -/
namespace RT
open PySem PySem.Spec PyProof.Rows L2
open Evl (Ex Ex.refl Ex.trans Ex.new Ex.mut)
section
variable {P : Program} {w : World} {K : Fg} {mg : Str → Option Value} {base : Heap} {C CB CN : Addr}
theorem k_dropS {σ : L2.St} {G H : Hp} {D : Ends} {te : TE} {tw : TS} {R : Rel} (h : ED te σ G R) (e : Ex G H) (q : ∀ v G' H', Step G H G' H' → R.r v G' → tw D σ H') : tSeq (tDrop te) tw D σ H := k_drop (D := { D with nx := tw D }) h e q
/-- a spare skill, where there is one -/
def spareR (b : Bk) (m k : Nat) : Rel := ⟨fun v G => if b.freeP m k = true then v = .non else ∃ i, i < b.n ∧ v = .str (b.nm i), fun _ h => h⟩
theorem eqv_nilT (ds : List PyData) : PyData.eqv (.tuple ds) (.tuple []) = decide (ds = []) := by
  cases ds <;> rfl
def dWL (b : Bk) (x : Wt) : List PyData := [.str (kS x.kind), .str (b.nm x.who), .tuple ((x.some.map b.nm).map .str)] ++ if x.kind = .count then [.int x.many] else []
theorem dWant_eq (b : Bk) (x : Wt) : dWant b x = .tuple (dWL b x) := rfl
theorem at_w0 {b : Bk} {x : Wt} : atI (dWL b x) 0 = some (.str (kS x.kind)) := at_nat (j := 0) rfl
theorem at_w1 {b : Bk} {x : Wt} : atI (dWL b x) 1 = some (.str (b.nm x.who)) := at_nat (j := 1) rfl
theorem at_w2 {b : Bk} {x : Wt} : atI (dWL b x) 2 = some (.tuple (x.some.map fun j => .str (b.nm j))) := at_nat (j := 2) (by unfold dWL; rw [List.map_map]; rfl)
theorem dec_eq (a b : Nat) : decide ((a : Int) = (b : Int)) = decide (a = b) := decide_eq_decide.mpr ⟨fun h => by omega, fun h => by omega⟩
theorem dec_lt (a b : Nat) : decide ((a : Int) < (b : Int)) = decide (a < b) := decide_eq_decide.mpr ⟨fun h => by omega, fun h => by omega⟩
theorem c_spare_skill (T : Txt K mg) (F : BookF K C) (FP : PtsF P w K mg base C) : Callee P w K mg base CX0 5 "spare_skill" ["book", "one", "other"] (FSp (fun a : Bk × Nat × Nat => BOk a.1 ∧ a.1.prices = [] ∧ (a.1.freeP a.2.1 a.2.2 = true ∨ a.1.loose a.2.1 ≠ [])) (fun a => [bookR C a.1, dt (.int a.2.1), dt (.int a.2.2)]) (fun a => spareR a.1 a.2.1 a.2.2)) := by
  have c_size_of := c_size_of (P := P) (w := w) (base := base) T
  have c_loose_in := c_loose_in (P := P) (w := w) (base := base) T F
  have c_price_by := c_price_by (P := P) (w := w) (base := base) T F
  refine callee T.d_spare_skill sc_spare_skill (fun _ _ _ _ _ _ us hl => match us, hl with | [_, _, _], _ => rfl) (fun _ => rfl) fun f cdv Ar outer s H0 E hr => ?_
  obtain ⟨hu0, hu, hu64, hu65⟩ := room0 hr
  refine ⟨_, (pss_cons (ps_if (L2.PW.pt (pw_or (pt_cmpR (op_eqK K hu64) (pv 1) (pv 2) (nomark _)) (pw_or (pt_cmpR (op_ltU K hu0) (pe_cl c_size_of hr pass0 (pa_cons (pv 1) pa_nil)) (pe_pts FP F.cls hr (pv 0)) (nomark _)) (pw_or1 (pt_cmpR (op_ltU K hu0) (pe_cl c_size_of hr pass0 (pa_cons (pv 2) pa_nil)) (pe_pts FP F.cls hr (pv 0)) (nomark _)))))) (pss_one (ps_ret pe_non)) pss_nil) (pss_cons (ps_set (i := 3) sc_spare_skill.nd rfl (Or.inl rfl) (pe_cl c_loose_in hr pass0 (pa_cons (pv 0) (pa_cons (pv 1) pa_nil)))) (pss_cons (ps_if (pt_truthK K (pe_callB (call_anyU K) (by rfl) T.f_any (by decide +kernel) (pa_cons (pe_lc (own := [("name", 5)]) rfl sc_spare_skill.nd (pi_listK K (pv 3)) (blkOk_by (own := [("name", 5)]) (N := N_spare_skill) (sc := defScope s_spare_skill) (by decide +kernel)) (fun _ _ _ _ _ => (pg_name (i := 5) sc_spare_skill.nd rfl (Or.inl rfl))) (fun _ _ _ _ _ => pts_nil) (fun _ _ _ _ _ => (pe_notTK K (pe_op op_and1 (pv 2) (pe_dget hu (pe_fldK K (pv 0)) (pv 5) (fun _ _ => rfl)))))) pa_nil))) (pss_one (ps_ret pe_non)) pss_nil) (pss_cons (ps_set (i := 4) sc_spare_skill.nd rfl (Or.inr rfl) (pe_callB (call_minU K) (by rfl) T.f_min (by decide +kernel) (pa_cons (pe_lc (own := [("name", 5)]) rfl sc_spare_skill.nd (pi_listK K (pv 3)) (blkOk_by (own := [("name", 5)]) (N := N_spare_skill) (sc := defScope s_spare_skill) (by decide +kernel)) (fun _ _ _ _ _ => (pg_name (i := 5) sc_spare_skill.nd rfl (Or.inl rfl))) (fun _ _ _ _ _ => pts_nil) (fun _ _ _ _ _ => (pe_cl c_price_by hr pass0 (pa_cons (pv 0) (pa_cons (pv 5) pa_nil))))) pa_nil))) (pss_one (ps_ret (pe_ix (ix_seqK K) (pe_lc (own := [("name", 5)]) rfl sc_spare_skill.nd (pi_listK K (pv 3)) (blkOk_by (own := [("name", 5)]) (N := N_spare_skill) (sc := defScope s_spare_skill) (by decide +kernel)) (fun _ _ _ _ _ => (pg_name (i := 5) sc_spare_skill.nd rfl (Or.inl rfl))) (fun _ _ _ _ _ => (pts_one (pt_cmpR (op_eqK K hu64) (pe_cl c_price_by hr pass0 (pa_cons (pv 0) (pa_cons (pv 5) pa_nil))) (pv 4) (nomark _)))) (fun _ _ _ _ _ => (pv 5))) pe_int (fun _ _ => rfl)))))))), fun a vs G H D hP hA e q => ?_⟩
  obtain ⟨b, m, k⟩ := a
  obtain ⟨ok, hp, hf⟩ := hP
  have ok : BOk b := ok
  have n5 : b.n ≤ 5 := ok.n5
  obtain ⟨v, x, y, rfl, h1, h2, h3⟩ := hA.three
  dsimp only at h1 h2 h3 hp hf q
  have hln : ∀ i ∈ b.loose m, i < b.n := fun i hi => List.mem_range.mp (List.mem_filter.mp (List.mem_filter.mp hi).1).1
  have hll : (b.loose m).length ≤ 5 := by
    unfold Bk.loose
    have h5 := List.length_filter_le (fun i => b.holdP (m - 2 ^ i)) ((List.range b.n).filter m.testBit)
    have h6 := List.length_filter_le m.testBit (List.range b.n)
    rw [List.length_range] at h6; omega
  have bk : ∀ {σ : L2.St} {G2}, σ[0]? = some (some v) → Ex G G2 → ED (tVar 0) σ G2 (bookR C b) := fun hσ g => ed_var hσ ((bookR C b).mono g h1)
  have fst : Bk.freeP b m k = (decide (m = k) || (decide (pc m < b.pts) || decide (pc k < b.pts)) || (b.loose m).any fun i => !k.testBit i) := rfl
  refine k_retS (b := decide (m = k) || (decide (pc m < b.pts) || decide (pc k < b.pts))) (R := dt .none) (et_or (ET.eq (et_test (ed_eqI (ed_var (by rfl) h2) (ed_var (by rfl) h3))) (dec_eq _ _)) fun _ => et_or (ET.eq (et_test (ed_lt (ed_call m (ea_cons (ed_var (by rfl) h2) ea_nil) True.intro) (ed_pts (bk rfl (Ex.refl _))))) (dec_lt _ _)) fun _ => ET.eq (et_test (ed_lt (ed_call k (ea_cons (ed_var (by rfl) h3) ea_nil) True.intro) (ed_pts (bk rfl (Ex.refl _))))) (dec_lt _ _)) e (fun _ => ed_non) (fun hb v G1 H1 s1 r => q v G1 H1 s1 ?_) fun hb G1 H1 s1 => ?_
  · show if b.freeP m k = true then v = V.non else _
    rw [if_pos (by rw [fst, hb]; rfl)]
    exact Dx.non_inv r
  refine k_asgS (ed_call (b, m) (ea_cons (bk rfl s1.g) (ea_cons (ed_var (by rfl) (Dx.mono s1.g h2)) ea_nil)) ok) s1.i fun nv G2 H2 s2 rn => ?_
  have s12 := s1.trans s2
  have lst : ∀ {σ : L2.St} {G3}, σ[3]? = some (some nv) → Ex G2 G3 → EI (iList K (tVar 3)) σ G3 ((b.loose m).map fun i => dt (.str (b.nm i))) := fun hσ g => ei_listM (ed_var hσ (Dx.mono g rn))
  refine k_retS (b := (b.loose m).any fun i => !k.testBit i) (R := dt .none) (et_tb (ed_anyM (f := fun i => !k.testBit i) (ed_lcNb (xs := b.loose m) (Rx := fun i => dt (.str (b.nm i))) (lst rfl (Ex.refl _)) (by omega) fun i hi z G3 g3 rz => ED.eq (ed_notTi (ed_band (ed_var (by rfl) (Dx.mono (s12.g.trans g3) h3)) (ed_bit F ok (bk rfl (s12.g.trans g3)) (hln i hi) (ed_var (by rfl) rz)))) (congrArg (fun z => PyData.bool (!z)) (bit_truth k i))))) s2.i (fun _ => ed_non) (fun hb2 v G3 H3 s3 r => q v G3 H3 (s12.trans s3) ?_) fun hb2 G3 H3 s3 => ?_
  · show if b.freeP m k = true then v = V.non else _
    rw [if_pos (by rw [fst, hb, hb2]; rfl)]
    exact Dx.non_inv r
  have hfree : b.freeP m k = false := by rw [fst, hb, hb2]; rfl
  have hne : b.loose m ≠ [] := hf.resolve_left (by rw [hfree]; decide)
  have s13 := s12.trans s3
  have price : ∀ {σ : L2.St} {G4} {i : Nat} {z : V}, σ[0]? = some (some v) → Ex G G4 → σ[5]? = some (some z) → i ∈ b.loose m → Dx G4 z (.str (b.nm i)) → ED _ σ G4 (dt (.int 1)) := fun {σ G4 i z} hσ g hz hi rz => ed_call (E := E) (B := fun _ => dt (.int 1)) (A := fun a => [bookR C a.1, dt (.str (a.1.nm a.2))]) (P := fun a : Bk × Nat => BOk a.1 ∧ a.1.prices = [] ∧ a.2 < a.1.n) (b, i) (ea_cons (bk hσ g) (ea_cons (ed_var hz rz) ea_nil)) ⟨ok, hp, hln i hi⟩
  refine k_asgS (R := dt (.int 1)) (ed_minL (ns := (b.loose m).map fun _ => 1) (ED.eq (ed_lcN1 (xs := b.loose m) (Rx := fun i => dt (.str (b.nm i))) (f := fun _ => .int 1) (lst rfl s3.g) (by omega) fun i hi z G4 g4 rz => price rfl (s13.g.trans g4) rfl hi rz) (by rw [List.map_map]; rfl)) (by rw [List.length_map]; exact List.length_pos_iff.mpr hne) fun mn G' hm _ => ?_) s3.i fun lv G4 H4 s4 rl => ?_
  · obtain ⟨_, _, rfl⟩ := List.mem_map.mp hm
    exact .int _
  have s14 := s13.trans s4
  obtain ⟨i0, rest, hl0⟩ : ∃ i0 rest, b.loose m = i0 :: rest := by
    cases h : b.loose m with
    | nil => exact absurd h hne
    | cons i0 rest => exact ⟨i0, rest, rfl⟩
  refine k_ret (R := dt (.str (b.nm i0))) (ed_ixL (ed_lcN (xs := b.loose m) (Rx := fun i => dt (.str (b.nm i))) (p := fun _ => true) (f := fun i => .str (b.nm i)) (lst rfl (s3.g.trans s4.g)) (by omega) fun i hi z G5 g5 rz => ⟨ET.eq (et_test (ed_eqI (price rfl (s14.g.trans g5) rfl hi rz) (ed_var (by rfl) (Dx.mono g5 rl)))) rfl, fun _ => ed_var (by rfl) rz⟩) ed_int ?_) s4.i fun v G5 H5 s5 r => q v G5 H5 (s14.trans s5) ?_
  · refine at_nat (j := 0) ?_
    rw [hl0]; rfl
  · show if b.freeP m k = true then v = V.non else _
    rw [if_neg (by rw [hfree]; decide)]
    exact ⟨i0, hln i0 (by rw [hl0]; exact List.mem_cons_self), Dx.str_inv r⟩
theorem c_looks_down (T : Txt K mg) (F : BookF K C) : Callee P w K mg base CX0 1 "looks_down" ["book"] (FSp BOk (fun b => [bookR C b]) (fun b => dt (.bool b.downP))) := by
  refine callee T.d_looks_down sc_looks_down (fun _ _ _ _ _ _ us hl => match us, hl with | [_], _ => rfl) (fun _ => rfl) fun f cdv Ar outer s H0 E hr => ?_
  obtain ⟨hu0, hu, hu64, hu65⟩ := room0 hr
  refine ⟨_, (pss_cons (ps_set (i := 1) sc_looks_down.nd rfl (Or.inr rfl) (pe_dc (own := [("spot", 2), ("name", 3)]) rfl sc_looks_down.nd (pi_enumK K (by rfl) T.f_enumerate (pa_cons (pe_fldK K (pv 0)) pa_nil)) (blkOk_by (own := [("spot", 2), ("name", 3)]) (N := N_looks_down) (sc := defScope s_looks_down) (by decide +kernel)) (fun _ _ _ _ _ => (pg_tupK K (n := 2) (pgs_cons (pg_name (i := 2) sc_looks_down.nd rfl (Or.inl rfl)) (pgs_cons (pg_name (i := 3) sc_looks_down.nd rfl (Or.inl rfl)) pgs_nil)))) (fun _ _ _ _ _ => pts_nil) (fun _ _ _ _ _ => (pv 3)) (fun _ _ _ _ _ => (pv 2)))) (pss_one (ps_ret (pe_callB (call_allU K) (by rfl) T.f_all (by decide +kernel) (pa_cons (pe_lc2 (own := [("want", 4), ("name", 3)]) rfl sc_looks_down.nd (pi_tupK K (pe_ix (ix_seqK K) (pe_fldK K (pv 0)) pe_int (fun _ _ => rfl))) (blkOk_by (own := [("want", 4), ("name", 3)]) (N := N_looks_down) (sc := defScope s_looks_down) (by decide +kernel)) (vs1 := [3]) (by decide) (fun _ _ _ _ _ => (pg_name (i := 4) sc_looks_down.nd rfl (Or.inl rfl))) (fun _ _ _ _ _ => pts_nil) (fun _ _ _ _ _ => (pi_tupK K (pe_ix (ix_seqK K) (pv 4) pe_int (fun _ _ => rfl)))) (fun _ _ _ _ _ => (pg_name (i := 3) sc_looks_down.nd rfl (Or.inl rfl))) (fun _ _ _ _ _ => pts_nil) (fun _ _ _ _ _ => (pe_cmpR (op_ltU K hu0) (pe_dget hu (pv 1) (pv 3) (fun _ _ => rfl)) (pe_dget hu (pv 1) (pe_ix (ix_seqK K) (pv 4) pe_int (fun _ _ => rfl)) (fun _ _ => rfl)) (nomark _)))) pa_nil))))), fun b vs G H D ok hA e q => ?_⟩
  obtain ⟨v, rfl, h1⟩ := hA.one
  have n5 : b.n ≤ 5 := ok.n5
  have bk : ∀ {σ : L2.St} {G2}, σ[0]? = some (some v) → Ex G G2 → ED (tVar 0) σ G2 (bookR C b) := fun hσ g => ed_var hσ ((bookR C b).mono g h1)
  have ez : ((b.nms.map PyData.str).zipIdx).map (fun p => PyData.tuple [.int p.2, p.1]) = (List.range b.n).map fun i : Nat => .tuple [.int (i : Int), .str (b.nm i)] := by
    apply List.ext_getElem?
    intro i
    rw [List.getElem?_map, List.getElem?_map, List.getElem?_zipIdx, List.getElem?_map]
    by_cases h : i < b.n
    · rw [nm_get h, List.getElem?_range h]; simp
    · rw [List.getElem?_eq_none (by rw [nms_len]; omega), List.getElem?_eq_none (by simpa using Nat.le_of_not_lt h)]; rfl
  refine k_asgS (R := dkR ((List.range b.n).map fun i : Nat => (.inr (b.nm i), .int (i : Int)))) (ED.is (ed_dc (xs := List.range b.n) (Rx := fun i : Nat => dt (.tuple [.int (i : Int), .str (b.nm i)])) (fk := fun i : Nat => .inr (b.nm i)) (fv := fun i : Nat => .int (i : Int)) ?_ (by simp; omega) ?_) ?_) e fun pv G1 H1 s1 rp => ?_
  · have := ei_enum (K := K) (ed_fld F (bk (σ := L2.start N_looks_down [v]) rfl (Ex.refl _)) 3)
    have e2 : ((b.nms.map PyData.str).zipIdx).map (fun p => dt (PyData.tuple [.int p.2, p.1])) = (List.range b.n).map fun i : Nat => dt (.tuple [.int (i : Int), .str (b.nm i)]) := by
      have := congrArg (List.map dt) ez
      rw [List.map_map, List.map_map] at this
      exact this
    rw [e2] at this
    exact this
  · intro i hi z G1 g1 rz
    obtain ⟨c, y1, y2, rfl, ec, r1, r2⟩ := dx_pair rz
    exact ⟨_, gt_tup2 ec, rfl, ed_var (by rfl) r2, ed_var (by rfl) r1⟩
  · congr 1
    refine mergeG_nodup ?_
    rw [List.map_map]
    unfold List.Nodup
    rw [List.pairwise_map]
    refine List.nodup_range.imp_of_mem fun {i j} hi hj h z => h (nm_inj ok (List.mem_range.mp hi) (List.mem_range.mp hj) (by injection z))
  have pl : ∀ {i : Nat}, i < b.n → lookG ((List.range b.n).map fun i => ((.inr (b.nm i) : Key), PyData.int (i : Int))) (.inr (b.nm i)) = some (.int (i : Int)) := fun {i} hi => look_map (f := fun i => (Sum.inr (b.nm i) : Key)) (g := fun i => PyData.int (i : Int)) (List.mem_range.mpr hi) fun x hx z => nm_inj ok (List.mem_range.mp hx) hi (by injection z)
  have wl := ok.wl
  have tot : ∀ (l : List Wt), (∀ w ∈ l, WOk b.n w) → (l.flatMap Wt.some).length ≤ 5 * l.length := fun l => by
    induction l with
    | nil => intro _; simp
    | cons w l ih =>
      intro h
      have := ih fun w hw => h w (List.mem_cons_of_mem _ hw)
      have := (h w List.mem_cons_self).len
      rw [List.flatMap_cons, List.length_append, List.length_cons]; omega
  refine k_ret (R := dt (.bool b.downP)) (ED.eq (ed_all (bs := b.wants.flatMap fun w => w.some.map fun j => decide (j < w.who)) (ED.eq (ed_lc2 (xs := b.wants) (Rx := fun w => dt (dWant b w)) (ys := Wt.some) (Ry := fun _ j => dt (.str (b.nm j))) (f := fun w j => .bool (decide (j < w.who))) (ei_tupM (ed_ixT (ed_fld F (bk rfl s1.g) 0) ed_int (at_nat (j := 3) rfl))) (fun k => ?_) (fun x hx => ?_) fun x hx z G2 g2 rz => ⟨_, gt_name, rfl, ?_, fun y hy u G3 g3 ru => ⟨_, gt_name, rfl, ?_⟩⟩) ?_)) ?_) s1.i fun v G2 H2 s2 r => q v G2 H2 (s1.trans s2) r
  · have h5 := tot (b.wants.take k) fun w hw => ok.wo w (List.mem_of_mem_take hw)
    have : (b.wants.take k).length ≤ 12 := Nat.le_trans (by simp; omega) wl
    omega
  · have := (ok.wo x hx).len; omega
  · have := ei_tupM (K := K) (xs := x.some) (enc := fun j => .str (b.nm j)) (ed_ixT (K := K) (ds := dWL b x) (i := 2) (ed_var (σ := (wipe ((L2.start N_looks_down [v]).set 1 (some pv)) [4, 3]).set 4 (some z)) (i := 4) (by rfl) rz) (ed_int (i := 2)) at_w2)
    exact this
  · have hw := ok.wo x hx
    refine ED.eq (ed_lt (ed_dget (k := .inr (b.nm y)) (ed_var (by rfl) ((dkR _).mono (g2.trans g3) rp)) (ed_var (by rfl) ru) (pl (hw.lt y hy).1)) (ed_dget (k := .inr (b.nm x.who)) (ed_var (by rfl) ((dkR _).mono (g2.trans g3) rp)) (ed_ixT (ds := dWL b x) (i := 1) (ed_var (by rfl) (Dx.mono g3 rz)) ed_int at_w1) (pl hw.who))) (congrArg PyData.bool (dec_lt _ _))
  · rw [List.map_flatMap]
    refine congrArg (fun g => PyData.list (List.flatMap g b.wants)) (funext fun w => ?_)
    rw [List.map_map]; rfl
  · simp only [Bk.downP, List.all_flatMap, List.all_map]
    congr 2
theorem c_is_plain (T : Txt K mg) (F : BookF K C) : Callee P w K mg base CX0 2 "is_plain" ["book"] (FSp BOk (fun b => [bookR C b]) (fun b => dt (.bool b.plainP))) := by
  have c_looks_down := c_looks_down (P := P) (w := w) (base := base) T F
  refine callee T.d_is_plain sc_is_plain (fun _ _ _ _ _ _ us hl => match us, hl with | [_], _ => rfl) (fun _ => rfl) fun f cdv Ar outer s H0 E hr => ?_
  obtain ⟨hu0, hu, hu64, hu65⟩ := room0 hr
  refine ⟨_, (pss_cons (ps_if (L2.PW.pt (pw_or (pt_not (pt_truthK K (pe_cl c_looks_down hr pass0 (pa_cons (pv 0) pa_nil)))) (pw_or (pt_cmpR (op_neK K hu64) (pe_ix (ix_seqK K) (pe_fldK K (pv 0)) pe_int (fun _ _ => rfl)) (pe_tup pa_nil) (nomark _)) (pw_or1 (pt_cmpR (op_neK K hu64) (pe_ix (ix_seqK K) (pe_fldK K (pv 0)) pe_int (fun _ _ => rfl)) (pe_tup pa_nil) (nomark _)))))) (pss_one (ps_ret pe_bl)) pss_nil) (pss_one (ps_ret (pe_callB (call_allU K) (by rfl) T.f_all (by decide +kernel) (pa_cons (pe_lc (own := [("want", 1)]) rfl sc_is_plain.nd (pi_tupK K (pe_ix (ix_seqK K) (pe_fldK K (pv 0)) pe_int (fun _ _ => rfl))) (blkOk_by (own := [("want", 1)]) (N := N_is_plain) (sc := defScope s_is_plain) (by decide +kernel)) (fun _ _ _ _ _ => (pg_name (i := 1) sc_is_plain.nd rfl (Or.inl rfl))) (fun _ _ _ _ _ => pts_nil) (fun _ _ _ _ _ => (pe_cmpR (op_eqK K hu64) (pe_ix (ix_seqK K) (pv 1) pe_int (fun _ _ => rfl)) pe_str (nomark _)))) pa_nil))))), fun b vs G H D ok hA e q => ?_⟩
  obtain ⟨v, rfl, h1⟩ := hA.one
  have bk : ∀ {σ : L2.St} {G2}, σ[0]? = some (some v) → Ex G G2 → ED (tVar 0) σ G2 (bookR C b) := fun hσ g => ed_var hσ ((bookR C b).mono g h1)
  have wl := ok.wl
  refine k_retS (b := !b.downP || (!decide (b.bars = []) || !decide (b.gives = []))) (R := dt (.bool false)) (et_or (et_not (et_tb (ed_call b (ea_cons (bk rfl (Ex.refl _)) ea_nil) ok))) fun _ => et_or (ET.eq (et_test (ed_ne (ed_ixT (ed_fld F (bk rfl (Ex.refl _)) 0) ed_int (at_nat (j := 4) rfl)) (ed_tup ead_nil (by simp)) ?_ rfl)) ?_) fun _ => ET.eq (et_test (ed_ne (ed_ixT (ed_fld F (bk rfl (Ex.refl _)) 0) ed_int (at_nat (j := 5) rfl)) (ed_tup ead_nil (by simp)) ?_ rfl)) ?_) e (fun _ => ed_bl) (fun hb v G1 H1 s1 r => q v G1 H1 s1 ?_) fun hb G1 H1 s1 => ?_
  · refine (Sh.tuple (k := 1) fun d hd => ?_).shaped
    obtain ⟨p, hp, rfl⟩ := List.mem_map.mp hd
    refine Sh.tuple (k := 0) fun d hd => ?_
    have := ok.bo p hp
    rcases List.mem_cons.mp hd with z | z
    · subst z; exact Sh.word (nm_word ok this.1)
    · rw [List.mem_singleton.mp z]; exact Sh.word (nm_word ok this.2.1)
  · rw [eqv_nilT]; unfold dBars; simp
  · refine (Sh.tuple (k := 1) fun d hd => ?_).shaped
    obtain ⟨p, hp, rfl⟩ := List.mem_map.mp hd
    refine Sh.tuple (k := 0) fun d hd => ?_
    have := ok.go p hp
    rcases List.mem_cons.mp hd with z | z
    · subst z; exact Sh.word (nm_word ok this.1)
    · rw [List.mem_singleton.mp z]; exact Sh.int
  · rw [eqv_nilT]; unfold dNum; simp
  · have : b.plainP = false := by
      unfold Bk.plainP
      cases h1 : b.downP <;> cases h2 : decide (b.bars = []) <;> cases h3 : decide (b.gives = []) <;> simp_all
    show Dx G1 v (.bool b.plainP)
    rw [this]; exact r
  · refine k_ret (R := dt (.bool (b.wants.all fun w => decide (w.kind = .all)))) (ed_allM (f := fun w : Wt => decide (w.kind = .all)) (ed_lcNb (xs := b.wants) (Rx := fun w => dt (dWant b w)) (ei_tupM (ed_ixT (ed_fld F (bk rfl s1.g) 0) ed_int (at_nat (j := 3) rfl))) (by omega) fun x hx z G2 g2 rz => ?_)) s1.i fun v G2 H2 s2 r => q v G2 H2 (s1.trans s2) ?_
    · refine ED.eq (ed_eqS (x := kS x.kind) (y := "all") (ed_ixT (ds := dWL b x) (i := 0) (ed_var (by rfl) rz) ed_int at_w0) ed_str ?_ (by decide +kernel)) ?_
      · cases x.kind <;> decide +kernel
      · exact congrArg PyData.bool (by cases x.kind <;> decide +kernel)
    · have : b.plainP = b.wants.all fun w => decide (w.kind = .all) := by
        unfold Bk.plainP
        cases h1 : b.downP <;> cases h2 : decide (b.bars = []) <;> cases h3 : decide (b.gives = []) <;> simp_all
      show Dx G2 v (.bool b.plainP)
      rw [this]; exact r
theorem c_look_at_plain (T : Txt K mg) (F : BookF K C) : Callee P w K mg base CX0 3 "look_at_plain" ["book"] (FSp (fun b => BOk b ∧ b.plainP = true) (fun b => [bookR C b]) (fun b => dt .none)) := by
  have c_is_plain := c_is_plain (P := P) (w := w) (base := base) T F
  refine calleeN T.d_look_at_plain sc_look_at_plain (fun _ _ _ _ _ _ us hl => match us, hl with | [_], _ => rfl) (fun _ => rfl) fun f cdv Ar outer s H0 E hr => ?_
  obtain ⟨hu0, hu, hu64, hu65⟩ := room0 hr
  refine ⟨_, (pss_one (ps_if (pt_not (pt_truthK K (pe_cl c_is_plain hr pass0 (pa_cons (pv 0) pa_nil)))) (pss_one ps_never) pss_nil)), fun b vs G H Q ok hA e q => ?_⟩
  obtain ⟨v, rfl, h1⟩ := hA.one
  exact k_no (ET.eq (et_not (et_tb (ed_call b (ea_cons (ed_var (by rfl) h1) ea_nil) ok.1))) (by rw [ok.2]; rfl)) e fun G1 H1 s1 => q _ G1 H1 s1 .non
/-- what a plain price is asked of -/
structure PlOk (b : Bk) (m k : Nat) : Prop where
  ok : BOk b
  pl : b.plainP = true
  pr : b.prices = []
  lm : m < 2 ^ b.n
  lk : k < 2 ^ b.n
  hm : b.holdP m = true
  hk : b.holdP k = true
  sp : b.freeP m k = true ∨ b.loose m ≠ []
theorem c_look_at_question (T : Txt K mg) (F : BookF K C) (E_NoBuild : ErrF P w K mg base "NoBuild" "build" CB) : Callee P w K mg base (L2.CX P w) 6 "look_at_question" ["book", "one", "other"] (RSp (fun a : Bk × Nat × Nat => PlOk a.1 a.2.1 a.2.2) (fun a => [bookR C a.1, (GV.gd a.2.1).R a.1, (GV.gd a.2.2).R a.1]) (fun a => .val (dt .none))) := by
  have c_look_at_plain := c_look_at_plain (P := P) (w := w) (base := base) T F
  have c_look_at_both := c_look_at_both (P := P) (w := w) (base := base) T F E_NoBuild
  refine calleeX T.d_look_at_question sc_look_at_question (fun _ _ _ _ _ _ us hl => match us, hl with | [_, _, _], _ => rfl) (fun _ => rfl) fun f cdv Ar outer s H0 E hr => ?_
  obtain ⟨hu0, hu, hu64, hu65⟩ := room0 hr
  refine ⟨_, (pss_cons (ps_expr (pe_cl c_look_at_plain hr L2.pass0 (pa_cons (pv 0) pa_nil))) (pss_one (ps_expr (pe_cl c_look_at_both hr (L2.passes_call (L2.takes_of rfl rfl rfl rfl) (fun _ _ _ _ h => h)) (pa_cons (pv 0) (pa_cons (pv 1) (pa_cons (pv 2) pa_nil))))))), fun a vs G H Q hP hA e q => ?_⟩
  obtain ⟨b, m, k⟩ := a
  have hP : PlOk b m k := hP
  obtain ⟨v, x, y, rfl, h1, h2, h3⟩ := hA.three
  dsimp only at h1 h2 h3
  refine k_dropS (R := dt .none) (ed_call b (ea_cons (ed_var (by rfl) h1) ea_nil) ⟨hP.ok, hP.pl⟩) e fun u G1 H1 s1 _ => ?_
  refine k_drop (R := dt .none) (ed_callV (b, GV.gd m, GV.gd k) (ea_cons (ed_var (by rfl) ((bookR C b).mono s1.g h1)) (ea_cons (ed_var (by rfl) (((GV.gd m).R b).mono s1.g h2)) (ea_cons (ed_var (by rfl) (((GV.gd k).R b).mono s1.g h3)) ea_nil))) ⟨hP.ok, hP.lm, hP.lk⟩ ?_) s1.i fun u G2 H2 s2 _ => q _ G2 H2 (s1.trans s2) .non
  simp only [GV.out2, GV.out, hP.hm, hP.hk, if_true]
theorem c_plain_price (T : Txt K mg) (F : BookF K C) (FP : PtsF P w K mg base C) (E_NoBuild : ErrF P w K mg base "NoBuild" "build" CB) : Callee P w K mg base (L2.CX P w) 7 "plain_price" ["book", "one", "other"] (RSp (fun a : Bk × Nat × Nat => PlOk a.1 a.2.1 a.2.2) (fun a => [bookR C a.1, (GV.gd a.2.1).R a.1, (GV.gd a.2.2).R a.1]) (fun a => .val (dt (.int (a.1.plainD a.2.1 a.2.2))))) := by
  have c_look_at_question := c_look_at_question (P := P) (w := w) (base := base) T F E_NoBuild
  have c_spare_skill := c_spare_skill (P := P) (w := w) (base := base) T F FP
  have c_mask_of := c_mask_of (P := P) (w := w) (base := base) T F
  have c_price_by := c_price_by (P := P) (w := w) (base := base) T F
  refine calleeX T.d_plain_price sc_plain_price (fun _ _ _ _ _ _ us hl => match us, hl with | [_, _, _], _ => rfl) (fun _ => rfl) fun f cdv Ar outer s H0 E hr => ?_
  obtain ⟨hu0, hu, hu64, hu65⟩ := room0 hr
  refine ⟨_, (pss_cons (ps_expr (pe_cl c_look_at_question hr (L2.passes_call (L2.takes_of rfl rfl rfl rfl) (fun _ _ _ _ h => h)) (pa_cons (pv 0) (pa_cons (pv 1) (pa_cons (pv 2) pa_nil))))) (pss_cons (ps_set (i := 3) sc_plain_price.nd rfl (Or.inl rfl) (pe_callB (call_sumU K) (by rfl) T.f_sum (by decide +kernel) (pa_cons (pe_lc (own := [("name", 5)]) rfl sc_plain_price.nd (pi_tupK K (pv 1)) (blkOk_by (own := [("name", 5)]) (N := N_plain_price) (sc := defScope s_plain_price) (by decide +kernel)) (fun _ _ _ _ _ => (pg_name (i := 5) sc_plain_price.nd rfl (Or.inl rfl))) (fun _ _ _ _ _ => (pts_one (pt_cmpR (op_ninU K hu65) (pv 5) (pv 2) (by rfl)))) (fun _ _ _ _ _ => (pe_cl c_price_by hr L2.pass0 (pa_cons (pv 0) (pa_cons (pv 5) pa_nil))))) pa_nil))) (pss_cons (ps_set (i := 4) sc_plain_price.nd rfl (Or.inl rfl) (pe_cl c_spare_skill hr L2.pass0 (pa_cons (pv 0) (pa_cons (pe_cl c_mask_of hr L2.pass0 (pa_cons (pv 0) (pa_cons (pv 1) pa_nil))) (pa_cons (pe_cl c_mask_of hr L2.pass0 (pa_cons (pv 0) (pa_cons (pv 2) pa_nil))) pa_nil))))) (pss_one (ps_ret (pe_ifExp (pt_cmpR op_isN1 (pv 4) pe_non (nomark _)) (pv 3) (pe_op (op_addU K) (pv 3) (pe_cl c_price_by hr L2.pass0 (pa_cons (pv 0) (pa_cons (pv 4) pa_nil)))))))))), fun a vs G H Q hP hA e q => ?_⟩
  obtain ⟨b, m, k⟩ := a
  have hP : PlOk b m k := hP
  have ok := hP.ok
  obtain ⟨v, x, y, rfl, h1, h2, h3⟩ := hA.three
  dsimp only at h1 h2 h3 q
  have h2 : Dx G x (.tuple ((b.bld m).map .str)) := h2
  have h3 : Dx G y (.tuple ((b.bld k).map .str)) := h3
  have bk : ∀ {σ : L2.St} {G2}, σ[0]? = some (some v) → Ex G G2 → ED (tVar 0) σ G2 (bookR C b) := fun hσ g => ed_var hσ ((bookR C b).mono g h1)
  have hlf := List.length_filter_le m.testBit (List.range b.n)
  rw [List.length_range] at hlf
  have n5 : b.n ≤ 5 := ok.n5
  have em : (b.bld m).map PyData.str = ((List.range b.n).filter m.testBit).map fun i => .str (b.nm i) := by unfold Bk.bld; rw [List.map_map]; rfl
  refine k_dropS (R := dt .none) (ed_callV (b, m, k) (ea_cons (bk rfl (Ex.refl _)) (ea_cons (ed_var (by rfl) h2) (ea_cons (ed_var (by rfl) h3) ea_nil))) hP) e fun u G1 H1 s1 _ => ?_
  refine k_asgS (R := dt (.int ((((List.range b.n).filter m.testBit).filter fun i => !k.testBit i).length : Nat))) (ED.eq (ed_sum (ns := (((List.range b.n).filter m.testBit).filter fun i => !k.testBit i).map fun _ => 1) (ED.eq (ed_lcN (xs := (List.range b.n).filter m.testBit) (Rx := fun i => dt (.str (b.nm i))) (p := fun i => !k.testBit i) (f := fun _ => .int 1) (ei_tupM (ed_var (by rfl) (by rw [← em]; exact Dx.mono s1.g h2))) (by omega) fun i hi z G2 g2 rz => ⟨ET.eq (et_test (ed_ninT (ed_var (by rfl) rz) (ed_var (by rfl) (Dx.mono (s1.g.trans g2) h3)))) ?_, fun _ => ed_call (b, i) (ea_cons (bk rfl (s1.g.trans g2)) (ea_cons (ed_var (by rfl) rz) ea_nil)) ⟨ok, hP.pr, List.mem_range.mp (List.mem_filter.mp hi).1⟩⟩) (by rw [List.map_map]; rfl))) ?_) s1.i fun mv G2 H2 s2 rm => ?_
  · have := mem_bld ok (m := k) (List.mem_range.mp (List.mem_filter.mp hi).1)
    by_cases hb : k.testBit i = true
    · rw [hb, decide_eq_true (this.mpr hb)]
    · rw [decide_eq_false fun z => hb (this.mp z)]; simp at hb; rw [hb]
  · congr 1
    generalize (((List.range b.n).filter m.testBit).filter fun i => !k.testBit i) = l
    induction l with
    | nil => rfl
    | cons a l ih => rw [List.map_cons, List.sum_cons, ih, List.length_cons]; omega
  have s12 := s1.trans s2
  refine k_asgS (R := spareR b m k) (ed_call (b, m, k) (ea_cons (bk rfl s12.g) (ea_cons (ed_call (b, m) (ea_cons (bk rfl s12.g) (ea_cons (ed_var (by rfl) (Dx.mono s12.g h2)) ea_nil)) ⟨ok, hP.lm⟩) (ea_cons (ed_call (b, k) (ea_cons (bk rfl s12.g) (ea_cons (ed_var (by rfl) (Dx.mono s12.g h3)) ea_nil)) ⟨ok, hP.lk⟩) ea_nil))) ⟨ok, hP.pr, hP.sp⟩) s2.i fun sv G3 H3 s3 rs => ?_
  have s13 := s12.trans s3
  have ef : ((List.range b.n).filter m.testBit).filter (fun i => !k.testBit i) = (List.range b.n).filter fun i => m.testBit i && !k.testBit i := by
    rw [List.filter_filter]
    exact List.filter_congr fun i _ => Bool.and_comm _ _
  have rs : if b.freeP m k = true then sv = V.non else ∃ i, i < b.n ∧ sv = .str (b.nm i) := rs
  by_cases hf : b.freeP m k = true
  · rw [if_pos hf] at rs
    subst rs
    refine k_ret (R := dt (.int (b.plainD m k))) (ed_if (b := true) (et_test (ed_isNn (ed_var (by rfl) (.non : Dx G3 .non .none)))) (fun _ => ed_var (by rfl) ?_) fun z => by cases z) s3.i fun v G4 H4 s4 r => q v G4 H4 (s13.trans s4) r
    have : b.plainD m k = (((List.range b.n).filter m.testBit).filter fun i => !k.testBit i).length := by unfold Bk.plainD; rw [if_pos hf, ef]; rfl
    rw [this]
    exact Dx.mono s3.g rm
  · rw [if_neg hf] at rs
    obtain ⟨i, hi, rfl⟩ := rs
    refine k_ret (R := dt (.int (b.plainD m k))) (ed_if (b := false) (et_test (ed_isNn (ed_var (by rfl) (.str (b.nm i) : Dx G3 (.str (b.nm i)) _)))) (fun z => by cases z) fun _ => ED.eq (ed_add (ed_var (by rfl) (Dx.mono s3.g rm)) (ed_call (b, i) (ea_cons (bk rfl s13.g) (ea_cons (ed_var (by rfl) (.str (b.nm i))) ea_nil)) ⟨ok, hP.pr, hi⟩)) ?_) s3.i fun v G4 H4 s4 r => q v G4 H4 (s13.trans s4) r
    unfold Bk.plainD
    rw [if_neg hf, ef]
    simp
end
end RT
end
section
set_option maxRecDepth 100000
set_option maxHeartbeats 2000000
/-! RTCalc8: changes of some objects; methods; dicts that are functions. -/
namespace RT
open PySem PySem.Spec PyProof.Rows L2
open Evl (Ex Ex.refl Ex.trans Ex.new Ex.mut)
/-- what stays, but at M -/
structure StepM (M : Addr → Prop) (G H G' H' : Hp) : Prop where
  g : Ex G G'
  h : ∀ a o, ¬ M a → H a = some o → H' a = some o
  e : ∀ a, H a ≠ none → H' a ≠ none
  i : Ex G' H'
  s : ∀ a, H a ≠ none → G a = none → G' a = none
section
variable {M : Addr → Prop} {G H G0 H0 G1 H1 G2 H2 : Hp}
theorem Step.e (s : Step G H G1 H1) : ∀ a, H a ≠ none → H1 a ≠ none := fun a h => ex_some s.h h
theorem Step.m (s : Step G H G1 H1) : StepM M G H G1 H1 := ⟨s.g, fun a o _ h => s.h a o h, s.e, s.i, s.s⟩
theorem StepM.refl (e : Ex G H) : StepM M G H G H := (Step.refl e).m
theorem StepM.trans (a : StepM M G H G1 H1) (b : StepM M G1 H1 G2 H2) : StepM M G H G2 H2 :=
  ⟨a.g.trans b.g, fun x o hm h => b.h x o hm (a.h x o hm h), fun x h => b.e x (a.e x h), b.i, fun x h1 h2 => b.s x (a.e x h1) (a.s x h1 h2)⟩
theorem StepM.step (a : StepM M G H G1 H1) (b : Step G1 H1 G2 H2) : StepM M G H G2 H2 := a.trans b.m
theorem StepM.put {p : Addr} {o : HO} (a : StepM M G H G1 H1) (hm : M p) (hg : G1 p = none) : StepM M G H G1 (upd H1 p o) where
  g := a.g
  h := fun b u hb e => by rw [upd_ne (a := p) (fun z => by subst z; exact hb hm)]; exact a.h b u hb e
  e := fun b h => by
    by_cases hb : b = p
    · subst hb; rw [upd_same]; intro z; cases z
    · rw [upd_ne hb]; exact a.e b h
  i := Ex.mut a.i hg
  s := a.s
theorem StepM.mut {p : Addr} {o : HO} (a : StepM M G H G1 H1) (hp : H p = none) (hg : G1 p = none) : StepM M G H G1 (upd H1 p o) where
  g := a.g
  h := fun b u hb e => by rw [upd_ne fun z => by subst z; rw [hp] at e; cases e]; exact a.h b u hb e
  e := fun b h => by
    by_cases hb : b = p
    · subst hb; rw [upd_same]; intro z; cases z
    · rw [upd_ne hb]; exact a.e b h
  i := Ex.mut a.i hg
  s := a.s
theorem StepM.pub {p : Addr} {o : HO} (a : StepM M G H G1 H1) (hp : H p = none) (hg : G1 p = none) (ho : H1 p = some o) : StepM M G H (upd G1 p o) H1 where
  g := a.g.trans (Ex.new hg)
  h := a.h
  e := a.e
  i := fun b u e => by
    by_cases hb : b = p
    · subst hb; rw [upd_same] at e; cases e; exact ho
    · rw [upd_ne hb] at e; exact a.i b u e
  s := fun b h1 h2 => by
    have hb : b ≠ p := fun z => by subst z; exact h1 hp
    rw [upd_ne hb]; exact a.s b h1 h2
/-- seen from before the changing objects were there -/
theorem Step.thenM (a : Step G0 H0 G H) (b : StepM M G H G1 H1) (hM : ∀ p, M p → H0 p = none) : Step G0 H0 G1 H1 where
  g := a.g.trans b.g
  h := fun x o e => b.h x o (fun z => by rw [hM x z] at e; cases e) (a.h x o e)
  i := b.i
  s := fun x h1 h2 => b.s x (ex_some a.h h1) (a.s x h1 h2)
/-- an object known for a while -/
def wo (G : Hp) (p : Addr) : Hp := fun a => if a = p then none else G a
theorem wo_same {p : Addr} : wo G p p = none := by unfold wo; rw [if_pos rfl]
theorem wo_ne {p a : Addr} (h : a ≠ p) : wo G p a = G a := by unfold wo; rw [if_neg h]
theorem Step.forget {p : Addr} {o : HO} (hg : G p = none) (s : Step (upd G p o) H G1 H1) : Step G H (wo G1 p) H1 where
  g := fun a u e => by
    have ha : a ≠ p := fun z => by subst z; rw [hg] at e; cases e
    rw [wo_ne ha]
    exact s.g a u (by rw [upd_ne ha]; exact e)
  h := s.h
  i := fun a u e => by
    by_cases ha : a = p
    · subst ha; rw [wo_same] at e; cases e
    · rw [wo_ne ha] at e; exact s.i a u e
  s := fun a h1 h2 => by
    by_cases ha : a = p
    · subst ha; exact wo_same
    · rw [wo_ne ha]
      exact s.s a h1 (by rw [upd_ne ha]; exact h2)
theorem ex_while {p : Addr} {o : HO} (e : Ex G H) (hp : H p = some o) : Ex (upd G p o) H := fun a u z => by
  by_cases ha : a = p
  · subst ha; rw [upd_same] at z; cases z; exact hp
  · rw [upd_ne ha] at z; exact e a u z
/-! ### a value that is this object -/
def refR (p : Addr) : Rel := ⟨fun v _ => v = .ref p, fun _ h => h⟩
/-! ### objects -/
variable {σ : L2.St} {te ta : TE} {tl : TA} {K : Fg} {C : Addr} {R0 R : Rel} {E : XK}
/-- a field of an object -/
theorem ed_fldI {f : Str} (c : Cls K C) (n : NoAttr K C f) (h : ED te σ G R0) (hf : ∀ v G1, Ex G G1 → R0.r v G1 → ∃ a dx fs u, v = .ref a ∧ G1 a = some (.ins C dx fs) ∧ fs.lookup f = some u ∧ R.r u G1) : ED (tFld K te f) σ G R := fun H e Q q =>
  h H e _ fun v G1 H1 s r => by
    obtain ⟨a, dx, fs, u, rfl, ea, h1, h2⟩ := hf v G1 s.g r
    exact ⟨a, C, dx, fs, u, rfl, s.i _ _ ea, c, n, h1, q u G1 H1 s h2⟩
theorem ed_meth {α : Type} {P : α → Prop} {A : α → List Rel} {B : α → Rel} {m : Str} {Rs : List Rel} (a : α) (h0 : ED te σ G R0) (hi : ∀ v G1, R0.r v G1 → ∃ x dx fs, v = .ref x ∧ G1 x = some (.ins C dx fs) ∧ fs.lookup m = none) (h : EA tl σ G Rs) (hp : P a) (hA : A a = R0 :: Rs := by rfl) (hR : B a = R := by rfl) : ED (tMeth C m (FSp P A B) [] E te tl) σ G R := fun H e Q q =>
  h0 H e _ fun v G1 H1 s1 r1 => by
    obtain ⟨x, dx, fs, rfl, ex, hl⟩ := hi v G1 r1
    refine ⟨x, dx, fs, rfl, s1.i _ _ ex, hl, ?_⟩
    refine (h.mono s1.g) H1 s1.i _ fun vs G2 H2 s2 r2 => ?_
    subst hR
    rw [List.append_nil]
    exact ⟨a, G2, hp, s2.i, by rw [hA]; exact .cons (R0.mono s2.g r1) r2, fun v G3 H3 s3 r3 => q v G3 H3 ((s1.trans s2).trans s3) r3⟩
end
/-- a method of the text, without defaults -/
def MethAt (K : Fg) (C : Addr) (m qual : Str) (st : Stmt) : Prop := ∃ f fd, FunD K m qual (defArgs st) (defBody st) (defScope st) [] [] f fd ∧ Meth K C m f
structure MCal (P : Program) (w : World) (K : Fg) (mg : Str → Option Value) (base : Heap) (CX : CXT) (k : Nat) (C : Addr) (m : Str) (ps : List Str) (sp : Sp) : Prop where
  ex : ∃ f fd, FnOk P w K mg base CX k f fd ps sp ∧ Meth K C m f ∧ L2.Binds K fd ps []
section
variable {X : Cx} {CX : CXT} {k j : Nat} {m : Str} {C : Addr} {apos pos : Pos} {o e : Expr} {es : List Expr} {ta : TE} {t : TA} {ps : List Str} {sp : Sp} {E : XK}
theorem pe_mt {pl : Sem Bool} (c : MCal X.prog X.w X.K X.mg X.base CX k C m ps sp) (cl : Cls X.K C) (hr : Room j X.A) (hx : Passes CX X E) (he : PE X o ta) (ha : PA X (e :: es) t) (hkj : k ≤ j := by decide)
    (hst : starEach (e :: es) X.env = (false, eval e X.env) :: starEach es X.env := by rfl) (hpl : (backTo pos (starEach es X.env)).any (·.1) = false := by rfl)
    (ht : eval (.Call (.Attribute o m apos) (e :: es) [] pos) X.env = (do
      let ov ← eval o X.env
      standAt apos.atName
      let (f, first) ← holding [ov] (getMethod ov m pl)
      callWith pos f first (backTo pos (starEach (e :: es) X.env)) (backToKw pos (keywordEach [] X.env))) := by rfl) : PE X (.Call (.Attribute o m apos) (e :: es) [] pos) (tMeth C m sp [] E ta t) := by
  obtain ⟨f, fd, F, hm, hb⟩ := c.ex
  exact pe_meth he cl hm F (hr.mono hkj) hb .nil hx ha hst hpl ht
end
section
variable {P : Program} {w : World} {K : Fg} {mg : Str → Option Value} {base : Heap} {C : Addr} {m qual : Str} {st : Stmt} {N ps : List Str} {k : Nat}
theorem mcal_sp {sp : Sp} (D : MethAt K C m qual st) (S : FnScope N ps (defScope st)) (hb : ∀ (kV doc pm : Value) (an : Option Addr) (cdv ct : Value) (us : List Value), us.length = ps.length → bindArgs (PySem.W.fnOf m qual (defArgs st) (defBody st) (defScope st) .none kV doc pm an cdv ct) ⟨us, []⟩ = pure (ps.zip us))
    (len : ∀ vs H Q E, sp vs H Q E → vs.length = ps.length)
    (body : ∀ (f : Addr) (cdv : Value) (A : Around) (outer : List Env) (s : Shared) (H : Hp) (vs : List V) (Q : VK) (E : XK), Room k (A.deeper (envOfC qual (defScope st) s.heap.objs.size f cdv)) → sp vs H Q E →
      ∃ t, PSs (cxOf CX0 P w K mg base N qual (defScope st) f cdv A outer s H E).nox (defBody st) t ∧ t { nx := fun _ H' => Q .non H', rt := Q } (start N vs) H) : MCal P w K mg base CX0 (k + 1) C m ps sp := by
  obtain ⟨f, fd, F, hm⟩ := D
  refine ⟨f, fd, F.ok S len fun cdv A outer s H vs Q E hr h => ?_, hm, fun s us _ hl => ?_⟩
  · obtain ⟨t, h1, h2⟩ := body f cdv A outer s H vs Q E hr h
    exact ⟨t, h1.nox, h2⟩
  · rw [List.append_nil] at hl ⊢
    exact F.bindsA hb s us hl
theorem mcal {α : Type} {Pa : α → Prop} {A : α → List Rel} {B : α → Rel} (D : MethAt K C m qual st) (S : FnScope N ps (defScope st)) (hb : ∀ (kV doc pm : Value) (an : Option Addr) (cdv ct : Value) (us : List Value), us.length = ps.length → bindArgs (PySem.W.fnOf m qual (defArgs st) (defBody st) (defScope st) .none kV doc pm an cdv ct) ⟨us, []⟩ = pure (ps.zip us))
    (hl : ∀ a, (A a).length = ps.length)
    (body : ∀ (f : Addr) (cdv : Value) (Ar : Around) (outer : List Env) (s : Shared) (H0 : Hp) (E : XK), Room k (Ar.deeper (envOfC qual (defScope st) s.heap.objs.size f cdv)) →
      ∃ t, PSs (cxOf CX0 P w K mg base N qual (defScope st) f cdv Ar outer s H0 E).nox (defBody st) t ∧ ∀ a vs G H (D : Ends), Pa a → RAll (A a) vs G → Ex G H → (∀ v G' H', Step G H G' H' → (B a).r v G' → D.rt v H') → t D (start N vs) H) : MCal P w K mg base CX0 (k + 1) C m ps (FSp Pa A B) :=
  mcal_sp D S hb (fun vs H Q E h => by obtain ⟨a, G, _, _, h2, _⟩ := h; rw [h2.length, hl]) fun f cdv Ar outer s H vs Q E hr h => by
    obtain ⟨t, h1, h2⟩ := body f cdv Ar outer s H E hr
    obtain ⟨a, G, p, e, r, q⟩ := h
    exact ⟨t, h1, h2 a vs G H _ p r e q⟩
end
/-! ### dicts by small numbers -/
structure MD {α : Type} (enc : α → PyData) (f : Nat → Option α) (kvs : List (Key × PyData)) : Prop where
  nd : (kvs.map (·.1)).Nodup
  lk : ∀ m : Nat, lookG kvs (.inl (m : Int)) = (f m).map enc
  ks : ∀ k ∈ kvs.map (·.1), ∃ m : Nat, m < 32 ∧ k = .inl (m : Int)
section
variable {α : Type} {enc : α → PyData} {f : Nat → Option α} {kvs : List (Key × PyData)}
theorem MD.nil : MD enc (fun _ => none) [] := ⟨by simp, fun _ => rfl, fun _ h => by cases h⟩
theorem MD.one {m : Nat} {v : α} (hm : m < 32) : MD enc (fun x => if x = m then some v else none) [(.inl (m : Int), enc v)] := ⟨by simp, fun x => by
    rw [lookG_cons, lookG_nil]
    by_cases h : x = m
    · subst h; simp
    · rw [if_neg h, if_neg fun z => h (by have := Sum.inl.inj z; omega)]; rfl, fun k hk => by
    simp at hk; exact ⟨m, hm, hk⟩⟩
theorem MD.len (h : MD enc f kvs) : kvs.length ≤ 32 := by
  have : (kvs.map (·.1)).length ≤ ((List.range 32).map fun m : Nat => (.inl (m : Int) : Key)).length := by
    refine List.Nodup.length_le_of_subset h.nd fun k hk => ?_
    obtain ⟨m, hm, rfl⟩ := h.ks k hk
    exact List.mem_map.mpr ⟨m, List.mem_range.mpr hm, rfl⟩
  simpa using this
theorem MD.put {m : Nat} {v : α} (h : MD enc f kvs) (hm : m < 32) : MD enc (fun x => if x = m then some v else f x) (putG kvs (.inl (m : Int)) (enc v)) := by
  have hlk : ∀ x : Nat, lookG (putG kvs (.inl (m : Int)) (enc v)) (.inl (x : Int)) = (if x = m then some v else f x).map enc := fun x => by
    rw [lookG_put, h.lk x]
    by_cases e : x = m
    · subst e; simp
    · rw [if_neg e, if_neg fun z => e (by have := Sum.inl.inj z; omega)]
  by_cases e : (.inl (m : Int) : Key) ∈ kvs.map (·.1)
  · exact ⟨by rw [putG_keys e]; exact h.nd, hlk, by rw [putG_keys e]; exact h.ks⟩
  · refine ⟨?_, hlk, ?_⟩
    · rw [putG_new e, List.map_append, List.nodup_append]
      refine ⟨h.nd, by simp, fun a ha b hb => ?_⟩
      simp at hb; subst hb
      intro z; subst z; exact e ha
    · rw [putG_new e]
      intro k hk
      rw [List.map_append] at hk
      rcases List.mem_append.mp hk with z | z
      · exact h.ks k z
      · simp at z; exact ⟨m, hm, z⟩
theorem MD.put_len {m : Nat} {v : PyData} (h : MD enc f kvs) (hn : f m = none) : (putG kvs (.inl (m : Int)) v).length = kvs.length + 1 := by
  have : ¬ (.inl (m : Int) : Key) ∈ kvs.map (·.1) := lookG_none.mp (by rw [h.lk m, hn]; rfl)
  rw [putG_new this]; simp
end
end RT
end
section
set_option maxRecDepth 100000
set_option maxHeartbeats 4000000
/-! RTW11: the search: its steps' costs, its links. -/
namespace RT
open PySem PySem.Spec PyProof.Rows L2
open Evl (Ex Ex.refl Ex.trans Ex.new Ex.mut)
/-- a step: its data, what is behind it, what it costs, whether it counts -/
structure SQ where
  d : PyData
  l : Nat
  w : Nat
  t : Bool
def sdl (b : Bk) (m : Nat) : List SQ := (takesP b m).map (fun i => ⟨sTake b i, m + 2 ^ i, 0, true⟩) ++ (givesP b m).map (fun i => ⟨sGive b i, m - 2 ^ i, 1, true⟩) ++ if !isNn (dReset b) && decide (0 < m) then [⟨sReset, 0, 0, false⟩] else []
theorem stepsD_eq (b : Bk) (m : Nat) : stepsD b m = (sdl b m).map fun q => .tuple [q.d, .int (q.l : Int)] := by
  unfold stepsD sdl
  rw [List.map_append, List.map_append, List.map_map, List.map_map]
  congr 1
  split <;> rfl
def nbs (b : Bk) (m : Nat) : List (Nat × Nat) := ((sdl b m).filter (·.t)).map fun q => (q.l, q.w)
structure SQok (b : Bk) (q : SQ) : Prop where
  ex : ∃ (s : Str) (rest : List PyData), q.d = .tuple (.str s :: rest) ∧ wordS s = true ∧ q.w = (if s = "give" then 1 else 0) ∧ q.t = !decide (s = "reset")
  lt : q.l < 32
theorem sdl_ok {b : Bk} (ok : BOk b) {m : Nat} (hm : m < 2 ^ b.n) : ∀ q ∈ sdl b m, SQok b q := fun q hq => by
  unfold sdl at hq
  rcases List.mem_append.mp hq with h | h
  · rcases List.mem_append.mp h with h | h
    · obtain ⟨i, hi, rfl⟩ := List.mem_map.mp h
      unfold takesP at hi
      have h1 := List.mem_filter.mp hi
      have h2 : m.testBit i = false := by have := h1.2; simp at this; exact this.1
      exact ⟨⟨"take", [.str (b.nm i)], rfl, by decide +kernel, show (0 : Nat) = if ("take" : Str) = "give" then 1 else 0 by decide +kernel, show true = !decide (("take" : Str) = "reset") by decide +kernel⟩, lt32 ok (add_lt hm (List.mem_range.mp h1.1) h2)⟩
    · obtain ⟨i, hi, rfl⟩ := List.mem_map.mp h
      exact ⟨⟨"give", [.str (b.nm i)], rfl, by decide +kernel, show (1 : Nat) = if ("give" : Str) = "give" then 1 else 0 by decide +kernel, show true = !decide (("give" : Str) = "reset") by decide +kernel⟩, lt32 ok (Nat.lt_of_le_of_lt (Nat.sub_le _ _) hm)⟩
  · split at h
    · rw [List.mem_singleton.mp h]
      exact ⟨⟨"reset", [], rfl, by decide +kernel, by decide +kernel, by decide +kernel⟩, by decide⟩
    · cases h
theorem sdl_len {b : Bk} (ok : BOk b) (m : Nat) : (sdl b m).length ≤ 11 := by
  have n5 : b.n ≤ 5 := ok.n5
  have ln : ∀ (f : Nat → Bool), ((List.range b.n).filter f).length ≤ 5 := fun f => by have := List.length_filter_le f (List.range b.n); rw [List.length_range] at this; omega
  have l1 : (takesP b m).length ≤ 5 := ln _
  have l2 : (givesP b m).length ≤ 5 := ln _
  unfold sdl
  rw [List.length_append, List.length_append, List.length_map, List.length_map]
  split <;> simp <;> omega
abbrev EB (b : Bk) : Nat → Nat → Nat → Prop := Stp b.n fun m => b.holdP m = true
theorem nbs_iff {b : Bk} {m m' w : Nat} (h : b.holdP m = true) : EB b m m' w ↔ (m', w) ∈ nbs b m := by
  unfold nbs sdl takesP givesP
  rw [List.filter_append, List.filter_append, List.map_append, List.map_append]
  have e3 : (if (!isNn (dReset b) && decide (0 < m)) = true then [(⟨sReset, 0, 0, false⟩ : SQ)] else []).filter (·.t) = [] := by split <;> rfl
  rw [e3]
  simp only [List.map_nil, List.append_nil, List.mem_append, List.mem_map, List.mem_filter, List.mem_range]
  constructor
  · rintro ⟨i, hi, _, h2, h3⟩
    rcases h3 with ⟨h3, rfl, rfl⟩ | ⟨h3, rfl, rfl⟩
    · exact .inl ⟨⟨sTake b i, m + 2 ^ i, 0, true⟩, ⟨⟨i, ⟨hi, by rw [h3, h2]; rfl⟩, rfl⟩, rfl⟩, rfl⟩
    · exact .inr ⟨⟨sGive b i, m - 2 ^ i, 1, true⟩, ⟨⟨i, ⟨hi, by rw [h3, h2]; rfl⟩, rfl⟩, rfl⟩, rfl⟩
  · rintro (⟨q, ⟨⟨i, ⟨hi, h3⟩, rfl⟩, _⟩, e⟩ | ⟨q, ⟨⟨i, ⟨hi, h3⟩, rfl⟩, _⟩, e⟩)
    · simp at h3
      cases e
      exact ⟨i, hi, h, h3.2, .inl ⟨h3.1, rfl, rfl⟩⟩
    · simp at h3
      cases e
      exact ⟨i, hi, h, h3.2, .inr ⟨h3.1, rfl, rfl⟩⟩
abbrev CS := (Nat → Option (Nat × Nat)) × List (Nat × Nat × Nat)
def stq (c k : Nat) (st : CS) (q : SQ) : CS := if q.t = true then link1 c k st (q.l, q.w) else st
theorem stq_all (c k : Nat) : ∀ (l : List SQ) (st : CS), l.foldl (stq c k) st = ((l.filter (·.t)).map fun q => (q.l, q.w)).foldl (link1 c k) st
  | [], _ => rfl
  | q :: l, st => by
    rw [List.foldl_cons, stq_all c k l, List.filter_cons]
    unfold stq
    by_cases h : q.t = true
    · rw [if_pos h, if_pos h]; rfl
    · rw [if_neg h, if_neg h]
theorem link1_len (c k : Nat) (st : CS) (p : Nat × Nat) : (link1 c k st p).2.length ≤ st.2.length + 1 := by
  unfold link1
  split <;> split <;> simp
theorem stq_len (c k : Nat) : ∀ (l : List SQ) (st : CS), (l.foldl (stq c k) st).2.length ≤ st.2.length + l.length
  | [], _ => by simp
  | q :: l, st => by
    rw [List.foldl_cons]
    have h1 := stq_len c k l (stq c k st q)
    have h2 : (stq c k st q).2.length ≤ st.2.length + 1 := by
      unfold stq
      split
      · exact link1_len c k st _
      · omega
    simp only [List.length_cons]; omega
def enc2 (p : Nat × Nat) : PyData := .tuple [.int (p.1 : Int), .int (p.2 : Int)]
def enc3 (e : Nat × Nat × Nat) : PyData := .tuple [.int (e.1 : Int), .int (e.2.1 : Int), .int (e.2.2 : Int)]
def CDG (G : Hp) (costs : Nat → Option (Nat × Nat)) (ws : List (Key × V)) : Prop := ∃ kvs, KDx G ws kvs ∧ MD enc2 costs kvs
def ADG (G : Hp) (ws : List (Key × V)) : Prop := ∃ (f : Nat → Option PyData) (kvs : List (Key × PyData)), KDx G ws kvs ∧ MD id f kvs
theorem CDG.mono {G G' : Hp} {costs : Nat → Option (Nat × Nat)} {ws : List (Key × V)} (e : Ex G G') : CDG G costs ws → CDG G' costs ws := fun ⟨kvs, h1, h2⟩ => ⟨kvs, KDx.mono e h1, h2⟩
theorem ADG.mono {G G' : Hp} {ws : List (Key × V)} (e : Ex G G') : ADG G ws → ADG G' ws := fun ⟨f, kvs, h1, h2⟩ => ⟨f, kvs, KDx.mono e h1, h2⟩
/-- what is asked of the class of the search -/
structure ChF (K : Fg) (mg : Str → Option Value) (C : Addr) : Prop where
  cls : Cls K C
  n1 : NoAttr K C "book"
  n2 : NoAttr K C "is_by_gives"
  n3 : NoAttr K C "costs"
  n4 : NoAttr K C "came"
  n5 : NoAttr K C "settled"
  mke : ∃ f fd, FunD K "__init__" "Cheapest.__init__" (defArgs s_Cheapest_init) (defBody s_Cheapest_init) (defScope s_Cheapest_init) [.bl false] [] f fd ∧ Mk K C f
  ms : MethAt K C "step_cost" "Cheapest.step_cost" s_Cheapest_step_cost
  ml : MethAt K C "links" "Cheapest.links" s_Cheapest_links
  gx : mg "Cheapest" = some (.ref C)
/-- the search's object -/
def chR (C CC : Addr) (b : Bk) (cd md sd : Addr) : Rel := ⟨fun v G => ∃ a dx bv, v = .ref a ∧ G a = some (.ins CC dx [("book", bv), ("is_by_gives", .bl true), ("costs", .ref cd), ("came", .ref md), ("settled", .ref sd)]) ∧ (bookR C b).r bv G, fun e ⟨a, dx, bv, h1, h2, h3⟩ => ⟨a, dx, bv, h1, e _ _ h2, (bookR C b).mono e h3⟩⟩
section
variable {P : Program} {w : World} {K : Fg} {mg : Str → Option Value} {base : Heap} {C CC : Addr} {σ : L2.St} {G : Hp} {te : TE} {b : Bk} {cd md sd : Addr}
theorem ed_chBook (F : ChF K mg CC) (h : ED te σ G (chR C CC b cd md sd)) : ED (tFld K te "book") σ G (bookR C b) := ed_fldI F.cls F.n1 h fun v G1 _ ⟨a, dx, bv, h1, h2, h3⟩ => ⟨a, dx, _, bv, h1, h2, rfl, h3⟩
theorem ed_chBy (F : ChF K mg CC) (h : ED te σ G (chR C CC b cd md sd)) : ED (tFld K te "is_by_gives") σ G (dt (.bool true)) := ed_fldI F.cls F.n2 h fun v G1 _ ⟨a, dx, bv, h1, h2, h3⟩ => ⟨a, dx, _, _, h1, h2, rfl, .bl true⟩
theorem ed_chCosts (F : ChF K mg CC) (h : ED te σ G (chR C CC b cd md sd)) : ED (tFld K te "costs") σ G (refR cd) := ed_fldI F.cls F.n3 h fun v G1 _ ⟨a, dx, bv, h1, h2, h3⟩ => ⟨a, dx, _, _, h1, h2, rfl, rfl⟩
theorem ed_chCame (F : ChF K mg CC) (h : ED te σ G (chR C CC b cd md sd)) : ED (tFld K te "came") σ G (refR md) := ed_fldI F.cls F.n4 h fun v G1 _ ⟨a, dx, bv, h1, h2, h3⟩ => ⟨a, dx, _, _, h1, h2, rfl, rfl⟩
theorem ed_chSet (F : ChF K mg CC) (h : ED te σ G (chR C CC b cd md sd)) : ED (tFld K te "settled") σ G (refR sd) := ed_fldI F.cls F.n5 h fun v G1 _ ⟨a, dx, bv, h1, h2, h3⟩ => ⟨a, dx, _, _, h1, h2, rfl, rfl⟩
theorem ed_refD {p : Addr} {ws : List (Key × V)} {kvs : List (Key × PyData)} (h : ED te σ G (refR p)) (hp : G p = some (.dK ws)) (hk : KDx G ws kvs) : ED te σ G (dkR kvs) := fun H e Q q => h H e Q fun v G1 H1 s r => q v G1 H1 s ⟨p, ws, r, s.g _ _ hp, hk.mono s.g⟩
abbrev stepP (a : Bk × Addr × Addr × Addr × Str × List PyData) : Prop := wordS a.2.2.2.2.1 = true
abbrev stepA (C CC : Addr) (a : Bk × Addr × Addr × Addr × Str × List PyData) : List Rel := [chR C CC a.1 a.2.1 a.2.2.1 a.2.2.2.1, dt (.tuple (.str a.2.2.2.2.1 :: a.2.2.2.2.2))]
abbrev stepB (a : Bk × Addr × Addr × Addr × Str × List PyData) : Rel := dt (.int (if a.2.2.2.2.1 = "give" then 1 else 0))
theorem mt_step_cost (T : Txt K mg) (BF : BookF K C) (F : ChF K mg CC) : MCal P w K mg base CX0 2 CC "step_cost" ["self", "step"] (FSp stepP (stepA C CC) stepB) := by
  have c_step_price := c_step_price (P := P) (w := w) (base := base) T BF
  refine mcal F.ms sc_Cheapest_step_cost (fun _ _ _ _ _ _ us hl => match us, hl with | [_, _], _ => rfl) (fun _ => rfl) fun f cdv Ar outer s H0 E hr => ?_
  obtain ⟨hu0, hu, hu64, hu65⟩ := room0 hr
  refine ⟨_, (pss_cons (ps_if (pt_truthK K (pe_fldK K (pv 0))) (pss_one (ps_ret (pe_callTy call_intU (by rfl) T.f_int (by decide +kernel) (pa_cons (pe_cmpR (op_eqK K hu64) (pe_ix (ix_seqK K) (pv 1) pe_int (fun _ _ => rfl)) pe_str (nomark _)) pa_nil)))) pss_nil) (pss_one (ps_ret (pe_cl c_step_price hr pass0 (pa_cons (pe_fldK K (pv 0)) (pa_cons (pv 1) pa_nil)))))), fun a vs G H D hP hA e q => ?_⟩
  obtain ⟨b, cd, md, sd, s, rest⟩ := a
  have hP : wordS s = true := hP
  obtain ⟨v, x, rfl, h1, h2⟩ := hA.two
  dsimp only [stepB] at h1 h2 q
  refine k_retS (b := true) (R := dt (.int (if s = "give" then 1 else 0))) (et_tb (ed_chBy F (ed_var (by rfl) h1))) e (fun _ => ?_) (fun _ v G1 H1 s1 r => q v G1 H1 s1 r) fun z => by cases z
  refine ED.eq (ed_intB (ed_eqS (x := s) (y := "give") (ed_ixT (ds := .str s :: rest) (ed_var (by rfl) h2) ed_int at0) ed_str hP (by decide +kernel))) ?_
  by_cases h : s = "give" <;> simp [h]
/-- what links does -/
def LkSp (C CC : Addr) : Sp := fun vs H Q _ => ∃ (b : Bk) (c k m : Nat) (x cd md sd : Addr) (costs : Nat → Option (Nat × Nat)) (cws mws : List (Key × V)) (G : Hp),
  vs = [.ref x, .int (c : Int), .int (k : Int), .int (m : Int)] ∧ BOk b ∧ m < 2 ^ b.n ∧ Ex G H ∧ (chR C CC b cd md sd).r (.ref x) G ∧ G cd = none ∧ G md = none ∧ cd ≠ md ∧
  H cd = some (.dK cws) ∧ CDG G costs cws ∧ H md = some (.dK mws) ∧ ADG G mws ∧
  ∀ v G' H' cws' mws', StepM (fun a => a = cd ∨ a = md) G H G' H' → H' cd = some (.dK cws') → CDG G' (linkAll c k (nbs b m) costs).1 cws' → H' md = some (.dK mws') → ADG G' mws' → Dx G' v (.list ((linkAll c k (nbs b m) costs).2.map enc3)) → Q v H'
theorem lex2 (a b c d : Nat) : HT.lexLt [(a : Int), (b : Int)] [(c : Int), (d : Int)] = decide (a < c ∨ (a = c ∧ b < d)) := by
  rw [HT.lexLt_cons]
  by_cases h : (a : Int) = (c : Int)
  · rw [if_pos h, HT.lexLt_cons]
    have h' : a = c := by omega
    subst h'
    by_cases h2 : (b : Int) = (d : Int)
    · have h2' : b = d := by omega
      subst h2'; rw [if_pos rfl]; simp [HT.lexLt]
    · rw [if_neg h2]; simp
  · rw [if_neg h]
    have h' : ¬ a = c := by omega
    simp [h']
end
end RT
end
section
set_option maxRecDepth 100000
set_option maxHeartbeats 4000000
/-! RTW12: links. -/
namespace RT
open PySem PySem.Spec PyProof.Rows L2
open Evl (Ex Ex.refl Ex.trans Ex.new Ex.mut)
section
variable {M M2 : Addr → Prop} {G H G0 H0 G1 H1 : Hp} {σ : L2.St} {D : Ends} {td ty tv te : TE} {tw : TS} {Rv : Rel} {p : Addr} {K : Fg}
theorem StepM.thenW (a : StepM M G0 H0 G H) (b : StepM M2 G H G1 H1) (hM : ∀ p, M2 p → M p ∨ H0 p = none) : StepM M G0 H0 G1 H1 :=
  ⟨a.g.trans b.g, fun x o hm e => b.h x o (fun z => (hM x z).elim hm fun n => by rw [n] at e; cases e) (a.h x o hm e), fun x h => b.e x (a.e x h), b.i, fun x h1 h2 => b.s x (a.e x h1) (a.s x h1 h2)⟩
/-- d[k] = v, a dict that is not known -/
theorem k_putS {ws : List (Key × V)} {ky : Key} (e : Ex G H) (hp : H p = some (.dK ws)) (hg : G p = none) (hl : ws.length < sizeLine) (hv : ED tv σ G Rv) (hd : ED td σ G (refR p)) (hk : ED ty σ G (dt (kD ky)))
    (q : ∀ v G1 H1, StepM (fun a => a = p) G H G1 H1 → G1 p = none → H1 p = some (.dK (putK ws ky v)) → Rv.r v G1 → tw D σ H1) : tSeq (sDPut td ty tv) tw D σ H :=
  hv H e _ fun v G1 H1 s1 r1 => (hd.mono s1.g) H1 s1.i _ fun x G2 H2 s2 r2 => (hk.mono (s1.g.trans s2.g)) H2 s2.i _ fun y G3 H3 s3 r3 => by
    have s := (s1.trans s2).trans s3
    have n : G3 p = none := s.s p (by rw [hp]; intro z; cases z) hg
    rw [kD_inv r3]
    exact ⟨p, _, r2, DPut.k (s.h _ _ hp) hl, q v G3 _ (StepM.put s.m rfl n) n upd_same (Rv.mono (s2.g.trans s3.g) r1)⟩
/-- x.append(e), a list that is not known -/
theorem k_appM {i : Nat} {vs : List V} (e : Ex G H) (hσ : σ[i]? = some (some (.ref p))) (hp : H p = some (.lst vs)) (hg : G p = none) (hl : vs.length < sizeLine) (hv : ED te σ G Rv)
    (q : ∀ y G1 H1, StepM (fun a => a = p) G H G1 H1 → G1 p = none → H1 p = some (.lst (vs ++ [y])) → Rv.r y G1 → D.nx σ H1) : tDrop (tBM K "list" rAppend (tVar i) (tCons te tNil)) D σ H := by
  refine ⟨.ref p, hσ, .inl ⟨rfl, vs, SqL.of hp⟩, ?_⟩
  refine hv H e _ fun y G1 H1 s r => ?_
  have hp1 : H1 p = some (.lst vs) := s.h _ _ hp
  have n : G1 p = none := s.s p (by rw [hp]; intro z; cases z) hg
  exact ⟨p, vs, y, rfl, rfl, hp1, hl, q y G1 _ (StepM.put s.m rfl n) n upd_same r⟩
end
def cnd (c k : Nat) (st : CS) (q : SQ) : Bool := q.t && (match st.1 q.l with | none => true | some (c0, k0) => decide (c + q.w < c0 ∨ (c + q.w = c0 ∧ k + 1 < k0)))
theorem stq_pos {c k : Nat} {st : CS} {q : SQ} (h : cnd c k st q = true) : stq c k st q = (fun m => if m = q.l then some (c + q.w, k + 1) else st.1 m, st.2 ++ [(c + q.w, k + 1, q.l)]) := by
  unfold cnd at h
  rw [Bool.and_eq_true] at h
  unfold stq link1
  rw [if_pos h.1]
  exact if_pos h.2
theorem stq_neg {c k : Nat} {st : CS} {q : SQ} (h : cnd c k st q = false) : stq c k st q = st := by
  unfold cnd at h
  unfold stq link1
  by_cases h1 : q.t = true
  · rw [if_pos h1]
    rw [h1, Bool.true_and] at h
    exact if_neg (show ¬ (match st.1 q.l with | none => true | some (c0, k0) => decide (c + q.w < c0 ∨ (c + q.w = c0 ∧ k + 1 < k0))) = true by rw [h]; decide)
  · rw [if_neg h1]
section
variable {P : Program} {w : World} {K : Fg} {mg : Str → Option Value} {base : Heap} {C CC : Addr}
theorem mt_links (T : Txt K mg) (BF : BookF K C) (F : ChF K mg CC) : MCal P w K mg base CX0 5 CC "links" ["self", "cost", "many", "mask"] (LkSp C CC) := by
  have c_steps_at := c_steps_at (P := P) (w := w) (base := base) T BF
  have mt_step_cost := mt_step_cost (P := P) (w := w) (base := base) T BF F
  refine mcal_sp F.ml sc_Cheapest_links (fun _ _ _ _ _ _ us hl => match us, hl with | [_, _, _, _], _ => rfl) (fun vs H Q E h => by obtain ⟨_, _, _, _, _, _, _, _, _, _, _, _, rfl, _⟩ := h; rfl) fun f cdv Ar outer s0 H vs Q E hr h => ?_
  obtain ⟨hu0, hu, hu64, hu65⟩ := room0 hr
  refine ⟨_, (pss_cons (ps_set (i := 4) sc_Cheapest_links.nd rfl (Or.inl rfl) (pe_lst pa_nil)) (pss_cons (ps_for PassesOwn.never rfl (pi_listK K (pe_cl c_steps_at hr pass0 (pa_cons (pe_fldK K (pv 0)) (pa_cons (pv 3) pa_nil)))) (pg_tupK K (n := 2) (pgs_cons (pg_name (i := 5) sc_Cheapest_links.nd rfl (Or.inl rfl)) (pgs_cons (pg_name (i := 6) sc_Cheapest_links.nd rfl (Or.inl rfl)) pgs_nil))) (pss_cons (ps_set (i := 7) sc_Cheapest_links.nd rfl (Or.inl rfl) (pe_tup (pa_cons (pe_op (op_addU K) (pv 1) (pe_mt mt_step_cost F.cls hr pass0 (pv 0) (pa_cons (pv 5) pa_nil))) (pa_cons (pe_op (op_addU K) (pv 2) pe_int) pa_nil)))) (pss_cons (ps_set (i := 8) sc_Cheapest_links.nd rfl (Or.inl rfl) (pe_or (pe_not (pe_fldK K (pv 0))) (pe_one (pe_cmpR (op_neK K hu64) (pe_ix (ix_seqK K) (pv 5) pe_int (fun _ _ => rfl)) pe_str (nomark _))))) (pss_one (ps_if (L2.PW.pt (pw_and (pt_truthK K (pv 8)) (pw_and1 (L2.PW.pt (pw_or (pt_cmp (pc_dnotin hu (pv 6) (pe_fldK K (pv 0)))) (pw_or1 (pt_cmpR (op_ltU K hu0) (pv 7) (pe_dget hu (pe_fldK K (pv 0)) (pv 6) (fun _ _ => rfl)) (nomark _)))))))) (pss_cons (ps_dput hu (pe_fldK K (pv 0)) (pv 6) (pv 7) rfl) (pss_cons (ps_dput hu (pe_fldK K (pv 0)) (pv 6) (pe_tup (pa_cons (pv 3) (pa_cons (pv 5) pa_nil))) rfl) (pss_one (ps_expr (pe_bm PySem.F.plainAttrs_list PySem.F.slot_list_append PySem.F.type_list_append mt_append (pv 4) (pa_cons (pe_tup (pa_starK K (pv 7) (pa_cons (pv 6) pa_nil))) pa_nil)))))) pss_nil))))) (pss_one (ps_ret (pv 4))))), ?_⟩
  obtain ⟨b, c, k, m, x, cd, md, sd, costs, cws, mws, G, rfl, ok, hm, e, hx, gcd, gmd, hne, hcd, ccd, hmd, cmd, q⟩ := h
  refine k_lstS (Step.refl e) ead_nil (by decide) fun p vs G1 H1 g1 s1 n1 hp0 k1 e1 x1 => ?_
  have hcdn : H cd ≠ none := by rw [hcd]; intro z; cases z
  have hmdn : H md ≠ none := by rw [hmd]; intro z; cases z
  have pcd : p ≠ cd := fun z => hcdn (z ▸ hp0)
  have pmd : p ≠ md := fun z => hmdn (z ▸ hp0)
  refine k_for (D := { nx := tRet (tVar 4) { nx := fun _ H' => Q .non H', rt := Q }, rt := Q }) (xs := sdl b m) (Rx := fun q => dt (.tuple [q.d, .int (q.l : Int)])) (by
      have := ei_list (K := K) (ed_call (E := E) (P := fun a : Bk × Nat => BOk a.1) (A := fun a => [bookR C a.1, dt (.int a.2)]) (B := fun a => dt (.list (stepsD a.1 a.2))) (σ := (L2.start N_Cheapest_links [.ref x, .int (c : Int), .int (k : Int), .int (m : Int)]).set 4 (some (.ref p))) (G := G1) (b, m) (ea_cons (ed_chBook F (ed_var (i := 0) (by rfl) ((chR C CC b cd md sd).mono g1 hx))) (ea_cons (ed_var (i := 3) (by rfl) (.int _)) ea_nil)) ok)
      rw [stepsD_eq, List.map_map] at this
      exact this) s1.i
    (fun j σ' G' H' => ∃ a5 a6 a7 a8, σ' = [some (.ref x), some (.int (c : Int)), some (.int (k : Int)), some (.int (m : Int)), some (.ref p), a5, a6, a7, a8] ∧ StepM (fun a => a = cd ∨ a = md) G H G' H' ∧ Ex G1 G' ∧ G' p = none ∧ G' cd = none ∧ G' md = none ∧
      (∃ vs, H' p = some (.lst vs) ∧ DxA G' vs ((((sdl b m).take j).foldl (stq c k) (costs, [])).2.map enc3)) ∧ (∃ cws', H' cd = some (.dK cws') ∧ CDG G' (((sdl b m).take j).foldl (stq c k) (costs, [])).1 cws') ∧ ∃ mws', H' md = some (.dK mws') ∧ ADG G' mws')
    (fun G2 H2 s2 => ⟨none, none, none, none, rfl, (s1.trans s2).m, s2.g, s2.s p (by rw [e1]; intro z; cases z) n1, (s1.trans s2).s cd hcdn gcd, (s1.trans s2).s md hmdn gmd, ⟨[], by rw [s2.h _ _ e1]; cases x1; rfl, .nil⟩, ⟨cws, (s1.trans s2).h _ _ hcd, ccd.mono (s1.trans s2).g⟩, mws, (s1.trans s2).h _ _ hmd, cmd.mono (s1.trans s2).g⟩)
    (fun j σ' G' H' ⟨_, _, _, _, _, s, _⟩ => s.i) ?_ ?_
  · intro G2 g2 j q0 v σ' G' H' G3 H3 hj hI g3 s3 rv
    obtain ⟨a5, a6, a7, a8, rfl, sI, gI, np, nc, nm, ⟨vs', ep, xp⟩, ⟨cws', ec, kvs, kc, mc⟩, mws', em, am⟩ := hI
    have hq := sdl_ok ok hm q0 (List.mem_of_getElem? hj)
    obtain ⟨s, rest, hd, hs, hw, ht⟩ := hq.ex
    obtain ⟨a, y, z, rfl, ea, ry, rz⟩ := dx_pair rv
    refine gt_tup2 ea H3 s3.i _ ?_
    cases Dx.int_inv rz
    rw [hd] at ry
    generalize hst : ((sdl b m).take j).foldl (stq c k) (costs, []) = st at xp mc
    have etake : ((sdl b m).take (j + 1)).foldl (stq c k) (costs, []) = stq c k st q0 := by
      rw [List.take_succ, hj, List.foldl_append, hst]; rfl
    have hx3 : ∀ {G4}, Ex G3 G4 → (chR C CC b cd md sd).r (.ref x) G4 := fun g4 => (chR C CC b cd md sd).mono (sI.g.trans (s3.g.trans g4)) hx
    refine k_asgS (R := dt (.tuple [.int ((c : Int) + (q0.w : Int)), .int ((k : Int) + 1)])) (ed_tup (ead_cons (ED.eq (ed_add (ed_var (by rfl) (.int _)) (ed_meth (b, cd, md, sd, s, rest) (ed_var (by rfl) (hx3 (Ex.refl _))) (fun v G1 ⟨x, dx, bv, h1, h2, h3⟩ => ⟨x, dx, _, h1, h2, rfl⟩) (ea_cons (ed_var (by rfl) ry) ea_nil) hs)) ?_) (ead_cons (ed_add (ed_var (by rfl) (.int _)) ed_int) ead_nil)) (by simp)) s3.i fun tv G4 H4 s4 rt => ?_
    · rw [hw]; split <;> rfl
    refine k_asgS (R := dt (.bool q0.t)) (ED.eq (ed_orV (ed_notV (ed_chBy F (ed_var (by rfl) (hx3 s4.g)))) fun _ => ed_neS (x := s) (y := "reset") (ed_ixT (ds := .str s :: rest) (ed_var (by rfl) (Dx.mono s4.g ry)) ed_int at0) ed_str hs (by decide +kernel)) (by rw [ht]; rfl)) s4.i fun iv G5 H5 s5 ri => ?_
    have s35 := (s3.trans s4).trans s5
    have np5 : G5 p = none := s35.s p (by rw [ep]; intro z; cases z) np
    have nc5 : G5 cd = none := s35.s cd (by rw [ec]; intro z; cases z) nc
    have nm5 : G5 md = none := s35.s md (by rw [em]; intro z; cases z) nm
    have ep5 := s35.h _ _ ep
    have ec5 := s35.h _ _ ec
    have em5 := s35.h _ _ em
    have gup : Ex G5 (upd G5 cd (.dK cws')) := Ex.new nc5
    have cst : ∀ {σ : L2.St}, σ[0]? = some (some (.ref x)) → ED (tFld K (tVar 0) "costs") σ (upd G5 cd (.dK cws')) (dkR kvs) := fun hσ => ed_refD (ed_chCosts F (ed_var hσ (hx3 ((s4.g.trans s5.g).trans gup)))) upd_same (kc.mono (s35.g.trans gup))
    refine k_if (D := { nx := _, rt := Q, ct := _, bk := _ }) (b := cnd c k st q0) (ET.eq (et_and (et_tb (ed_var (by rfl) (Dx.mono gup ri))) fun _ => et_or (b := match st.1 q0.l with | none => false | some (c0, k0) => decide (c + q0.w < c0 ∨ (c + q0.w = c0 ∧ k + 1 < k0))) (et_B (ed_dnin (ky := .inl (q0.l : Int)) (ed_var (by rfl) (.int _)) (cst (by rfl)))) fun hz => ?_) ?_) (ex_while s5.i ec5) (fun hb G6 H6 s6 => ?_) fun hb G6 H6 s6 => ?_
    · rw [mc.lk] at hz
      cases h1 : st.1 q0.l with
      | none => rw [h1] at hz; cases hz
      | some cv =>
        obtain ⟨c0, k0⟩ := cv
        refine ET.eq (et_test (ed_ltT (ns := [(c : Int) + (q0.w : Int), (k : Int) + 1]) (ms := [(c0 : Int), (k0 : Int)]) (ed_var (by rfl) (Dx.mono (s5.g.trans gup) rt)) (ed_dget (k := .inl (q0.l : Int)) (cst (by rfl)) (ed_var (by rfl) (.int _)) (by rw [mc.lk, h1]; rfl)))) ?_
        have := lex2 (c + q0.w) (k + 1) c0 k0
        rw [show ((c : Int) + (q0.w : Int)) = ((c + q0.w : Nat) : Int) from by simp, show ((k : Int) + 1) = ((k + 1 : Nat) : Int) from by simp]
        exact this
    · unfold cnd
      rw [mc.lk]
      cases h1 : st.1 q0.l with
      | none => simp
      | some cv => simp
    · have s6' := s6.forget nc5
      have g56 := s6'.g
      have s36 := s35.trans s6'
      refine k_putS (ky := .inl (q0.l : Int)) (Rv := dt (.tuple [.int ((c : Int) + (q0.w : Int)), .int ((k : Int) + 1)])) s6'.i (s6'.h _ _ ec5) wo_same (by rw [kc.length]; exact sz_lt (by have := mc.len; omega)) (ed_var (by rfl) (Dx.mono (s5.g.trans g56) rt)) (ed_chCosts F (ed_var (by rfl) (hx3 ((s4.g.trans s5.g).trans g56)))) (ed_var (by rfl) (.int _)) fun tv' G7 H7 s7 n7 ec7 rt7 => ?_
      have nm6 := s6'.s md (by rw [em5]; intro z; cases z) nm5
      have np6 := s6'.s p (by rw [ep5]; intro z; cases z) np5
      have em7 : H7 md = some (.dK mws') := s7.h _ _ (fun z => hne z.symm) (s6'.h _ _ em5)
      have ep7 : H7 p = some (.lst vs') := s7.h _ _ pcd (s6'.h _ _ ep5)
      have nm7 := s7.s md (by rw [s6'.h _ _ em5]; intro z; cases z) nm6
      have np7 := s7.s p (by rw [s6'.h _ _ ep5]; intro z; cases z) np6
      have g37 := s36.g.trans s7.g
      obtain ⟨f0, kv0, kd0, md0⟩ := am
      refine k_putS (ky := .inl (q0.l : Int)) (Rv := dt (.tuple [.int (m : Int), .tuple (.str s :: rest)])) s7.i em7 nm7 (by rw [kd0.length]; exact sz_lt (by have := md0.len; omega)) (ed_tup (ead_cons (ed_var (by rfl) (.int _)) (ead_cons (ed_var (by rfl) (Dx.mono ((s4.g.trans s5.g).trans (g56.trans s7.g)) ry)) ead_nil)) (by simp)) (ed_chCame F (ed_var (by rfl) (hx3 ((s4.g.trans s5.g).trans (g56.trans s7.g))))) (ed_var (by rfl) (.int _)) fun mv G8 H8 s8 n8 em8 rm8 => ?_
      have ec8 : H8 cd = _ := s8.h _ _ hne ec7
      have ep8 : H8 p = some (.lst vs') := s8.h _ _ pmd ep7
      have nc8 := s8.s cd (by rw [ec7]; intro z; cases z) n7
      have np8 := s8.s p (by rw [ep7]; intro z; cases z) np7
      have hlen : (st.2).length ≤ 11 := by
        have h1 := stq_len c k ((sdl b m).take j) (costs, [])
        rw [hst] at h1
        have h2 : ((sdl b m).take j).length ≤ (sdl b m).length := by simp; omega
        have h3 := sdl_len ok m
        simp at h1; omega
      refine k_appM (Rv := dt (enc3 (c + q0.w, k + 1, q0.l))) s8.i (by rfl) ep8 np8 (by rw [xp.length, List.length_map]; exact sz_lt (by omega)) (ED.eq (ed_tup (ead_star (es := [.int ((c : Int) + (q0.w : Int)), .int ((k : Int) + 1)]) (ed_var (by rfl) (Dx.mono ((s5.g.trans g56).trans (s7.g.trans s8.g)) rt)) (ead_cons (ed_var (by rfl) (.int (q0.l : Int))) ead_nil)) (by simp)) ?_) fun y9 G9 H9 s9 n9 ep9 ry9 => ?_
      · simp [enc3]
      have st9 : StepM (fun a => a = cd ∨ a = md) G H G9 H9 := (((sI.step s36).thenW s7 fun a h => .inl (.inl h)).thenW s8 fun a h => .inl (.inr h)).thenW s9 fun a h => .inr (by rw [h]; exact hp0)
      have g89 := s8.g.trans s9.g
      refine ⟨G9, g3.trans (g37.trans g89), _, _, _, _, rfl, st9, gI.trans (g37.trans g89), n9, s9.s cd (by rw [ec8]; intro z; cases z) nc8, s9.s md (by rw [em8]; intro z; cases z) n8, ?_, ?_, ?_⟩
      · refine ⟨_, ep9, ?_⟩
        rw [etake, stq_pos hb, List.map_append]
        exact (xp.mono (g37.trans g89)).append (.cons ry9 .nil)
      · refine ⟨_, s9.h _ _ (fun z => pcd z.symm) ec8, putG kvs (.inl (q0.l : Int)) (enc2 (c + q0.w, k + 1)), ?_, ?_⟩
        · exact KDx.put (kc.mono (g37.trans g89)) (Dx.mono g89 (by rw [show enc2 (c + q0.w, k + 1) = .tuple [.int ((c : Int) + (q0.w : Int)), .int ((k : Int) + 1)] from by simp [enc2]]; exact rt7))
        · rw [etake, stq_pos hb]
          exact mc.put hq.lt
      · exact ⟨_, s9.h _ _ (fun z => pmd z.symm) em8, _, _, KDx.put (kd0.mono (g37.trans g89)) (Dx.mono s9.g rm8), md0.put (v := .tuple [.int (m : Int), .tuple (.str s :: rest)]) hq.lt⟩
    · have s6' := s6.forget nc5
      have s36 := s35.trans s6'
      refine ⟨wo G6 cd, g3.trans s36.g, _, _, _, _, rfl, sI.step s36, gI.trans s36.g, s6'.s p (by rw [ep5]; intro z; cases z) np5, wo_same, s6'.s md (by rw [em5]; intro z; cases z) nm5, ?_, ?_, ?_⟩
      · rw [etake, stq_neg hb]
        exact ⟨vs', s6'.h _ _ ep5, xp.mono s36.g⟩
      · rw [etake, stq_neg hb]
        exact ⟨cws', s6'.h _ _ ec5, kvs, kc.mono s36.g, mc⟩
      · exact ⟨mws', s6'.h _ _ em5, am.mono s36.g⟩
  · rintro σ' G' H' ⟨a5, a6, a7, a8, rfl, sI, gI, np, nc, nm, ⟨vs', ep, xp⟩, ⟨cws', ec, cc⟩, mws', em, am⟩ _
    rw [List.take_length] at xp cc
    have eall : (sdl b m).foldl (stq c k) (costs, []) = linkAll c k (nbs b m) costs := stq_all c k _ _
    rw [eall] at xp cc
    have sp := sI.pub hp0 np ep
    have gp : Ex G' (upd G' p (.lst vs')) := Ex.new np
    refine k_ret (R := dt (.list ((linkAll c k (nbs b m) costs).2.map enc3))) (ed_var (by rfl) (.lst upd_same (xp.mono gp))) sp.i fun v G2 H2 s2 r => ?_
    exact q v G2 H2 cws' mws' (sp.step s2) (s2.h _ _ ec) (cc.mono (gp.trans s2.g)) (s2.h _ _ em) (am.mono (gp.trans s2.g)) r
end
end RT
end
section
/-! M4: binary heaps in a list: sifting. Core Lean alone. -/
namespace RT
section
variable {α : Type} (lt : α → α → Bool)
/-- no item is less than the one above it -/
def HeapL (zs : List α) : Prop := ∀ i x p, 0 < i → zs[i]? = some x → zs[(i - 1) / 2]? = some p → lt x p = false
/-- a heap but for the item at pos against the one above it -/
structure UpI (pos : Nat) (zs : List α) : Prop where
  ok : ∀ i x p, 0 < i → i ≠ pos → zs[i]? = some x → zs[(i - 1) / 2]? = some p → lt x p = false
  up : ∀ j x p, 0 < j → (j - 1) / 2 = pos → 0 < pos → zs[j]? = some x → zs[(pos - 1) / 2]? = some p → lt x p = false
/-- a heap but for the item at pos, whatever it is -/
structure DownI (pos : Nat) (zs : List α) : Prop where
  ok : ∀ i x p, 0 < i → i ≠ pos → (i - 1) / 2 ≠ pos → zs[i]? = some x → zs[(i - 1) / 2]? = some p → lt x p = false
  up : ∀ j x p, 0 < j → (j - 1) / 2 = pos → 0 < pos → zs[j]? = some x → zs[(pos - 1) / 2]? = some p → lt x p = false
variable {lt}
def swapL (zs : List α) (i j : Nat) (x y : α) : List α := (zs.set i y).set j x
theorem swap_get {zs : List α} {i j : Nat} {x y : α} (hi : zs[i]? = some x) (hj : zs[j]? = some y) (k : Nat) : (swapL zs i j x y)[k]? = if k = j then some x else if k = i then some y else zs[k]? := by
  have li : i < zs.length := (List.getElem?_eq_some_iff.mp hi).1
  have lj : j < zs.length := (List.getElem?_eq_some_iff.mp hj).1
  unfold swapL
  by_cases h1 : k = j
  · subst h1; rw [if_pos rfl, List.getElem?_set_self (by simpa using lj)]
  · rw [if_neg h1, List.getElem?_set_ne (Ne.symm h1)]
    by_cases h2 : k = i
    · subst h2; rw [if_pos rfl, List.getElem?_set_self li]
    · rw [if_neg h2, List.getElem?_set_ne (Ne.symm h2)]
theorem set_perm {zs : List α} {i : Nat} {x y : α} (hi : zs[i]? = some x) : (x :: zs.set i y).Perm (y :: zs) := by
  induction zs generalizing i with
  | nil => simp at hi
  | cons z zs ih =>
    cases i with
    | zero => simp at hi; subst hi; exact List.Perm.swap _ _ _
    | succ i =>
      have := ih (i := i) (by simpa using hi)
      show (x :: z :: zs.set i y).Perm (y :: z :: zs)
      exact (List.Perm.swap _ _ _).trans (((this.cons z).trans (List.Perm.swap _ _ _)))
theorem swap_perm {zs : List α} {i j : Nat} {x y : α} (hi : zs[i]? = some x) (hj : zs[j]? = some y) : (swapL zs i j x y).Perm zs := by
  unfold swapL
  have h1 := set_perm (y := y) hi
  by_cases e : i = j
  · subst e
    rw [hi] at hj; cases hj
    have li : i < zs.length := (List.getElem?_eq_some_iff.mp hi).1
    rw [List.set_set]
    have : zs.set i x = zs := List.ext_getElem? fun k => by
      by_cases h : k = i
      · subst h; rw [List.getElem?_set_self li, hi]
      · rw [List.getElem?_set_ne (Ne.symm h)]
    rw [this]
  · have hj' : (zs.set i y)[j]? = some y := by rw [List.getElem?_set_ne e, hj]
    have h2 := set_perm (y := x) hj'
    exact (List.perm_cons y).mp (h2.trans h1)
theorem swap_length {zs : List α} {i j : Nat} {x y : α} : (swapL zs i j x y).length = zs.length := by simp [swapL]
theorem UpI.stop {pos : Nat} {zs : List α} {x p : α} (h : UpI lt pos zs) (hx : zs[pos]? = some x) (hp : zs[(pos - 1) / 2]? = some p) (hl : lt x p = false) : HeapL lt zs := fun i y q hi e1 e2 => by
  by_cases e : i = pos
  · subst e; rw [hx] at e1; rw [hp] at e2; cases e1; cases e2; exact hl
  · exact h.ok i y q hi e e1 e2
theorem UpI.top {zs : List α} (h : UpI lt 0 zs) : HeapL lt zs := fun i y q hi e1 e2 => h.ok i y q hi (by omega) e1 e2
theorem UpI.step {pos : Nat} {zs : List α} {x p : α} (htr : ∀ x y z, lt y x = false → lt z y = false → lt z x = false) (has : ∀ x y, lt x y = true → lt y x = false) (h : UpI lt pos zs) (h0 : 0 < pos) (hx : zs[pos]? = some x) (hp : zs[(pos - 1) / 2]? = some p) (hl : lt x p = true) :
    UpI lt ((pos - 1) / 2) (swapL zs ((pos - 1) / 2) pos p x) := by
  have hg := swap_get hp hx
  have hlt : (pos - 1) / 2 < pos := by omega
  refine ⟨fun i y q hi hne e1 e2 => ?_, fun j y q hj hpj hq e1 e2 => ?_⟩
  · rw [hg] at e1 e2
    by_cases c1 : i = pos
    · -- what stands at pos is the old parent, above it the old x
      subst c1
      rw [if_pos rfl] at e1; cases e1
      rw [if_neg (by omega), if_pos rfl] at e2; cases e2
      exact has _ _ hl
    · rw [if_neg c1, if_neg hne] at e1
      by_cases c2 : (i - 1) / 2 = pos
      · rw [if_pos c2] at e2; cases e2
        exact h.up i y _ hi c2 h0 e1 hp
      · rw [if_neg c2] at e2
        by_cases c3 : (i - 1) / 2 = (pos - 1) / 2
        · rw [if_pos c3] at e2; cases e2
          have h1 := h.ok i y p hi c1 e1 (by rw [c3]; exact hp)
          exact htr _ _ _ (has _ _ hl) h1
        · rw [if_neg c3] at e2
          exact h.ok i y q hi c1 e1 e2
  · rw [hg] at e1 e2
    have hpp : ((pos - 1) / 2 - 1) / 2 ≠ pos := by omega
    have hpp2 : ((pos - 1) / 2 - 1) / 2 ≠ (pos - 1) / 2 := by omega
    rw [if_neg hpp, if_neg hpp2] at e2
    have h2 := h.ok ((pos - 1) / 2) p q hq (by omega) hp e2
    by_cases c1 : j = pos
    · subst c1
      rw [if_pos rfl] at e1; cases e1
      exact h2
    · rw [if_neg c1, if_neg (by omega)] at e1
      have h1 := h.ok j y p hj c1 e1 (by rw [hpj]; exact hp)
      exact htr _ _ _ h2 h1
theorem HeapL.push {zs : List α} {x : α} (h : HeapL lt zs) : UpI lt zs.length (zs ++ [x]) := by
  refine ⟨fun i y q hi hne e1 e2 => ?_, fun j y q hj hpj h0 e1 e2 => ?_⟩
  · have l : i < (zs ++ [x]).length := (List.getElem?_eq_some_iff.mp e1).1
    simp at l
    rw [List.getElem?_append_left (by omega)] at e1 e2
    exact h i y q hi e1 e2
  · have l : j < (zs ++ [x]).length := (List.getElem?_eq_some_iff.mp e1).1
    simp at l
    omega
theorem HeapL.start {zs : List α} {x : α} (h : HeapL lt zs) : DownI lt 0 (zs.dropLast.set 0 x) := by
  refine ⟨fun i y q hi hne hpn e1 e2 => ?_, fun j y q hj hpj h0 e1 e2 => absurd h0 (Nat.lt_irrefl 0)⟩
  rw [List.getElem?_set_ne (by omega)] at e1 e2
  have l : i < zs.dropLast.length := (List.getElem?_eq_some_iff.mp e1).1
  simp at l
  rw [List.getElem?_dropLast, if_pos (by omega)] at e1 e2
  exact h i y q hi e1 e2
theorem DownI.leaf {pos : Nat} {zs : List α} (h : DownI lt pos zs) (hl : zs.length ≤ 2 * pos + 1) : UpI lt pos zs := by
  refine ⟨fun i y q hi hne e1 e2 => h.ok i y q hi hne ?_ e1 e2, h.up⟩
  have l : i < zs.length := (List.getElem?_eq_some_iff.mp e1).1
  omega
/-- the lesser child c goes up, the item goes down -/
theorem DownI.step {pos c : Nat} {zs : List α} {x y : α} (h : DownI lt pos zs) (hc : 0 < c ∧ (c - 1) / 2 = pos) (hx : zs[pos]? = some x) (hy : zs[c]? = some y) (hmin : ∀ d z, 0 < d → (d - 1) / 2 = pos → d ≠ c → zs[d]? = some z → lt z y = false) :
    DownI lt c (swapL zs c pos y x) := by
  obtain ⟨c0, cp⟩ := hc
  have hg := swap_get hy hx
  refine ⟨fun i u q hi hne hpn e1 e2 => ?_, fun j u q hj hpj h0 e1 e2 => ?_⟩
  · rw [hg] at e1 e2
    by_cases c1 : i = pos
    · subst c1
      rw [if_pos rfl] at e1; cases e1
      rw [if_neg (by omega), if_neg hpn] at e2
      exact h.up c _ q c0 cp hi hy e2
    · rw [if_neg c1, if_neg hne] at e1
      by_cases c2 : (i - 1) / 2 = pos
      · rw [if_pos c2] at e2; cases e2
        exact hmin i u hi c2 hne e1
      · rw [if_neg c2, if_neg hpn] at e2
        exact h.ok i u q hi c1 c2 e1 e2
  · rw [hg] at e1 e2
    rw [cp, if_pos rfl] at e2; cases e2
    rw [if_neg (by omega), if_neg (by omega)] at e1
    exact h.ok j u _ hj (by omega) (by omega) e1 (by rw [hpj]; exact hy)
/-- the top is the least -/
theorem HeapL.least {zs : List α} {x : α} (htr : ∀ x y z, lt y x = false → lt z y = false → lt z x = false) (hrf : ∀ x, lt x x = false) (h : HeapL lt zs) (h0 : zs[0]? = some x) : ∀ (i : Nat) y, zs[i]? = some y → lt y x = false := by
  intro i
  induction i using Nat.strongRecOn with
  | ind i ih =>
    intro y hy
    by_cases e : i = 0
    · subst e; rw [h0] at hy; cases hy; exact hrf _
    · have l : i < zs.length := (List.getElem?_eq_some_iff.mp hy).1
      have lp : (i - 1) / 2 < zs.length := by omega
      have hp : zs[(i - 1) / 2]? = some zs[(i - 1) / 2] := List.getElem?_eq_getElem lp
      exact htr _ _ _ (ih ((i - 1) / 2) (by omega) _ hp) (h i y _ (by omega) hy hp)
end
end RT
end
section
set_option maxRecDepth 100000
set_option maxHeartbeats 2000000
namespace RT
open PySem
theorem plain_sift : plainId "_heapq.heapify.sift" = true := by decide +kernel
theorem plain_push : plainId "_heapq.heappush" = true := by decide +kernel
theorem plain_pop : plainId "_heapq.heappop" = true := by decide +kernel
theorem entry_sift : entryFor table "_heapq.heapify.sift" = some Builtin.«_heapq.heapify.sift» := entryFor_of_tree (by kernel_rfl)
theorem entry_push : entryFor table "_heapq.heappush" = some Builtin.«_heapq.heappush» := entryFor_of_tree (by kernel_rfl)
theorem entry_pop : entryFor table "_heapq.heappop" = some Builtin.«_heapq.heappop» := entryFor_of_tree (by kernel_rfl)
theorem args_push (a b : Value) : argsOk "_heapq.heappush" ⟨[a, b], []⟩ := by unfold argsOk; kernel_rfl
theorem args_pop (a : Value) : argsOk "_heapq.heappop" ⟨[a], []⟩ := by unfold argsOk; kernel_rfl
theorem kind_push : builtinKind "_heapq.heappush" = none := by first | decide +kernel | kernel_rfl
theorem kind_pop : builtinKind "_heapq.heappop" = none := by first | decide +kernel | kernel_rfl
/-- the items are compared by their keys, whatever the list at a holds -/
def CmpOk (prog : Program) (w : World) (A : Around) (h0 : Heap) (a : Addr) (its : List Value) (lt : Value → Value → Bool) : Prop :=
  ∀ (s : Shared), Heap.SameBut a h0 s.heap → ∀ x ∈ its, ∀ y ∈ its, ∀ Q E, Q (.bool (lt x y)) s → wpAny (model prog w) A (richCompare .Lt x y) Q E s
theorem CmpOk.next {prog : Program} {w : World} {A : Around} {h0 h1 : Heap} {a : Addr} {its its' : List Value} {lt : Value → Value → Bool} (h : CmpOk prog w A h0 a its lt) (hs : Heap.SameBut a h0 h1) (hm : ∀ x ∈ its', x ∈ its) : CmpOk prog w A h1 a its' lt :=
  fun s e x hx y hy Q E q => h s (hs.trans e) x (hm x hx) y (hm y hy) Q E q
abbrev Swp (its : List Value) (i j : Nat) (x y : Value) : Array Value → Array Value := fun xs => (xs.setIfInBounds i y).setIfInBounds j x
theorem swp_at {h : Heap} {a : Addr} {its : List Value} {n i j : Nat} {x y : Value} (hl : IsL h a its.toArray n) : ∃ n', IsL (h.update a (Obj.mapSeq fun xs => (xs.setIfInBounds i y).setIfInBounds j x)) a (swapL its i j x y).toArray n' := by
  have q := IsL.update hl fun xs => (xs.setIfInBounds i y).setIfInBounds j x
  have e : (its.toArray.setIfInBounds i y).setIfInBounds j x = (swapL its i j x y).toArray := by simp [swapL]
  exact ⟨_, by rw [← e]; exact q⟩
def siftA (a : Addr) (down : Bool) (pos : Nat) (result : Value) : Args := ⟨[.ref a, .bool false, .bool down, rawInt pos, rawInt 0, result, rawInt (-1)], []⟩
/-- the list at a, sifted -/
def Sifted (R : Result → Shared → Prop) (s : Shared) (a : Addr) (its : List Value) (lt : Value → Value → Bool) (result : Value) : Prop :=
  ∀ h' its' n', Heap.SameBut a s.heap h' → IsL h' a its'.toArray n' → its'.Perm its → HeapL lt its' → R (.ok (.ret result)) { s with heap := h' }
theorem Sifted.next {R : Result → Shared → Prop} {s : Shared} {a : Addr} {its its2 : List Value} {lt : Value → Value → Bool} {result : Value} {h2 : Heap} (h : Sifted R s a its lt result) (hs : Heap.SameBut a s.heap h2) (hp : its2.Perm its) : Sifted R { s with heap := h2 } a its2 lt result :=
  fun h' its' n' e1 e2 e3 e4 => h h' its' n' (hs.trans e1) e2 (e3.trans hp) e4
theorem sift_up (a : Addr) (result : Value) (lt : Value → Value → Bool) (htr : ∀ x y z, lt y x = false → lt z y = false → lt z x = false) (has : ∀ x y, lt x y = true → lt y x = false) : ∀ (pos : Nat) (its : List Value) (n : Nat), pos < its.length → its.length ≤ sizeLine → UpI lt pos its →
    Meets (Builtin.«_heapq.heapify.sift» (siftA a false pos result)) (fun A R s => IsL s.heap a its.toArray n ∧ (∀ prog w, CmpOk prog w A.in1 s.heap a its lt) ∧ Sifted R s a its lt result) := by
  intro pos
  induction pos using Nat.strongRecOn with
  | ind pos ih =>
    intro its n hpos hsz hU prog w A R s hpre
    obtain ⟨hp, g, d, tk, os⟩ := s
    obtain ⟨hl, hc, hq⟩ := hpre
    dsimp only at hl hc
    unfold siftA
    wp_walk
    have ep : ((pos : Nat) : Int).toNat = pos := Int.toNat_natCast pos
    rw [ep]
    rcases Nat.eq_zero_or_pos pos with h0 | h0
    · subst h0
      refine wpAny_ite_false (by simp) ?_
      wp_walk
      exact hq hp its n (.refl _ _) hl (.refl _) hU.top
    · refine wpAny_ite_true (by simpa using h0) ?_
      have lp : (pos - 1) / 2 < its.length := by omega
      have hx : its[pos]? = some its[pos] := List.getElem?_eq_getElem hpos
      have hp' : its[(pos - 1) / 2]? = some its[(pos - 1) / 2] := List.getElem?_eq_getElem lp
      have hxa : its.toArray[pos]? = some its[pos] := by simpa using hx
      have hpa : its.toArray[(pos - 1) / 2]? = some its[(pos - 1) / 2] := by simpa using hp'
      have mx : its[pos] ∈ its := List.getElem_mem hpos
      have mp : its[(pos - 1) / 2] ∈ its := List.getElem_mem lp
      generalize its[pos] = x at *
      generalize its[(pos - 1) / 2] = p at *
      have hcx := hc prog w ⟨hp, g, d, tk, os⟩ (.refl _ _) x mx p mp
      wp_walk
      rw [hxa]
      wp_walk
      rw [hpa]
      wp_walk using hcx
      cases hlx : lt x p with
      | false =>
        wp_walk
        exact hq hp its n (.refl _ _) hl (.refl _) (hU.stop hx hp' hlx)
      | true =>
        wp_walk
        rw [hpa]
        wp_walk
        rw [hxa]
        have z1 : its.toArray.size ≤ sizeLine := by simpa using hsz
        have z2 : ((its.toArray.setIfInBounds ((pos - 1) / 2) x).setIfInBounds pos p).size ≤ sizeLine + 1 := by simp; omega
        wp_walk using (fun Q h => wpAny_updateSeq (Q := Q) hl rfl h z1 z2)
        obtain ⟨n', hl'⟩ := swp_at (i := (pos - 1) / 2) (j := pos) (x := p) (y := x) hl
        have hsb := Heap.SameBut.update hp a (Obj.mapSeq fun xs => (xs.setIfInBounds ((pos - 1) / 2) x).setIfInBounds pos p)
        have hpm := swap_perm hp' hx
        exact ⟨plainId_quiet plain_sift _, codeAny_builtin entry_sift (by
          rw [Around.under_plainId plain_sift _]
          exact ih ((pos - 1) / 2) (by omega) (swapL its ((pos - 1) / 2) pos p x) n' (by rw [swap_length]; exact lp) (by rw [swap_length]; exact hsz) (hU.step htr has h0 hx hp' hlx) prog w A R _
            ⟨hl', fun prog w => (hc prog w).next hsb fun y hy => hpm.mem_iff.mp hy, hq.next hsb hpm⟩)⟩
theorem sift_down (a : Addr) (result : Value) (lt : Value → Value → Bool) (htr : ∀ x y z, lt y x = false → lt z y = false → lt z x = false) (has : ∀ x y, lt x y = true → lt y x = false) : ∀ (k pos : Nat) (its : List Value) (n : Nat), its.length - pos = k → pos < its.length → its.length ≤ sizeLine → DownI lt pos its →
    Meets (Builtin.«_heapq.heapify.sift» (siftA a true pos result)) (fun A R s => IsL s.heap a its.toArray n ∧ (∀ prog w, CmpOk prog w A.in1 s.heap a its lt) ∧ Sifted R s a its lt result) := by
  intro k
  induction k using Nat.strongRecOn with
  | ind k ih =>
    intro pos its n hk hpos hsz hD prog w A R s hpre
    obtain ⟨hp, g, d, tk, os⟩ := s
    obtain ⟨hl, hc, hq⟩ := hpre
    dsimp only at hl hc
    have z1 : its.toArray.size ≤ sizeLine := by simpa using hsz
    have es : its.toArray.size = its.length := by simp
    have hx : its[pos]? = some its[pos] := List.getElem?_eq_getElem hpos
    have hxa : its.toArray[pos]? = some its[pos] := by simpa using hx
    generalize hxe : its[pos] = x at *
    -- one swap with the child c
    have turn : ∀ (c : Nat) (y : Value), 0 < c ∧ (c - 1) / 2 = pos → its[c]? = some y → (∀ d z, 0 < d → (d - 1) / 2 = pos → d ≠ c → its[d]? = some z → lt z y = false) →
        (Code.builtin "_heapq.heapify.sift" ⟨[.ref a, .bool false, .bool true, rawInt c, rawInt ((0 : Int).toNat : Nat), result, rawInt (-1)], []⟩).quiet = true ∧ codeAny (model prog w) A (Code.builtin "_heapq.heapify.sift" ⟨[.ref a, .bool false, .bool true, rawInt c, rawInt ((0 : Int).toNat : Nat), result, rawInt (-1)], []⟩) R
          ⟨hp.update a (Obj.mapSeq fun xs => (xs.setIfInBounds c x).setIfInBounds pos y), g, d, tk, os⟩ := by
      intro c y hcp hy hmin
      have hcl : c < its.length := (List.getElem?_eq_some_iff.mp hy).1
      obtain ⟨n', hl'⟩ := swp_at (i := c) (j := pos) (x := y) (y := x) hl
      have hsb := Heap.SameBut.update hp a (Obj.mapSeq fun xs => (xs.setIfInBounds c x).setIfInBounds pos y)
      have hpm := swap_perm hy hx
      exact ⟨plainId_quiet plain_sift _, codeAny_builtin entry_sift (by
        rw [Around.under_plainId plain_sift _]
        exact ih (its.length - c) (by omega) c (swapL its c pos y x) n' (by rw [swap_length]) (by rw [swap_length]; exact hcl) (by rw [swap_length]; exact hsz) (hD.step hcp hx hy hmin) prog w A R _
          ⟨hl', fun prog w => (hc prog w).next hsb fun y hy => hpm.mem_iff.mp hy, hq.next hsb hpm⟩)⟩
    unfold siftA
    wp_walk
    have ep : ((pos : Nat) : Int).toNat = pos := Int.toNat_natCast pos
    rw [ep, es]
    by_cases hlt : pos < its.length / 2
    · refine wpAny_ite_true (by simpa using hlt) ?_
      have hc1 : 2 * pos + 1 < its.length := by omega
      have hl1 : its[2 * pos + 1]? = some its[2 * pos + 1] := List.getElem?_eq_getElem hc1
      have hl1a : its.toArray[2 * pos + 1]? = some its[2 * pos + 1] := by simpa using hl1
      have m1 : its[2 * pos + 1] ∈ its := List.getElem_mem hc1
      generalize its[2 * pos + 1] = u at *
      by_cases hr : 2 * pos + 1 + 1 < its.length
      · have hl2 : its[2 * pos + 1 + 1]? = some its[2 * pos + 1 + 1] := List.getElem?_eq_getElem hr
        have hl2a : its.toArray[2 * pos + 1 + 1]? = some its[2 * pos + 1 + 1] := by simpa using hl2
        have m2 : its[2 * pos + 1 + 1] ∈ its := List.getElem_mem hr
        generalize its[2 * pos + 1 + 1] = v at *
        have hcx := hc prog w ⟨hp, g, d, tk, os⟩ (.refl _ _) u m1 v m2
        wp_walk
        rw [hl1a]
        wp_walk
        rw [hl2a]
        wp_walk using hcx
        cases huv : lt u v with
        | false =>
          wp_walk
          rw [hl2a]
          wp_walk
          rw [hxa]
          have z2 : ((its.toArray.setIfInBounds (2 * pos + 1 + 1) x).setIfInBounds pos v).size ≤ sizeLine + 1 := by simp; omega
          wp_walk using (fun Q h => wpAny_updateSeq (Q := Q) hl rfl h z1 z2)
          refine turn (2 * pos + 1 + 1) v (by omega) hl2 fun d z h0 h1 h2 h3 => ?_
          have : d = 2 * pos + 1 := by omega
          subst this
          rw [hl1] at h3; cases h3
          exact huv
        | true =>
          wp_walk
          rw [hl1a]
          wp_walk
          rw [hxa]
          have z2 : ((its.toArray.setIfInBounds (2 * pos + 1) x).setIfInBounds pos u).size ≤ sizeLine + 1 := by simp; omega
          wp_walk using (fun Q h => wpAny_updateSeq (Q := Q) hl rfl h z1 z2)
          refine turn (2 * pos + 1) u (by omega) hl1 fun d z h0 h1 h2 h3 => ?_
          have : d = 2 * pos + 1 + 1 := by omega
          subst this
          rw [hl2] at h3; cases h3
          exact has _ _ huv
      · wp_walk
        rw [hl1a]
        wp_walk
        rw [hxa]
        have z2 : ((its.toArray.setIfInBounds (2 * pos + 1) x).setIfInBounds pos u).size ≤ sizeLine + 1 := by simp; omega
        wp_walk using (fun Q h => wpAny_updateSeq (Q := Q) hl rfl h z1 z2)
        refine turn (2 * pos + 1) u (by omega) hl1 fun d z h0 h1 h2 h3 => ?_
        have : d < its.length := (List.getElem?_eq_some_iff.mp h3).1
        omega
    · refine wpAny_ite_false (by simpa using hlt) ?_
      wp_walk
      exact ⟨plainId_quiet plain_sift _, codeAny_builtin entry_sift (by
        rw [Around.under_plainId plain_sift _]
        exact sift_up a result lt htr has pos its n hpos hsz (hD.leaf (by omega)) prog w A R _ ⟨hl, hc, hq⟩)⟩
theorem push_meets (a : Addr) (x : Value) (lt : Value → Value → Bool) (htr : ∀ x y z, lt y x = false → lt z y = false → lt z x = false) (has : ∀ x y, lt x y = true → lt y x = false) (its : List Value) (n : Nat) (hsz : its.length < sizeLine) (hH : HeapL lt its) :
    Meets (Builtin.«_heapq.heappush» ⟨[.ref a, x], []⟩) (fun A R s => IsL s.heap a its.toArray n ∧ (∀ prog w, CmpOk prog w A.in1 s.heap a (its ++ [x]) lt) ∧ Sifted R s a (its ++ [x]) lt .none) := by
  intro prog w A R s hpre
  obtain ⟨hp, g, d, tk, os⟩ := s
  obtain ⟨hl, hc, hq⟩ := hpre
  dsimp only at hl hc
  have hT : Shared.TypeIs ⟨hp, g, d, tk, os⟩ (.ref a) "list" := ⟨_, hl, rfl⟩
  have hsub : isSubtype (.type "list") (.type "list") = pure true := by first | rfl | kernel_rfl | (rw [isSubtype_type]; kernel_rfl)
  have z1 : its.toArray.size ≤ sizeLine := by simp; omega
  have z2 : (its.toArray.push x).size ≤ sizeLine + 1 := by simp; omega
  have q := IsL.update hl (·.push x)
  have e : its.toArray.push x = (its ++ [x]).toArray := by simp
  rw [e] at q
  wp_walk using (fun Q h => wpAny_updateSeq (Q := Q) hl rfl h z1 z2)
  have hsb := Heap.SameBut.update hp a (Obj.mapSeq (·.push x))
  have e1 : (its ++ [x]).toArray.size - 1 = its.length := by simp
  rw [e1]
  exact ⟨plainId_quiet plain_sift _, codeAny_builtin entry_sift (by
    rw [Around.under_plainId plain_sift _]
    exact sift_up a .none lt htr has its.length (its ++ [x]) _ (by simp) (by simp; omega) hH.push prog w A R _ ⟨q, fun prog w => (hc prog w).next hsb fun y hy => hy, hq.next hsb (.refl _)⟩)⟩
/-- the least is taken out -/
def Popped (R : Result → Shared → Prop) (s : Shared) (a : Addr) (its : List Value) (lt : Value → Value → Bool) (x : Value) : Prop :=
  ∀ h' its' n', Heap.SameBut a s.heap h' → IsL h' a its'.toArray n' → (x :: its').Perm its → HeapL lt its' → R (.ok (.ret x)) { s with heap := h' }
theorem pop_meets (a : Addr) (x : Value) (lt : Value → Value → Bool) (htr : ∀ x y z, lt y x = false → lt z y = false → lt z x = false) (has : ∀ x y, lt x y = true → lt y x = false) (its : List Value) (n : Nat) (hsz : its.length ≤ sizeLine) (h0 : its[0]? = some x) (hH : HeapL lt its) :
    Meets (Builtin.«_heapq.heappop» ⟨[.ref a], []⟩) (fun A R s => IsL s.heap a its.toArray n ∧ (∀ prog w, CmpOk prog w A.in1 s.heap a its lt) ∧ Popped R s a its lt x) := by
  intro prog w A R s hpre
  obtain ⟨hp, g, d, tk, os⟩ := s
  obtain ⟨hl, hc, hq⟩ := hpre
  dsimp only at hl hc
  have hT : Shared.TypeIs ⟨hp, g, d, tk, os⟩ (.ref a) "list" := ⟨_, hl, rfl⟩
  have hsub : isSubtype (.type "list") (.type "list") = pure true := by first | rfl | kernel_rfl | (rw [isSubtype_type]; kernel_rfl)
  have hlen : 0 < its.length := (List.getElem?_eq_some_iff.mp h0).1
  have z1 : its.toArray.size ≤ sizeLine := by simpa using hsz
  have z2 : its.toArray.pop.size ≤ sizeLine + 1 := by simp; omega
  have es : its.toArray.size = its.length := by simp
  have hback : its.toArray.back? = some (its[its.length - 1]'(by omega)) := by simp [List.getLast?_eq_getElem?]
  have hlast : its[its.length - 1]? = some (its[its.length - 1]'(by omega)) := List.getElem?_eq_getElem (by omega)
  have hdl : its.dropLast ++ [its[its.length - 1]'(by omega)] = its := by
    have h2 := List.dropLast_concat_getLast (l := its) (by intro z; rw [z] at hlen; simp at hlen)
    rw [List.getLast_eq_getElem] at h2
    exact h2
  have hm : ∀ y ∈ its.dropLast, y ∈ its := fun y hy => List.dropLast_subset _ hy
  have ml : its[its.length - 1]'(by omega) ∈ its := List.getElem_mem _
  generalize (its[its.length - 1]'(by omega)) = last at *
  have q := IsL.update hl (·.pop)
  have e : its.toArray.pop = its.dropLast.toArray := by simp
  rw [e] at q
  have hsb := Heap.SameBut.update hp a (Obj.mapSeq (·.pop))
  have hpl : (last :: its.dropLast).Perm its := by
    conv => rhs; rw [← hdl]
    exact (List.perm_append_singleton last its.dropLast).symm
  wp_walk
  rw [hback]
  wp_walk using (fun Q h => wpAny_updateSeq (Q := Q) hl rfl h z1 z2)
  by_cases h1 : its.length = 1
  · refine wpAny_ite_true (by simp [h1]) ?_
    wp_walk
    have e2 : its.dropLast = [] := by
      apply List.length_eq_zero_iff.mp
      rw [List.length_dropLast]; omega
    rw [e2] at q hpl
    have e3 : last = x := by
      have e4 : [last] = its := by rw [e2] at hdl; exact hdl
      rw [← e4] at h0
      simpa using h0
    subst e3
    exact hq _ [] _ hsb q hpl (fun i y p _ z => by simp at z)
  · refine wpAny_ite_false (by simp [h1]) ?_
    have h0a : its.toArray[0]? = some x := by simpa using h0
    wp_walk
    rw [h0a]
    have z3 : its.dropLast.toArray.size ≤ sizeLine := by simp; omega
    have z4 : (its.dropLast.toArray.setIfInBounds 0 last).size ≤ sizeLine + 1 := by simp; omega
    wp_walk using (fun Q h => wpAny_updateSeq (Q := Q) q rfl h z3 z4)
    have q2 := IsL.update q (·.setIfInBounds 0 last)
    have e5 : its.dropLast.toArray.setIfInBounds 0 last = (its.dropLast.set 0 last).toArray := by simp
    rw [e5] at q2
    have hsb2 := hsb.trans (Heap.SameBut.update _ a (Obj.mapSeq (·.setIfInBounds 0 last)))
    have h0d : its.dropLast[0]? = some x := by rw [List.getElem?_dropLast, if_pos (by omega), h0]
    have hpm := (set_perm (y := last) h0d).trans hpl
    have hmm : ∀ y ∈ its.dropLast.set 0 last, y ∈ its := fun y hy => hpm.mem_iff.mp (List.mem_cons_of_mem _ hy)
    exact ⟨plainId_quiet plain_sift _, codeAny_builtin entry_sift (by
      rw [Around.under_plainId plain_sift _]
      exact sift_down a x lt htr has _ 0 (its.dropLast.set 0 last) _ rfl (by simp; omega) (by simp; omega) hH.start prog w A R _ ⟨q2, fun prog w => (hc prog w).next hsb2 hmm,
        fun h' its' n' s1 s2 s3 s4 => hq h' its' n' (hsb2.trans s1) s2 ((s3.cons x).trans hpm) s4⟩)⟩
end RT
end
section
set_option maxRecDepth 100000
set_option maxHeartbeats 2000000
namespace RT
open PySem PySem.Spec PyProof.Rows L2
theorem lex_irrefl : ∀ x : List Int, HT.lexLt x x = false
  | [] => rfl
  | a :: r => by rw [HT.lexLt_cons, if_pos rfl]; exact lex_irrefl r
theorem lex_asymm : ∀ x y : List Int, HT.lexLt x y = true → HT.lexLt y x = false
  | [], [], h => by cases h
  | [], _ :: _, _ => rfl
  | _ :: _, [], h => by cases h
  | a :: r, b :: t, h => by
    rw [HT.lexLt_cons] at h ⊢
    by_cases e : a = b
    · subst e; rw [if_pos rfl] at h ⊢; exact lex_asymm r t h
    · rw [if_neg e] at h; rw [if_neg (Ne.symm e)]; simp at h ⊢; omega
theorem lex_trans : ∀ x y z : List Int, HT.lexLt y x = false → HT.lexLt z y = false → HT.lexLt z x = false
  | [], [], [], _, _ => rfl
  | [], [], _ :: _, _, h => h
  | [], _ :: _, [], h, _ => rfl
  | [], _ :: _, _ :: _, _, _ => rfl
  | _ :: _, [], _, h, _ => by cases h
  | _ :: _, _ :: _, [], _, h => by cases h
  | a :: r, b :: t, c :: u, h1, h2 => by
    rw [HT.lexLt_cons] at h1 h2 ⊢
    by_cases e1 : b = a
    · subst e1; rw [if_pos rfl] at h1
      by_cases e2 : c = b
      · subst e2; rw [if_pos rfl] at h2 ⊢; exact lex_trans r t u h1 h2
      · rw [if_neg e2] at h2 ⊢; exact h2
    · rw [if_neg e1] at h1
      by_cases e2 : c = b
      · subst e2; rw [if_neg e1]; exact h1
      · rw [if_neg e2] at h2
        simp at h1 h2
        have : ¬ c = a := by omega
        rw [if_neg this]; simp; omega
/-- a list that is a map's, in another order -/
theorem perm_map {α β : Type} {f : α → β} {l' : List β} {l : List α} (h : l'.Perm (l.map f)) : ∃ k : List α, k.Perm l ∧ l' = k.map f := by
  generalize hm : l.map f = m at h
  induction h generalizing l with
  | nil => cases l with
    | nil => exact ⟨[], .refl _, rfl⟩
    | cons a r => cases hm
  | cons x _ ih => cases l with
    | nil => cases hm
    | cons a r =>
      simp at hm
      obtain ⟨rfl, hm⟩ := hm
      obtain ⟨k, h1, rfl⟩ := ih hm
      exact ⟨a :: k, h1.cons a, rfl⟩
  | swap x y t => cases l with
    | nil => cases hm
    | cons a r => cases r with
      | nil => cases hm
      | cons b u =>
        simp at hm
        obtain ⟨rfl, rfl, rfl⟩ := hm
        exact ⟨b :: a :: u, List.Perm.swap _ _ _, rfl⟩
  | trans _ _ ih1 ih2 =>
    obtain ⟨k, h1, rfl⟩ := ih2 hm
    obtain ⟨k2, h2, rfl⟩ := ih1 rfl
    exact ⟨k2, h2.trans h1, rfl⟩
def keyU (k : Addr → List Int) : Value → List Int
  | .ref a => k a
  | _ => []
def ltU (k : Addr → List Int) (u v : Value) : Bool := HT.lexLt (keyU k u) (keyU k v)
abbrev ltA (k : Addr → List Int) (a b : Addr) : Bool := HT.lexLt (k a) (k b)
theorem heap_map {k : Addr → List Int} {ts : List Addr} : HeapL (ltU k) (ts.map Value.ref) ↔ HeapL (ltA k) ts := by
  constructor
  · intro h i x p hi e1 e2
    exact h i (.ref x) (.ref p) hi (by rw [List.getElem?_map, e1] <;> rfl) (by rw [List.getElem?_map, e2] <;> rfl)
  · intro h i x p hi e1 e2
    rw [List.getElem?_map] at e1 e2
    cases h1 : ts[i]? with
    | none => rw [h1] at e1; cases e1
    | some a =>
      cases h2 : ts[(i - 1) / 2]? with
      | none => rw [h2] at e2; cases e2
      | some b =>
        rw [h1] at e1; rw [h2] at e2; cases e1; cases e2
        exact h i a b hi h1 h2
theorem vals_refs : ∀ {ts : List Addr} {us : List Value}, Vals (ts.map V.ref) us → us = ts.map Value.ref
  | [], _, .nil => rfl
  | t :: ts, _, .cons r h => by
    obtain rfl : _ = Value.ref t := r
    rw [vals_refs h] <;> rfl
theorem refs_vals : ∀ ts : List Addr, Vals (ts.map V.ref) (ts.map Value.ref)
  | [] => .nil
  | t :: ts => .cons rfl (refs_vals ts)
section
variable {X : Cx} {pins : List (Addr × Obj)} {σ : L2.St} {H : Hp} {s : Shared}
theorem cmp_ok (I : Inv X pins σ H s) (hu : X.A.units + 1 < cLine) {l : Addr} {xs : List V} {ts : List Addr} {k : Addr → List Int} (hl : H l = some (.lst xs)) (hk : ∀ t ∈ ts, H t = some (.tup ((k t).map V.int))) :
    ∀ prog w, CmpOk prog w X.A.in1 s.heap l (ts.map Value.ref) (ltU k) := by
  intro prog w s' hs x hx y hy Q E q
  obtain ⟨a, ha, rfl⟩ := List.mem_map.mp hx
  obtain ⟨b, hb, rfl⟩ := List.mem_map.mp hy
  have ne : ∀ t ∈ ts, t ≠ l := fun t ht => ne_of (hk t ht) hl (by intro z; cases z)
  have tup : ∀ t ∈ ts, ∃ its : List Value, Vals ((k t).map V.int) its ∧ IsTup s'.heap t its.toArray := fun t ht => by
    obtain ⟨_, its, r, o, e, c⟩ := I.hok t _ (hk t ht)
    exact ⟨its, r, o, (hs.2 t (ne t ht)).trans e, c⟩
  obtain ⟨ia, ra, pa⟩ := tup a ha
  obtain ⟨ib, rb, pb⟩ := tup b hb
  have i1 : IntsAre ia.toArray.toList (k a) := intsAre_of ra
  have i2 : IntsAre ib.toArray.toList (k b) := intsAre_of rb
  exact HT.lt_tupInts pa pb i1 i2 hu q
theorem inv_lset2 {its' : List Value} {n' : Nat} {h' : Heap} {l : Addr} {xs ys : List V} (I : Inv X pins σ H s) (hH : H l = some (.lst xs)) (hs : Heap.SameBut l s.heap h') (e : IsL h' l its'.toArray n') (hv : Vals ys its') (hz : ys.length ≤ sizeLine) :
    Inv X pins σ (upd H l (.lst ys)) { s with heap := h' } := by
  exact I.write (t' := s.toks) (x := l) (e := l) (by rw [hH]; exact trivial) (.inl rfl) (fun b' u hb hu => (hs.2 b' hb).trans hu) ⟨_, e⟩ ⟨hz, its', _, hv, e⟩
end
/-- heappush(line, t): a heap of tuples of ints -/
def rHPush : List V → Hp → VK → Prop := fun vs H Q => ∃ (l t : Addr) (ts : List Addr) (k : Addr → List Int), vs = [.ref l, .ref t] ∧ H l = some (.lst (ts.map V.ref)) ∧ (∀ x ∈ ts ++ [t], H x = some (.tup ((k x).map V.int))) ∧ ts.length < sizeLine ∧ HeapL (ltA k) ts ∧
  ∀ us : List Addr, us.Perm (ts ++ [t]) → HeapL (ltA k) us → Q .non (upd H l (.lst (us.map V.ref)))
/-- heappop(line) -/
def rHPop : List V → Hp → VK → Prop := fun vs H Q => ∃ (l t : Addr) (ts : List Addr) (k : Addr → List Int), vs = [.ref l] ∧ H l = some (.lst (ts.map V.ref)) ∧ (∀ x ∈ ts, H x = some (.tup ((k x).map V.int))) ∧ ts[0]? = some t ∧ HeapL (ltA k) ts ∧
  ∀ us : List Addr, (t :: us).Perm ts → HeapL (ltA k) us → Q (.ref t) (upd H l (.lst (us.map V.ref)))
section
variable {X : Cx}
theorem cr_hpush (hu : X.A.units + 1 < cLine) : CallR X (.builtin "_heapq.heappush") rHPush := by
  intro pins s σ H vs us Q I r h
  obtain ⟨l, t, ts, k, rfl, hl, hk, hz, hH, q⟩ := h
  obtain ⟨u1, u2, rfl, r1, r2⟩ := r.two
  obtain rfl : u1 = Value.ref l := r1
  obtain rfl : u2 = Value.ref t := r2
  obtain ⟨z, its, n, rv, _, e⟩ := I.lstM hl
  obtain rfl := vals_refs rv
  have tr : ∀ x y z : Value, ltU k y x = false → ltU k z y = false → ltU k z x = false := fun x y z => lex_trans _ _ _
  have as' : ∀ x y : Value, ltU k x y = true → ltU k y x = false := fun x y => lex_asymm _ _
  have e2 : ts.map Value.ref ++ [Value.ref t] = (ts ++ [t]).map Value.ref := by simp
  refine call_function_meets kind_push plain_push entry_push (args_push _ _) (push_meets l (.ref t) (ltU k) tr as' (ts.map Value.ref) n (by simpa using hz) (heap_map.mpr hH)) ⟨e, ?_, ?_⟩
  · rw [e2]
    exact cmp_ok I hu hl hk
  · intro h' its' n' hs he hp hh
    rw [e2] at hp
    obtain ⟨us, h1, rfl⟩ := perm_map hp
    have hlen : us.length ≤ sizeLine := by rw [h1.length_eq]; simp; omega
    exact ⟨.non, _, inv_lset2 I hl hs he (refs_vals us) (by simpa using hlen), rfl, q us h1 (heap_map.mp hh)⟩
theorem cr_hpop (hu : X.A.units + 1 < cLine) : CallR X (.builtin "_heapq.heappop") rHPop := by
  intro pins s σ H vs us Q I r h
  obtain ⟨l, t, ts, k, rfl, hl, hk, h0, hH, q⟩ := h
  obtain ⟨u1, rfl, r1⟩ := r.one
  obtain rfl : u1 = Value.ref l := r1
  obtain ⟨z, its, n, rv, _, e⟩ := I.lstM hl
  obtain rfl := vals_refs rv
  have tr : ∀ x y z : Value, ltU k y x = false → ltU k z y = false → ltU k z x = false := fun x y z => lex_trans _ _ _
  have as' : ∀ x y : Value, ltU k x y = true → ltU k y x = false := fun x y => lex_asymm _ _
  have h0' : (ts.map Value.ref)[0]? = some (Value.ref t) := by rw [List.getElem?_map, h0] <;> rfl
  refine call_function_meets kind_pop plain_pop entry_pop (args_pop _) (pop_meets l (.ref t) (ltU k) tr as' (ts.map Value.ref) n (by simpa using z) h0' (heap_map.mpr hH)) ⟨e, cmp_ok I hu hl hk, ?_⟩
  intro h' its' n' hs he hp hh
  have hp2 : its'.Perm ((ts.erase t).map Value.ref) := by
    have h1 : ts.Perm (t :: ts.erase t) := List.perm_cons_erase (List.mem_of_getElem? h0)
    exact (List.perm_cons (Value.ref t)).mp (hp.trans (h1.map Value.ref))
  obtain ⟨us, h1, rfl⟩ := perm_map hp2
  have h2 : (t :: us).Perm ts := (h1.cons t).trans (List.perm_cons_erase (List.mem_of_getElem? h0)).symm
  have hlen : us.length ≤ sizeLine := by
    have := h2.length_eq
    simp at this z; omega
  exact ⟨.ref t, _, inv_lset2 I hl hs he (refs_vals us) (by simpa using hlen), rfl, q us h2 (heap_map.mp hh)⟩
end
end RT
end
section
set_option maxRecDepth 100000
set_option maxHeartbeats 4000000
/-! RTW13: the search itself. -/
namespace RT
open PySem PySem.Spec PyProof.Rows L2
open Evl (Ex Ex.refl Ex.trans Ex.new Ex.mut)
theorem paired_perm {α β : Type} {F : α → β → Prop} {us ts : List α} (h : us.Perm ts) : ∀ {es : List β}, Paired F ts es → ∃ es', es'.Perm es ∧ Paired F us es' := by
  induction h with
  | nil => intro es h; cases h; exact ⟨[], .refl _, .nil⟩
  | cons x _ ih => intro es h; cases h with | cons r t => obtain ⟨es', h1, h2⟩ := ih t; exact ⟨_ :: es', h1.cons _, .cons r h2⟩
  | swap x y l => intro es h; cases h with | cons r t => cases t with | cons r2 t => exact ⟨_ :: _ :: _, List.Perm.swap _ _ _, .cons r2 (.cons r t)⟩
  | trans _ _ ih1 ih2 => intro es h; obtain ⟨e1, h1, h2⟩ := ih2 h; obtain ⟨e2, h3, h4⟩ := ih1 h2; exact ⟨e2, h3.trans h1, h4⟩
theorem paired_len {α β : Type} {F : α → β → Prop} : ∀ {ts : List α} {es : List β}, Paired F ts es → ts.length = es.length
  | _, _, .nil => rfl
  | _, _, .cons _ t => congrArg Nat.succ (paired_len t)
theorem paired_mem {α β : Type} {F : α → β → Prop} : ∀ {ts : List α} {es : List β} {t : α}, Paired F ts es → t ∈ ts → ∃ e ∈ es, F t e
  | _, _, _, .nil, h => by cases h
  | _, _, _, .cons r t, h => by
    rcases List.mem_cons.mp h with z | z
    · subst z; exact ⟨_, List.mem_cons_self, r⟩
    · obtain ⟨e, h1, h2⟩ := paired_mem t z; exact ⟨e, List.mem_cons_of_mem _ h1, h2⟩
theorem paired_mem2 {α β : Type} {F : α → β → Prop} : ∀ {ts : List α} {es : List β} {e : β}, Paired F ts es → e ∈ es → ∃ t ∈ ts, F t e
  | _, _, _, .nil, h => by cases h
  | _, _, _, .cons r t, h => by
    rcases List.mem_cons.mp h with z | z
    · subst z; exact ⟨_, List.mem_cons_self, r⟩
    · obtain ⟨e, h1, h2⟩ := paired_mem2 t z; exact ⟨e, List.mem_cons_of_mem _ h1, h2⟩
theorem paired_app {α β : Type} {F : α → β → Prop} {ts us : List α} {es fs : List β} (h : Paired F ts es) (h' : Paired F us fs) : Paired F (ts ++ us) (es ++ fs) := by
  induction h with
  | nil => exact h'
  | cons r _ ih => exact .cons r ih
/-! ### the line -/
def intV : V → Int
  | .int i => i
  | _ => 0
def kG (G : Hp) (x : Addr) : List Int := match G x with
  | some (.tup vs) => vs.map intV
  | _ => []
def eK (e : Nat × Nat × Nat) : List Int := [(e.1 : Int), (e.2.1 : Int), (e.2.2 : Int)]
abbrev LP (G : Hp) (t : Addr) (e : Nat × Nat × Nat) : Prop := G t = some (.tup ((eK e).map V.int))
theorem kG_of {G : Hp} {t : Addr} {e : Nat × Nat × Nat} (h : LP G t e) : kG G t = eK e := by
  unfold kG
  rw [h]
  rfl
structure LN (G : Hp) (ts : List Addr) (es : List (Nat × Nat × Nat)) : Prop where
  p : Paired (LP G) ts es
  h : HeapL (ltA (kG G)) ts
theorem heap_congr {k k' : Addr → List Int} {ts : List Addr} (e : ∀ x ∈ ts, k x = k' x) (h : HeapL (ltA k) ts) : HeapL (ltA k') ts := fun i x p hi h1 h2 => by
  have := h i x p hi h1 h2
  unfold ltA at this ⊢
  rw [← e x (List.mem_of_getElem? h1), ← e p (List.mem_of_getElem? h2)]
  exact this
theorem lp_mono {G G' : Hp} (g : Ex G G') : ∀ {ts : List Addr} {es : List (Nat × Nat × Nat)}, Paired (LP G) ts es → Paired (LP G') ts es
  | _, _, .nil => .nil
  | _, _, .cons r t => .cons (g _ _ r) (lp_mono g t)
theorem LN.mono {G G' : Hp} {ts : List Addr} {es : List (Nat × Nat × Nat)} (g : Ex G G') (h : LN G ts es) : LN G' ts es :=
  ⟨lp_mono g h.p, heap_congr (fun x hx => by obtain ⟨e, _, h1⟩ := paired_mem h.p hx; rw [kG_of h1, kG_of (show LP G' x e from g _ _ h1)]) h.h⟩
theorem LN.keys {G H : Hp} {ts : List Addr} {es : List (Nat × Nat × Nat)} (h : LN G ts es) (i : Ex G H) : ∀ x ∈ ts, H x = some (.tup ((kG G x).map V.int)) := fun x hx => by
  obtain ⟨e, _, h1⟩ := paired_mem h.p hx
  rw [kG_of h1]; exact i _ _ h1
theorem lp_dx {G : Hp} : ∀ {ts : List Addr} {es : List (Nat × Nat × Nat)}, Paired (LP G) ts es → DxA G (ts.map V.ref) (es.map enc3)
  | _, _, .nil => .nil
  | _, _, .cons r t => .cons (.tup r (.cons (.int _) (.cons (.int _) (.cons (.int _) .nil)))) (lp_dx t)
theorem dx_lp {G : Hp} {v : V} {e : Nat × Nat × Nat} (h : Dx G v (enc3 e)) : ∃ t, v = .ref t ∧ LP G t e := by
  obtain ⟨a, x, y, z, rfl, ea, h1, h2, h3⟩ := dx_triple h
  rw [Dx.int_inv h1, Dx.int_inv h2, Dx.int_inv h3] at ea
  exact ⟨a, rfl, ea⟩
theorem eK_le {e e' : Nat × Nat × Nat} (h : HT.lexLt (eK e') (eK e) = false) : e.1 ≤ e'.1 := by
  unfold eK at h
  rw [HT.lexLt_cons] at h
  by_cases z : (e'.1 : Int) = (e.1 : Int)
  · omega
  · rw [if_neg z] at h; simp at h; omega
noncomputable def Bk.dist (b : Bk) (m k : Nat) : Option Nat := Classical.epsilon fun o => IsDist (EB b) m k o
theorem dist_eq {b : Bk} {m k : Nat} {o : Option Nat} (h : IsDist (EB b) m k o) : b.dist m k = o := (IsDist.eq (Classical.epsilon_spec (p := fun o => IsDist (EB b) m k o) ⟨o, h⟩) h)
theorem way_hold {b : Bk} {m k m' c : Nat} (hm : m < 2 ^ b.n ∧ b.holdP m = true) (h : Way (EB b) m k m' c) : m' < 2 ^ b.n ∧ b.holdP m' = true := by
  induction h with
  | refl => exact hm
  | snoc _ e ih =>
    obtain ⟨i, hi, h1, h2, h3⟩ := e
    refine ⟨?_, h2⟩
    rcases h3 with ⟨h3, rfl, _⟩ | ⟨h3, rfl, _⟩
    · exact add_lt ih.1 hi h3
    · exact Nat.lt_of_le_of_lt (Nat.sub_le _ _) ih.1
def encN (c : Nat) : PyData := .int (c : Int)
/-- all that is known in the search -/
structure WI (Gx G0 H0 : Hp) (ln cd md sd : Addr) (G H : Hp) (ts : List Addr) (es : List (Nat × Nat × Nat)) (costs : Nat → Option (Nat × Nat)) (settled : Nat → Option Nat) (cws mws sws : List (Key × V)) (skv : List (Key × PyData)) : Prop where
  st : Step G0 H0 G H
  gx : Ex Gx G
  nln : G ln = none
  ncd : G cd = none
  nmd : G md = none
  nsd : G sd = none
  hln : H ln = some (.lst (ts.map V.ref))
  ln : LN G ts es
  hcd : H cd = some (.dK cws)
  cc : CDG G costs cws
  hmd : H md = some (.dK mws)
  am : ADG G mws
  hsd : H sd = some (.dK sws)
  ks : KDx G sws skv
  ms : MD encN settled skv
section
variable {Gx G0 H0 G H G1 H1 : Hp} {ln cd md sd : Addr} {ts us : List Addr} {es fs : List (Nat × Nat × Nat)} {costs : Nat → Option (Nat × Nat)} {settled : Nat → Option Nat} {cws mws sws : List (Key × V)} {skv : List (Key × PyData)}
theorem sm_none {x : HO} {a : Addr} (h : H a = some x) : H a ≠ none := by rw [h]; intro z; cases z
theorem WI.go (h : WI Gx G0 H0 ln cd md sd G H ts es costs settled cws mws sws skv) (s : Step G H G1 H1) : WI Gx G0 H0 ln cd md sd G1 H1 ts es costs settled cws mws sws skv :=
  ⟨h.st.trans s, h.gx.trans s.g, s.s ln (sm_none h.hln) h.nln, s.s cd (sm_none h.hcd) h.ncd, s.s md (sm_none h.hmd) h.nmd, s.s sd (sm_none h.hsd) h.nsd, s.h _ _ h.hln, h.ln.mono s.g, s.h _ _ h.hcd, h.cc.mono s.g, s.h _ _ h.hmd, h.am.mono s.g, s.h _ _ h.hsd, h.ks.mono s.g, h.ms⟩
theorem WI.line (h : WI Gx G0 H0 ln cd md sd G H ts es costs settled cws mws sws skv) (hl : LN G us fs) (f : H0 ln = none) (d1 : ln ≠ cd) (d2 : ln ≠ md) (d3 : ln ≠ sd) : WI Gx G0 H0 ln cd md sd G (upd H ln (.lst (us.map V.ref))) us fs costs settled cws mws sws skv :=
  ⟨h.st.mut f h.nln, h.gx, h.nln, h.ncd, h.nmd, h.nsd, upd_same, hl, by rw [upd_ne (Ne.symm d1)]; exact h.hcd, h.cc, by rw [upd_ne (Ne.symm d2)]; exact h.hmd, h.am, by rw [upd_ne (Ne.symm d3)]; exact h.hsd, h.ks, h.ms⟩
end
section
variable {σ : L2.St} {G H : Hp} {D : Ends} {tv : TE} {tw ts : TS} {Rv : Rel} {p : Addr} {K : Fg} {C dx : Addr} {fs : List (Str × V)} {f : Str} {i : Nat}
theorem gt_tup3 {k l m : Nat} {a : Addr} {x y z : V} (h : G a = some (.tup [x, y, z])) : GT (gTup K 3 (gCons (gName k) (gCons (gName l) (gCons (gName m) gNil)))) (.ref a) σ G (((σ.set k (some x)).set l (some y)).set m (some z)) := fun H e Q q =>
  ⟨a, _, rfl, SqT.of (e _ _ h), rfl, x, _, rfl, y, _, rfl, z, _, rfl, rfl, q⟩
/-- self.f = v, self not known yet -/
theorem k_fldS (e : Ex G H) (hσ : σ[i]? = some (some (.ref p))) (hp : H p = some (.ins C dx fs)) (hg : G p = none) (hC : Cls K C) (hn : NoAttr K C f) (hl : fs.length < 1000) (hv : ED tv σ G Rv)
    (q : ∀ v G1 H1, StepM (fun a => a = p) G H G1 H1 → G1 p = none → H1 p = some (.ins C dx (putF f v fs)) → Rv.r v G1 → tw D σ H1) : tSeq (sFld K (tVar i) tv f) tw D σ H :=
  hv H e _ fun v G1 H1 s r => by
    have n := s.s p (sm_none hp) hg
    exact ⟨.ref p, hσ, p, C, dx, fs, rfl, s.h _ _ hp, hC, hn, hl, q v G1 _ (StepM.put s.m rfl n) n upd_same r⟩
/-- .. a dict of its own, not known -/
theorem k_fldD {trs : List (TE × TE)} {kvs : List (Key × PyData)} (e : Ex G H) (hσ : σ[i]? = some (some (.ref p))) (hp : H p = some (.ins C dx fs)) (hg : G p = none) (hC : Cls K C) (hn : NoAttr K C f) (hl : fs.length < 1000) (hv : EPr trs σ G kvs) (h15 : kvs.length ≤ 15)
    (q : ∀ d ws G1 H1, StepM (fun a => a = p) G H G1 H1 → G1 p = none → H d = none → G1 d = none → d ≠ p → H1 d = some (.dK ws) → KDx G1 ws (mergeG kvs) → H1 p = some (.ins C dx (putF f (.ref d) fs)) → tw D σ H1) : tSeq (sFld K (tVar i) (tDisp trs) f) tw D σ H := fun d hd => by
  have e2 : Ex G (upd H d (.dK [])) := e.trans (Ex.new hd)
  refine pairs_of hv _ e2 _ fun ws G1 H1 s hw => ?_
  have s0 : Step G H G1 H1 := ((Step.refl e).new hd).trans s
  have hpd : H1 d = some (.dK []) := s.h _ _ upd_same
  have hgd : G1 d = none := s.s d (by rw [upd_same]; intro z; cases z) (ex_none e hd)
  have dp : d ≠ p := fun z => by rw [z, hp] at hd; cases hd
  refine ⟨hpd, ws, rfl, by rw [hw.length]; exact h15, ?_⟩
  have s1 : Step G H G1 (upd H1 d (.dK (mergeK [] ws))) := s0.mut hd hgd
  have n := s1.s p (sm_none hp) hg
  refine ⟨.ref p, hσ, p, C, dx, fs, rfl, s1.h _ _ hp, hC, hn, hl, q d (mergeK [] ws) G1 _ (StepM.put s1.m rfl n) n hd hgd dp ?_ (KDx.merge hw .nil) upd_same⟩
  rw [upd_ne dp]; exact upd_same
theorem k_fldE (e : Ex G H) (hσ : σ[i]? = some (some (.ref p))) (hp : H p = some (.ins C dx fs)) (hg : G p = none) (hC : Cls K C) (hn : NoAttr K C f) (hl : fs.length < 1000)
    (q : ∀ d H1, StepM (fun a => a = p) G H G H1 → H d = none → G d = none → d ≠ p → H1 d = some (.dK []) → H1 p = some (.ins C dx (putF f (.ref d) fs)) → tw D σ H1) : tSeq (sFld K (tVar i) tDNewK f) tw D σ H := fun d hd => by
  have dp : d ≠ p := fun z => by rw [z, hp] at hd; cases hd
  have s1 : Step G H G (upd H d (.dK [])) := (Step.refl e).new hd
  refine ⟨.ref p, hσ, p, C, dx, fs, rfl, s1.h _ _ hp, hC, hn, hl, q d _ (StepM.put s1.m rfl hg) hd (ex_none e hd) dp ?_ upd_same⟩
  rw [upd_ne dp]; exact upd_same
/-- a loop over what a call that changes things hands out -/
theorem k_forM {α : Type} {wi : TI} {g : TG} {xs : List α} {Rx : α → Rel} (Good : Hp → Hp → Prop) (h : ∀ R : It → Hp → Prop, (∀ J G1 H1, Good G1 H1 → Walks J G1 (xs.map Rx) → R J H1) → wi σ H R) (I : Nat → L2.St → Hp → Hp → Prop) (h0 : ∀ G1 H1, Good G1 H1 → I 0 σ G1 H1) (hI : ∀ i σ' G' H', I i σ' G' H' → Ex G' H')
    (hs : ∀ G1 H1, Good G1 H1 → ∀ i x v σ' G' H' G2 H2, xs[i]? = some x → I i σ' G' H' → Ex G1 G' → Step G' H' G2 H2 → (Rx x).r v G2 → g v σ' H2 fun σ2 H3 => ts { D with nx := fun σ3 H4 => ∃ G4, Ex G1 G4 ∧ I (i + 1) σ3 G4 H4, ct := fun σ3 H4 => ∃ G4, Ex G1 G4 ∧ I (i + 1) σ3 G4 H4, bk := D.nx } σ2 H3)
    (hd : ∀ σ' G' H', I xs.length σ' G' H' → D.nx σ' H') : tFor wi g ts D σ H := h _ fun J G1 H1 s1 w => by
  let N : Nat → L2.St → Hp → Prop := fun i σ' H' => ∃ G', Ex G1 G' ∧ I i σ' G' H'
  refine ⟨fun i m σ' H' => m = xs.length - i ∧ i ≤ xs.length ∧ N i σ' H', ⟨xs.length, by simp, Nat.zero_le _, G1, Ex.refl _, h0 G1 H1 s1⟩, ?_⟩
  rintro i m σ' H' ⟨rfl, hi, G', g1, hp⟩
  have e1 := hI i σ' G' H' hp
  by_cases hlt : i < xs.length
  · refine .inr ⟨w.go i H' (by simpa using hlt) (g1.trans e1), fun σ3 H3 => N (i + 1) σ3 H3, fun σ3 H3 hp => ⟨xs.length - (i + 1), by omega, rfl, hlt, hp⟩, fun v H2 hy => ?_⟩
    have hgi : xs[i]? = some xs[i] := List.getElem?_eq_getElem hlt
    obtain ⟨G2, s2, hr⟩ := w.yld i (Rx xs[i]) H' v H2 (by rw [List.getElem?_map, hgi] <;> rfl) hy G' g1 e1
    exact hs G1 H1 s1 i xs[i] v σ' G' H' G2 H2 hgi hp g1 s2 hr
  · have : i = xs.length := by omega
    subst this
    exact .inl ⟨by have := w.stop H' (g1.trans e1); simpa using this, hd σ' G' H' hp⟩
end
end RT
end
section
set_option maxRecDepth 100000
set_option maxHeartbeats 4000000
/-! RTW14: the search's __init__. -/
namespace RT
open PySem PySem.Spec PyProof.Rows L2
open Evl (Ex Ex.refl Ex.trans Ex.new Ex.mut)
/-- the gives from m, as a dict -/
def givesR (b : Bk) (m : Nat) : Rel := ⟨fun v G => ∃ kvs, (dkR kvs).r v G ∧ ∀ k : Nat, lookG kvs (.inl (k : Int)) = (b.dist m k).map encN, fun e ⟨kvs, h1, h2⟩ => ⟨kvs, (dkR kvs).mono e h1, h2⟩⟩
/-- a search behind its end -/
def doneR (CC : Addr) (b : Bk) (m : Nat) : Rel := ⟨fun v G => ∃ a dx fs u, v = .ref a ∧ G a = some (.ins CC dx fs) ∧ fs.lookup ("settled" : Str) = some u ∧ (givesR b m).r u G, fun e ⟨a, dx, fs, u, h1, h2, h3, h4⟩ => ⟨a, dx, fs, u, h1, e _ _ h2, h3, (givesR b m).mono e h4⟩⟩
def InSp (C CC : Addr) : Sp := fun vs H Q _ => ∃ (b : Bk) (m : Nat) (bv : V) (x dx : Addr) (G0 H0 : Hp), vs = [.ref x, bv, .int (m : Int), .bl true] ∧ BOk b ∧ m < 2 ^ b.n ∧ b.holdP m = true ∧ Ex G0 H0 ∧ (bookR C b).r bv G0 ∧ H0 x = none ∧ H0 dx = none ∧ dx ≠ x ∧ H = upd (upd H0 dx (.own x)) x (.ins CC dx []) ∧
  ∀ G' H', Step G0 H0 G' H' → (doneR CC b m).r (.ref x) G' → Q .non H'
section
variable {Gx G0 H0 G H G1 H1 : Hp} {ln cd md sd : Addr} {ts us : List Addr} {es fs : List (Nat × Nat × Nat)} {costs costs' : Nat → Option (Nat × Nat)} {settled settled' : Nat → Option Nat} {cws mws sws cws' mws' sws' : List (Key × V)} {skv skv' : List (Key × PyData)}
theorem WI.setS (h : WI Gx G0 H0 ln cd md sd G H ts es costs settled cws mws sws skv) (m : StepM (fun a => a = sd) G H G1 H1) (f : H0 sd = none) (d1 : ln ≠ sd) (d2 : cd ≠ sd) (d3 : md ≠ sd) (n : G1 sd = none) (e : H1 sd = some (.dK sws')) (k : KDx G1 sws' skv') (ms : MD encN settled' skv') : WI Gx G0 H0 ln cd md sd G1 H1 ts es costs settled' cws mws sws' skv' :=
  ⟨h.st.thenM m fun p hp => by rw [hp]; exact f, h.gx.trans m.g, m.s ln (sm_none h.hln) h.nln, m.s cd (sm_none h.hcd) h.ncd, m.s md (sm_none h.hmd) h.nmd, n, m.h _ _ d1 h.hln, h.ln.mono m.g, m.h _ _ d2 h.hcd, h.cc.mono m.g, m.h _ _ d3 h.hmd, h.am.mono m.g, e, k, ms⟩
theorem WI.setL (h : WI Gx G0 H0 ln cd md sd G H ts es costs settled cws mws sws skv) (m : StepM (fun a => a = cd ∨ a = md) G H G1 H1) (f1 : H0 cd = none) (f2 : H0 md = none) (d1 : ln ≠ cd) (d2 : ln ≠ md) (d3 : sd ≠ cd) (d4 : sd ≠ md) (e1 : H1 cd = some (.dK cws')) (c1 : CDG G1 costs' cws') (e2 : H1 md = some (.dK mws')) (c2 : ADG G1 mws') : WI Gx G0 H0 ln cd md sd G1 H1 ts es costs' settled cws' mws' sws skv :=
  ⟨h.st.thenM m fun p hp => by rcases hp with z | z <;> rw [z] <;> assumption, h.gx.trans m.g, m.s ln (sm_none h.hln) h.nln, m.s cd (sm_none h.hcd) h.ncd, m.s md (sm_none h.hmd) h.nmd, m.s sd (sm_none h.hsd) h.nsd, m.h _ _ (fun z => z.elim d1 d2) h.hln, h.ln.mono m.g, e1, c1, e2, c2, m.h _ _ (fun z => z.elim d3 d4) h.hsd, h.ks.mono m.g, h.ms⟩
theorem k_whileM {σ : L2.St} {H : Hp} {c : TT} {tb : TS} {D : Ends} (I : Nat → L2.St → Hp → Hp → Prop) (h0 : ∃ m G, I m σ G H)
    (step : ∀ m σ G H, I m σ G H → ∃ (G2 : Hp) (b : Bool), Ex G2 H ∧ ET c σ G2 b ∧ (b = true → ∀ G1 H1, Step G2 H G1 H1 → tb { D with nx := fun σ' H' => ∃ m' G', m' < m ∧ I m' σ' G' H', ct := fun σ' H' => ∃ m' G', m' < m ∧ I m' σ' G' H', bk := D.nx } σ H1) ∧ (b = false → ∀ G1 H1, Step G2 H G1 H1 → D.nx σ H1)) : tWhile c tb D σ H := by
  refine ⟨fun m σ H => ∃ G, I m σ G H, h0, ?_⟩
  rintro m σ H ⟨G, hi⟩
  obtain ⟨G2, b, e2, h1, h2, h3⟩ := step m σ G H hi
  refine h1 H e2 _ fun G1 H1 s => ?_
  cases b with
  | true => exact ⟨fun σ' H' => ∃ m' G', m' < m ∧ I m' σ' G' H', fun σ' H' ⟨m', G', h4, h5⟩ => ⟨m', h4, G', h5⟩, h2 rfl G1 H1 s⟩
  | false => exact h3 rfl G1 H1 s
end
theorem nl_len {b : Bk} (ok : BOk b) (c k m : Nat) (costs : Nat → Option (Nat × Nat)) : (linkAll c k (nbs b m) costs).2.length ≤ 11 := by
  have e : (sdl b m).foldl (stq c k) (costs, []) = linkAll c k (nbs b m) costs := stq_all c k _ _
  have h := stq_len c k (sdl b m) (costs, [])
  rw [e] at h
  have := sdl_len ok m
  simp at h; omega
theorem eqv_nilL (ds : List PyData) : PyData.eqv (.list ds) (.list []) = decide (ds = []) := by
  cases ds <;> rfl
section
variable {P : Program} {w : World} {K : Fg} {mg : Str → Option Value} {base : Heap} {C CC : Addr}
theorem f_Cheapest_init (T : Txt K mg) (BF : BookF K C) (F : ChF K mg CC) : ∃ f fd, FnOk P w K mg base CX0 6 f fd ["self", "book", "first", "is_by_gives"] (InSp C CC) ∧ Mk K CC f ∧ L2.Binds K fd ["self", "book", "first", "is_by_gives"] [] := by
  have mt_links := mt_links (P := P) (w := w) (base := base) T BF F
  obtain ⟨f, fd, D, M⟩ := F.mke
  refine ⟨f, fd, D.ok sc_Cheapest_init (fun vs H Q E h => by obtain ⟨_, _, _, _, _, _, _, rfl, _⟩ := h; rfl) fun cdv A outer s0 H vs Q E hr h => ?_, M, ?_⟩
  · obtain ⟨hu0, hu, hu64, hu65⟩ := room0 hr
    refine ⟨_, L2.PSs.nox ((pss_cons (ps_fld (pv 0) (pv 1) rfl) (pss_cons (ps_fld (pv 0) (pv 3) rfl) (pss_cons (ps_fld (pv 0) (pe_disp (pps_cons (pv 2) (pe_tup (pa_cons pe_int (pa_cons pe_int pa_nil))) pps_nil) (by rfl) (by rfl) (fun z => by cases z) (by decide)) rfl) (pss_cons (ps_fld (pv 0) (pe_disp (pps_cons (pv 2) pe_non pps_nil) (by rfl) (by rfl) (fun z => by cases z) (by decide)) rfl) (pss_cons (ps_fld (pv 0) pe_dnewK rfl) (pss_cons (ps_set (i := 4) sc_Cheapest_init.nd rfl (Or.inl rfl) (pe_lst (pa_cons (pe_tup (pa_cons pe_int (pa_cons pe_int (pa_cons (pv 2) pa_nil)))) pa_nil))) (pss_one (ps_while PassesOwn.never (pt_cmpR (op_neK K hu64) (pv 4) (pe_lst pa_nil) (nomark _)) (pss_cons (ps_asg (StS.pe_callG (cr_hpop hu) (by rfl) T.g_heappop (pa_cons (pv 4) pa_nil)) (pg_tupK K (n := 3) (pgs_cons (pg_name (i := 5) sc_Cheapest_init.nd rfl (Or.inl rfl)) (pgs_cons (pg_name (i := 6) sc_Cheapest_init.nd rfl (Or.inl rfl)) (pgs_cons (pg_name (i := 7) sc_Cheapest_init.nd rfl (Or.inl rfl)) pgs_nil))))) (pss_one (ps_if (pt_cmp (pc_dnotin hu (pv 7) (pe_fldK K (pv 0)))) (pss_cons (ps_dput hu (pe_fldK K (pv 0)) (pv 7) (pv 5) rfl) (pss_one (ps_for PassesOwn.never rfl (pi_listK K (pe_mt mt_links F.cls hr pass0 (pv 0) (pa_cons (pv 5) (pa_cons (pv 6) (pa_cons (pv 7) pa_nil))))) (pg_name (i := 8) sc_Cheapest_init.nd rfl (Or.inl rfl)) (pss_one (ps_expr (StS.pe_callG (cr_hpush hu) (by rfl) T.g_heappush (pa_cons (pv 4) (pa_cons (pv 8) pa_nil)))))))) pss_nil)))))))))))), ?_⟩
    obtain ⟨b, m, bv, x, dx, G0, H0, rfl, ok, hm, hh0, e, hb, h0x, h0d, hdx, rfl, q⟩ := h
    have S0 : Step G0 H0 G0 (upd (upd H0 dx (.own x)) x (.ins CC dx [])) := ((Step.refl e).new h0d).new (by rw [upd_ne (Ne.symm hdx)]; exact h0x)
    have gx : G0 x = none := ex_none e h0x
    refine k_fldS (Rv := bookR C b) S0.i (by rfl) upd_same gx F.cls F.n1 (by decide) (ed_var (by rfl) hb) fun v1 G1 H1 m1 n1 e1 r1 => ?_
    have S1 := S0.thenM m1 fun p hp => by rw [hp]; exact h0x
    refine k_fldS (Rv := dt (.bool true)) S1.i (by rfl) e1 n1 F.cls F.n2 (show 1 < 1000 by decide) (ed_var (by rfl) (.bl true)) fun v2 G2 H2 m2 n2 e2 r2 => ?_
    cases Dx.bl_inv r2
    have S2 := S1.thenM m2 fun p hp => by rw [hp]; exact h0x
    refine k_fldD (kvs := [(.inl (m : Int), .tuple [.int 0, .int 0])]) S2.i (by rfl) e2 n2 F.cls F.n3 (show 2 < 1000 by decide) ⟨.inl (m : Int), _, [], rfl, ed_var (by rfl) (.int _), ed_tup (ead_cons ed_int (ead_cons ed_int ead_nil)) (by simp), rfl⟩ (by simp) fun cd cws G3 H3 m3 n3 hcd0 ncd dcd ecd kcd e3 => ?_
    have S3 := S2.thenM m3 fun p hp => by rw [hp]; exact h0x
    have f1 : H0 cd = none := ex_none S2.h hcd0
    refine k_fldD (kvs := [(.inl (m : Int), .none)]) S3.i (by rfl) e3 n3 F.cls F.n4 (show 3 < 1000 by decide) ⟨.inl (m : Int), _, [], rfl, ed_var (by rfl) (.int _), ed_non, rfl⟩ (by simp) fun md mws G4 H4 m4 n4 hmd0 nmd dmd emd kmd e4 => ?_
    have S4 := S3.thenM m4 fun p hp => by rw [hp]; exact h0x
    have f2 : H0 md = none := ex_none S3.h hmd0
    have hne : cd ≠ md := fun z => by rw [← z, ecd] at hmd0; cases hmd0
    have ecd4 := m4.h _ _ dcd ecd
    have ncd4 := m4.s cd (sm_none ecd) ncd
    refine k_fldE S4.i (by rfl) e4 n4 F.cls F.n5 (show 4 < 1000 by decide) fun sd H5 m5 hsd0 nsd dsd esd e5 => ?_
    have S5 := S4.thenM m5 fun p hp => by rw [hp]; exact h0x
    have f3 : H0 sd = none := ex_none S4.h hsd0
    have hne2 : cd ≠ sd := fun z => by rw [← z, ecd4] at hsd0; cases hsd0
    have hne3 : md ≠ sd := fun z => by rw [← z, emd] at hsd0; cases hsd0
    have ecd5 := m5.h _ _ dcd ecd4
    have emd5 := m5.h _ _ dmd emd
    have Sx : Step G0 H0 (upd G4 x (.ins CC dx [("book", v1), ("is_by_gives", .bl true), ("costs", .ref cd), ("came", .ref md), ("settled", .ref sd)])) H5 := S5.pub h0x n4 e5
    have gup : Ex G4 (upd G4 x (.ins CC dx [("book", v1), ("is_by_gives", .bl true), ("costs", .ref cd), ("came", .ref md), ("settled", .ref sd)])) := Ex.new n4
    have hx : (chR C CC b cd md sd).r (.ref x) (upd G4 x (.ins CC dx [("book", v1), ("is_by_gives", .bl true), ("costs", .ref cd), ("came", .ref md), ("settled", .ref sd)])) := ⟨x, dx, v1, rfl, upd_same, (bookR C b).mono ((m2.g.trans m3.g).trans (m4.g.trans gup)) r1⟩
    refine k_lstS (Step.refl Sx.i) (ead_cons (ED.eq (ed_tup (ead_cons ed_int (ead_cons ed_int (ead_cons (ed_var (by rfl) (.int (m : Int))) ead_nil))) (by simp)) (show _ = enc3 (0, 0, m) from rfl)) ead_nil) (by simp) fun ln lvs G6 H6 g6 s6 n6 h6 k6 e6 x6 => ?_
    have f0 : H0 ln = none := ex_none S5.h h6
    have dl1 : ln ≠ cd := fun z => by rw [z, ecd5] at h6; cases h6
    have dl2 : ln ≠ md := fun z => by rw [z, emd5] at h6; cases h6
    have dl3 : ln ≠ sd := fun z => by rw [z, esd] at h6; cases h6
    generalize hGx : upd G4 x (.ins CC dx [("book", v1), ("is_by_gives", .bl true), ("costs", .ref cd), ("came", .ref md), ("settled", .ref sd)]) = Gx at hx s6 g6
    have Sx6 : Step G0 H0 Gx H5 := by rw [← hGx]; exact Sx
    have up : Ex G4 Gx := by rw [← hGx]; exact gup
    have nx : ∀ {p}, p ≠ x → G4 p = none → Gx p = none := fun h1 h2 => by rw [← hGx, upd_ne h1]; exact h2
    cases x6 with | cons r6 t6 =>
    cases t6
    obtain ⟨t, rfl, ht⟩ := dx_lp r6
    have w0 : WI Gx G0 H0 ln cd md sd G6 H6 [t] [(0, 0, m)] (fun x => if x = m then some (0, 0) else none) (fun _ => none) cws mws [] [] :=
      ⟨Sx6.trans s6, g6, n6, s6.s cd (sm_none ecd5) (nx dcd ncd4), s6.s md (sm_none emd5) (nx dmd nmd), s6.s sd (sm_none esd) (nx dsd nsd), e6, ⟨.cons ht .nil, fun i x p hi h1 h2 => by
          have : i < 1 := (List.getElem?_eq_some_iff.mp h1).1
          omega⟩, s6.h _ _ ecd5, ⟨_, kcd.mono ((m4.g.trans up).trans g6), MD.one (enc := enc2) (v := (0, 0)) (lt32 ok hm)⟩, s6.h _ _ emd5, ⟨_, _, kmd.mono (up.trans g6), MD.one (enc := id) (v := PyData.none) (lt32 ok hm)⟩, s6.h _ _ esd, .nil, MD.nil⟩
    refine k_whileM (fun n σ' G' H' => ∃ a5 a6 a7 a8 ts es costs settled cws mws sws skv, σ' = [some (.ref x), some bv, some (.int (m : Int)), some (.bl true), some (.ref ln), a5, a6, a7, a8] ∧ n = (32 - skv.length) * 1000 + es.length ∧ WI Gx G0 H0 ln cd md sd G' H' ts es costs settled cws mws sws skv ∧ es.length ≤ 1 + 11 * skv.length ∧ DI (EB b) m costs settled es) ⟨_, G6, none, none, none, none, _, _, _, _, _, _, _, _, rfl, rfl, w0, by simp, DI.start m⟩ ?_
    rintro n σ' G' H' ⟨a5, a6, a7, a8, ts, es, costs, settled, cws, mws, sws, skv, rfl, rfl, w, lb, di⟩
    refine ⟨upd G' ln (.lst (ts.map V.ref)), !decide (es = []), ex_while w.st.i w.hln, ET.eq (et_test (ed_ne (ed_var (by rfl) (.lst upd_same ((lp_dx w.ln.p).mono (Ex.new w.nln)))) (ed_lst ead_nil (by simp)) ?_ rfl)) ?_, fun hb G1' H1' s1 => ?_, fun hb G1' H1' s1 => ?_⟩
    · refine (Sh.list (k := 1) fun d hd => ?_).shaped
      obtain ⟨e', _, rfl⟩ := List.mem_map.mp hd
      refine Sh.tuple (k := 0) fun d hd => ?_
      rcases List.mem_cons.mp hd with z | z
      · subst z; exact .int
      · rcases List.mem_cons.mp z with z | z
        · subst z; exact .int
        · rw [List.mem_singleton.mp z]; exact .int
    · rw [eqv_nilL]; cases es <;> simp
    · -- one more
      have w1 := w.go (s1.forget w.nln)
      generalize wo G1' ln = G1 at w1
      have hne0 : es ≠ [] := fun z => by rw [z] at hb; simp at hb
      obtain ⟨t, ts', rfl⟩ : ∃ t ts', ts = t :: ts' := by
        cases ts with
        | nil => exact absurd (by have := w1.ln.p; cases this; rfl) hne0
        | cons t ts' => exact ⟨t, ts', rfl⟩
      refine ⟨.ref ln, rfl, ln, t, t :: ts', kG G1, rfl, w1.hln, w1.ln.keys w1.st.i, rfl, w1.ln.h, fun us hp hh => ?_⟩
      obtain ⟨es', hpe, hpp⟩ := paired_perm hp w1.ln.p
      cases hpp with | cons ht0 hus =>
      rename_i e0 es1
      have hmin : ∀ y ∈ es1, e0.1 ≤ y.1 := fun y hy => by
        obtain ⟨t', ht', hl'⟩ := paired_mem2 w1.ln.p (hpe.mem_iff.mp (List.mem_cons_of_mem _ hy))
        obtain ⟨i, hi⟩ := List.mem_iff_getElem?.mp ht'
        have := HeapL.least (lt := ltA (kG G1)) (fun x y z => lex_trans _ _ _) (fun x => lex_irrefl _) w1.ln.h (x := t) rfl i t' hi
        unfold ltA at this
        rw [kG_of hl', kG_of ht0] at this
        exact eK_le this
      have w2 := w1.line ⟨hus, hh⟩ f0 dl1 dl2 dl3
      obtain ⟨c, k, mk⟩ := e0
      have hlen : es1.length + 1 = es.length := by have := hpe.length_eq; simpa using this
      obtain ⟨kk, hway⟩ := di.snd (c, k, mk) (hpe.mem_iff.mp List.mem_cons_self)
      obtain ⟨hmk, hhk⟩ := way_hold ⟨hm, hh0⟩ hway
      dsimp only at hmk hhk
      refine gt_tup3 (x := .int (c : Int)) (y := .int (k : Int)) (z := .int (mk : Int)) ht0 _ w2.st.i _ ?_
      have hx2 : ∀ {G2}, Ex G1 G2 → (chR C CC b cd md sd).r (.ref x) G2 := fun g => (chR C CC b cd md sd).mono (w2.gx.trans g) hx
      have gs : Ex G1 (upd G1 sd (.dK sws)) := Ex.new w2.nsd
      refine k_if (D := { nx := _, rt := Q, ct := _, bk := _ }) (b := (settled mk).isNone) (ET.eq (et_B (ed_dnin (ky := .inl (mk : Int)) (ed_var (by rfl) (.int _)) (ed_refD (ed_chSet F (ed_var (by rfl) (hx2 gs))) upd_same (w2.ks.mono gs)))) (by rw [w2.ms.lk]; cases settled mk <;> rfl)) (ex_while w2.st.i w2.hsd) (fun hs G3 H3 s3 => ?_) fun hs G3 H3 s3 => ?_
      · have hs : settled mk = none := by simpa using hs
        have w3 := w2.go (s3.forget w2.nsd)
        have g13 := (s3.forget w2.nsd).g
        generalize wo G3 sd = G3' at w3 g13
        have hl32 := w3.ms.len
        refine k_putS (ky := .inl (mk : Int)) (Rv := dt (encN c)) w3.st.i w3.hsd w3.nsd (by rw [w3.ks.length]; exact sz_lt (by omega)) (ed_var (by rfl) (.int _)) (ed_chSet F (ed_var (by rfl) (hx2 g13))) (ed_var (by rfl) (.int _)) fun cv G4 H4 m4' n4' esd4 rc4 => ?_
        have w4 := w3.setS m4' f3 dl3 hne2 hne3 n4' esd4 ((w3.ks.mono m4'.g).put rc4) (w3.ms.put (v := c) (lt32 ok hmk))
        have g14 := g13.trans m4'.g
        have hskl : (putG skv (.inl (mk : Int)) (encN c)).length = skv.length + 1 := w3.ms.put_len hs
        have hsk32 := w4.ms.len
        have hnl := nl_len ok c k mk costs
        generalize hnb : linkAll c k (nbs b mk) costs = LA at hnl
        refine k_forM (xs := LA.2) (Rx := fun e => dt (enc3 e)) (fun G5 H5 => ∃ cws' mws', WI Gx G0 H0 ln cd md sd G5 H5 us es1 LA.1 (fun x => if x = mk then some c else settled x) cws' mws' (putK sws (.inl (mk : Int)) cv) (putG skv (.inl (mk : Int)) (encN c))) (fun R hR => ?_)
          (fun j σ' G' H' => ∃ a8 us2 es2 cws' mws', σ' = [some (.ref x), some bv, some (.int (m : Int)), some (.bl true), some (.ref ln), some (.int (c : Int)), some (.int (k : Int)), some (.int (mk : Int)), a8] ∧ WI Gx G0 H0 ln cd md sd G' H' us2 es2 LA.1 (fun x => if x = mk then some c else settled x) cws' mws' (putK sws (.inl (mk : Int)) cv) (putG skv (.inl (mk : Int)) (encN c)) ∧ es2.Perm (es1 ++ LA.2.take j))
          (fun G5 H5 ⟨cws', mws', w5⟩ => ⟨_, us, es1, cws', mws', rfl, w5, by simp⟩) (fun j σ' G' H' ⟨_, _, _, _, _, _, w5, _⟩ => w5.st.i) ?_ ?_
        · have hx4 := hx2 g14
          obtain ⟨x', dx', bv', hx41, hx42, hx43⟩ := hx4
          cases hx41
          refine ⟨.ref x, rfl, x, dx', _, rfl, w4.st.i _ _ hx42, rfl, .int (c : Int), rfl, .int (k : Int), rfl, .int (mk : Int), rfl, b, c, k, mk, x, cd, md, sd, costs, cws, mws, G4, rfl, ok, hmk, w4.st.i, hx2 g14, w4.ncd, w4.nmd, hne, w4.hcd, w4.cc, w4.hmd, w4.am, fun v G5 H5 cws' mws' st hcd' cc' hmd' am' dv => ?_⟩
          rw [hnb] at cc' dv
          obtain ⟨a, xs, rfl, ea, hxs⟩ := Dx.list_inv dv
          refine ⟨a, rfl, ⟨xs, SqL.of (st.i _ _ ea)⟩, hR _ G5 H5 ⟨cws', mws', w4.setL st f1 f2 dl1 dl2 (Ne.symm hne2) (Ne.symm hne3) hcd' cc' hmd' am'⟩ ?_⟩
          have := walks_lst (K := K) ea hxs
          rw [List.map_map] at this
          exact this
        · intro G5 H5 _ j e' v σ' G' H' G6' H6' hj hI g5 s6' rv
          obtain ⟨a8', us2, es2, cws', mws', rfl, w5, hpm⟩ := hI
          have w6 := w5.go s6'
          obtain ⟨t', rfl, ht'⟩ := dx_lp rv
          have hl2 : us2.length = es2.length := paired_len w6.ln.p
          have hl3 : es2.length ≤ es1.length + 11 := by
            have h1 := hpm.length_eq
            rw [List.length_append] at h1
            have h2 : (LA.2.take j).length ≤ LA.2.length := by simp; omega
            omega
          show tDrop _ _ _ _
          refine ⟨.ref ln, rfl, .ref t', rfl, ln, t', us2, kG G6', rfl, w6.hln, fun y hy => ?_, sz_lt (by omega), w6.ln.h, fun us3 hp3 hh3 => ?_⟩
          · rcases List.mem_append.mp hy with z | z
            · exact w6.ln.keys w6.st.i y z
            · rw [List.mem_singleton.mp z, kG_of ht']; exact w6.st.i _ _ ht'
          · obtain ⟨es3, hpe3, hpp3⟩ := paired_perm hp3 (paired_app w6.ln.p (.cons ht' .nil))
            refine ⟨G6', g5.trans s6'.g, _, us3, es3, cws', mws', rfl, w6.line ⟨hpp3, hh3⟩ f0 dl1 dl2 dl3, ?_⟩
            rw [List.take_succ, hj, ← List.append_assoc]
            exact hpe3.trans (hpm.append_right _)
        · rintro σ' G5 H5 ⟨a8', us2, es2, cws', mws', rfl, w5, hpm⟩
          rw [List.take_length] at hpm
          have hl3 := hpm.length_eq
          rw [List.length_append] at hl3
          refine ⟨_, G5, ?_, _, _, _, _, us2, es2, _, _, _, _, _, _, rfl, rfl, w5, ?_, ?_⟩
          · rw [hskl] at hsk32 ⊢; omega
          · rw [hskl]; omega
          · rw [← hnb] at hpm ⊢
            exact di.pop_new (e := (c, k, mk)) hpe hmin hs (fun m' w' => nbs_iff hhk) hpm
      · obtain ⟨sv, hs⟩ : ∃ sv, settled mk = some sv := by
          cases h : settled mk with
          | none => rw [h] at hs; cases hs
          | some sv => exact ⟨sv, rfl⟩
        have w3 := w2.go (s3.forget w2.nsd)
        refine ⟨_, wo G3 sd, ?_, _, _, _, _, us, es1, _, _, _, _, _, _, rfl, rfl, w3, by omega, di.pop_old (e := (c, k, mk)) hpe hs⟩
        omega
    · -- the end
      have w1 := w.go (s1.forget w.nln)
      generalize wo G1' ln = G1 at w1
      have he : es = [] := by simpa using hb
      subst he
      have gs : Ex G1 (upd G1 sd (.dK sws)) := Ex.new w1.nsd
      refine q (upd G1 sd (.dK sws)) H1' (w1.st.pub f3 w1.nsd w1.hsd) ?_
      obtain ⟨x', dx', bv', hx41, hx42, hx43⟩ := (chR C CC b cd md sd).mono (w1.gx.trans gs) hx
      cases hx41
      refine ⟨x, dx', _, .ref sd, rfl, hx42, rfl, skv, ⟨sd, sws, rfl, upd_same, w1.ks.mono gs⟩, fun k => ?_⟩
      rw [w1.ms.lk k, dist_eq (di.done k)]
  · obtain ⟨ds, hd, hB⟩ := D.binds1 (ps := ["self", "book", "first", "is_by_gives"]) 4 1 (fun z => by cases z) rfl fun T kV doc pm an cdv ct us its hu hi => match us, hu, its, hi with
      | [_, _, _, _], _, [_], _ => ⟨_, rfl, rfl⟩
    cases hd
    exact hB
end
end RT
end
section
set_option maxRecDepth 100000
set_option maxHeartbeats 4000000
/-! RTW15: fewest gives; is it open. -/
namespace RT
open PySem PySem.Spec PyProof.Rows L2
open Evl (Ex Ex.refl Ex.trans Ex.new Ex.mut)
def encO : Option Nat → PyData
  | none => .none
  | some c => .int (c : Int)
section
variable {X : Cx} {CX : CXT} {k j : Nat} {x : Str} {C CC : Addr} {p pos : Pos} {e : Expr} {es : List Expr} {t ta : TA} {ps : List Str} {sp : Sp} {E : XK} {σ : L2.St} {G : Hp} {td ty : TE} {b : Bk} {m n : Nat} {K : Fg} {mg : Str → Option Value}
/-- C(..), a class of the text -/
structure MkAt (P : Program) (w : World) (K : Fg) (mg : Str → Option Value) (base : Heap) (CX : CXT) (k : Nat) (C : Addr) (x : Str) (ps : List Str) (sp : Sp) : Prop where
  ex : ∃ f fd, FnOk P w K mg base CX k f fd ps sp ∧ Mk K C f ∧ L2.Binds K fd ps []
  gx : mg x = some (.ref C)
theorem pe_cheap (c : MkAt X.prog X.w X.K X.mg X.base CX k C x ps sp) (hr : Room j X.A) (hx : Passes CX X E) (ha : PA X (e :: es) t) (hkj : k + 1 ≤ j := by decide) (hg : Gl X x := by rfl) (hdb : (x == ("__debug__" : Str)) = false := by decide) (he : starEach (e :: es) X.env = (false, eval e X.env) :: starEach es X.env := by rfl)
    (hpl : (backTo pos (starEach es X.env)).any (·.1) = false := by rfl) : PE X (.Call (.Name x p) (e :: es) [] pos) (tMake C sp [] E t) := by
  obtain ⟨f, fd, F, M, hb⟩ := c.ex
  exact pe_make M F (hr.mono hkj) hg c.gx hb .nil hx ha hdb he hpl
theorem ed_cheap (ok : BOk b) (hm : m < 2 ^ b.n) (hh : b.holdP m = true) (h : EA ta σ G [bookR C b, dt (.int (m : Int)), dt (.bool true)]) : ED (tMake CC (InSp C CC) [] E ta) σ G (doneR CC b m) := fun H e Q q =>
  h H e _ fun vs G1 H1 s r x dx hx hdx hne => by
    obtain ⟨v1, v2, v3, rfl, r1, r2, r3⟩ := r.three
    cases Dx.int_inv r2
    cases Dx.bl_inv r3
    exact ⟨b, m, v1, x, dx, G1, H1, rfl, ok, hm, hh, s.i, r1, hx, hdx, hne, rfl, fun G' H' s2 rd => ⟨rfl, q _ G' H' (s.trans s2) rd⟩⟩
theorem ed_doneS (F : ChF K mg CC) (h : ED td σ G (doneR CC b m)) : ED (tFld K td "settled") σ G (givesR b m) := ed_fldI F.cls F.n5 h fun v G1 _ ⟨a, dx, fs, u, h1, h2, h3, h4⟩ => ⟨a, dx, fs, u, h1, h2, h3, h4⟩
theorem ed_gives (h1 : ED td σ G (givesR b m)) (h2 : ED ty σ G (dt (.int (n : Int)))) : ED (tDGet1 td ty) σ G (dt (encO (b.dist m n))) := fun H x Q q =>
  h1 H x _ fun v G1 H1 s1 ⟨kvs, ⟨a, ws, hv, ea, hx⟩, hk⟩ => by
    subst hv
    refine ⟨a, rfl, .inl ⟨ws, .inl (s1.i _ _ ea)⟩, ?_⟩
    refine (h2.mono s1.g) H1 s1.i _ fun y G2 H2 s2 r2 => ?_
    cases Dx.int_inv r2
    refine ⟨_, DGet.k (k := .inl (n : Int)) (s2.i _ _ (s2.g _ _ ea)), ?_⟩
    have hn := hk n
    rcases (hx.mono s2.g).look (k := .inl (n : Int)) with ⟨z1, z2⟩ | ⟨w, d', hv, hd, hr⟩
    · rw [z2]
      rw [z1] at hn
      cases hd : b.dist m n with
      | none => rw [hd] at q; exact q _ G2 H2 (s1.trans s2) .non
      | some c => rw [hd] at hn; cases hn
    · rw [hv]
      rw [hd] at hn
      cases hd2 : b.dist m n with
      | none => rw [hd2] at hn; cases hn
      | some c =>
        rw [hd2] at hn q
        cases hn
        exact q _ G2 H2 (s1.trans s2) hr
end
/-- what fewest_gives comes to -/
noncomputable def fewD (b : Bk) (g h : GV) : PyData := match g, h with
  | .gd m, .gd k => encO (b.dist m k)
  | _, _ => .none
noncomputable def fewOut (CB : Addr) (b : Bk) (g h : GV) : Out := match GV.out2 b CB g h with
  | .val _ => .val (dt (fewD b g h))
  | o => o
def leO (o : Option Nat) (k : Nat) : Bool := match o with
  | none => false
  | some c => decide (c ≤ k)
noncomputable def openD (b : Bk) (g h : GV) (v : MV) : PyData := match g, h, v with
  | .gd m, .gd k, .nat j => .bool (leO (b.dist m k) j)
  | _, _, _ => .none
noncomputable def openOut (CB CN : Addr) (b : Bk) (g h : GV) (v : MV) : Out := match GV.out2 b CB g h with
  | .val _ => match v.out CN with
    | .val _ => .val (dt (openD b g h v))
    | o => o
  | o => o
theorem GV.out2_val {b : Bk} {CB : Addr} {g h : GV} {R : Rel} (ho : GV.out2 b CB g h = .val R) : ∃ m k, g = .gd m ∧ h = .gd k ∧ b.holdP m = true ∧ b.holdP k = true ∧ R = dt .none := by
  have one : ∀ {g : GV} {R}, g.out b CB = .val R → ∃ m, g = .gd m ∧ b.holdP m = true ∧ R = dt .none := fun {g R} hg => by
    cases g with
    | gd m =>
      unfold GV.out at hg
      dsimp only at hg
      split at hg
      · rename_i z; cases hg; exact ⟨m, rfl, z, rfl⟩
      · cases hg
    | bad v => cases hg
  unfold GV.out2 at ho
  split at ho
  · rename_i R' hg
    obtain ⟨m, rfl, h1, _⟩ := one hg
    obtain ⟨k, rfl, h2, h3⟩ := one ho
    exact ⟨m, k, rfl, rfl, h1, h2, h3⟩
  · rename_i hg
    exact absurd ho (hg R)
theorem MV.out_val {CN : Addr} {v : MV} {R : Rel} (h : v.out CN = .val R) : ∃ j, v = .nat j := by
  cases v with
  | nat j => exact ⟨j, rfl⟩
  | _ => cases h
section
variable {P : Program} {w : World} {K : Fg} {mg : Str → Option Value} {base : Heap} {C CC CB CN : Addr}
theorem c_gives_from (T : Txt K mg) (BF : BookF K C) (F : ChF K mg CC) : Callee P w K mg base CX0 8 "gives_from" ["book", "build"] (FSp (fun a : Bk × Nat => BOk a.1 ∧ a.2 < 2 ^ a.1.n ∧ a.1.holdP a.2 = true) (fun a => [bookR C a.1, dt (.tuple ((a.1.bld a.2).map .str))]) (fun a => givesR a.1 a.2)) := by
  have c_mask_of := c_mask_of (P := P) (w := w) (base := base) T BF
  have c_Cheapest : MkAt P w K mg base CX0 6 CC "Cheapest" ["self", "book", "first", "is_by_gives"] (InSp C CC) := ⟨f_Cheapest_init T BF F, F.gx⟩
  refine callee T.d_gives_from sc_gives_from (fun _ _ _ _ _ _ us hl => match us, hl with | [_, _], _ => rfl) (fun _ => rfl) fun f cdv Ar outer s H0 E hr => ?_
  obtain ⟨hu0, hu, hu64, hu65⟩ := room0 hr
  refine ⟨_, (pss_one (ps_ret (pe_fldK K (pe_cheap c_Cheapest hr pass0 (pa_cons (pv 0) (pa_cons (pe_cl c_mask_of hr pass0 (pa_cons (pv 0) (pa_cons (pv 1) pa_nil))) (pa_cons pe_bl pa_nil))))))), fun a vs G H D hP hA e q => ?_⟩
  obtain ⟨b, m⟩ := a
  obtain ⟨ok, hm, hh⟩ := hP
  have ok : BOk b := ok
  obtain ⟨v, x, rfl, h1, h2⟩ := hA.two
  dsimp only at h1 h2 hm hh
  exact k_ret (R := givesR b m) (ed_doneS F (ed_cheap ok hm hh (ea_cons (ed_var (by rfl) h1) (ea_cons (ed_call (b, m) (ea_cons (ed_var (by rfl) h1) (ea_cons (ed_var (by rfl) h2) ea_nil)) ⟨ok, hm⟩) (ea_cons ed_bl ea_nil))))) e q
theorem c_fewest_gives (T : Txt K mg) (BF : BookF K C) (F : ChF K mg CC) (E_NoBuild : ErrF P w K mg base "NoBuild" "build" CB) : Callee P w K mg base (L2.CX P w) 9 "fewest_gives" ["book", "one", "other"] (RSp (fun a : Bk × GV × GV => BOk a.1 ∧ a.2.1.ok a.1 ∧ a.2.2.ok a.1) (fun a => [bookR C a.1, a.2.1.R a.1, a.2.2.R a.1]) (fun a => fewOut CB a.1 a.2.1 a.2.2)) := by
  have c_look_at_both := c_look_at_both (P := P) (w := w) (base := base) T BF E_NoBuild
  have c_gives_from := c_gives_from (P := P) (w := w) (base := base) T BF F
  have c_mask_of := c_mask_of (P := P) (w := w) (base := base) T BF
  refine calleeX T.d_fewest_gives sc_fewest_gives (fun _ _ _ _ _ _ us hl => match us, hl with | [_, _, _], _ => rfl) (fun _ => rfl) fun f cdv Ar outer s H0 E hr => ?_
  obtain ⟨hu0, hu, hu64, hu65⟩ := room0 hr
  refine ⟨_, (pss_cons (ps_expr (pe_cl c_look_at_both hr (L2.passes_call (L2.takes_of rfl rfl rfl rfl) (fun _ _ _ _ h => h)) (pa_cons (pv 0) (pa_cons (pv 1) (pa_cons (pv 2) pa_nil))))) (pss_one (ps_ret (pe_dget1 hu (pe_cl c_gives_from hr L2.pass0 (pa_cons (pv 0) (pa_cons (pv 1) pa_nil))) (pe_cl c_mask_of hr L2.pass0 (pa_cons (pv 0) (pa_cons (pv 2) pa_nil))) ⟨rfl, rfl, rfl, rfl⟩)))), fun a vs G H Q hP hA e q => ?_⟩
  obtain ⟨b, g, h⟩ := a
  obtain ⟨ok, hg, hh⟩ := hP
  have ok : BOk b := ok
  obtain ⟨v, x, y, rfl, h1, h2, h3⟩ := hA.three
  dsimp only at h1 h2 h3 hg hh q
  refine k_dropR (Q := Q) (b, g, h) (ea_cons (ed_var (by rfl) h1) (ea_cons (ed_var (by rfl) h2) (ea_cons (ed_var (by rfl) h3) ea_nil))) ⟨ok, hg, hh⟩ e (fun R hR G1 H1 s1 => ?_) fun C' fld R hR => ?_
  · have hR : GV.out2 b CB g h = .val R := hR
    unfold fewOut at q
    rw [hR] at q
    obtain ⟨m, k, rfl, rfl, hm, hk, rfl⟩ := GV.out2_val hR
    exact k_ret (R := dt (encO (b.dist m k))) (ed_gives (ed_call (b, m) (ea_cons (ed_var (by rfl) ((bookR C b).mono s1.g h1)) (ea_cons (ed_var (by rfl) (((GV.gd m).R b).mono s1.g h2)) ea_nil)) ⟨ok, hg, hm⟩) (ed_call (b, k) (ea_cons (ed_var (by rfl) ((bookR C b).mono s1.g h1)) (ea_cons (ed_var (by rfl) (((GV.gd k).R b).mono s1.g h3)) ea_nil)) ⟨ok, hh⟩)) s1.i fun v G2 H2 s2 r => q v G2 H2 (s1.trans s2) r
  · have hR : GV.out2 b CB g h = .exc C' fld R := hR
    unfold fewOut at q
    rw [hR] at q
    exact q
theorem c_is_open (T : Txt K mg) (BF : BookF K C) (F : ChF K mg CC) (E_NoBuild : ErrF P w K mg base "NoBuild" "build" CB) (E_NoNumber : ErrF P w K mg base "NoNumber" "value" CN) : Callee P w K mg base (L2.CX P w) 9 "is_open" ["book", "one", "other", "many"] (RSp (fun a : Bk × GV × GV × MV => BOk a.1 ∧ a.2.1.ok a.1 ∧ a.2.2.1.ok a.1) (fun a => [bookR C a.1, a.2.1.R a.1, a.2.2.1.R a.1, dt a.2.2.2.d]) (fun a => openOut CB CN a.1 a.2.1 a.2.2.1 a.2.2.2)) := by
  have c_look_at_both := c_look_at_both (P := P) (w := w) (base := base) T BF E_NoBuild
  have c_look_at_many := c_look_at_many (P := P) (w := w) (base := base) T E_NoNumber
  have c_gives_from := c_gives_from (P := P) (w := w) (base := base) T BF F
  have c_mask_of := c_mask_of (P := P) (w := w) (base := base) T BF
  refine calleeX T.d_is_open sc_is_open (fun _ _ _ _ _ _ us hl => match us, hl with | [_, _, _, _], _ => rfl) (fun _ => rfl) fun f cdv Ar outer s H0 E hr => ?_
  obtain ⟨hu0, hu, hu64, hu65⟩ := room0 hr
  refine ⟨_, (pss_cons (ps_expr (pe_cl c_look_at_both hr (L2.passes_call (L2.takes_of rfl rfl rfl rfl) (fun _ _ _ _ h => h)) (pa_cons (pv 0) (pa_cons (pv 1) (pa_cons (pv 2) pa_nil))))) (pss_cons (ps_expr (pe_cl c_look_at_many hr (L2.passes_call (L2.takes_of rfl rfl rfl rfl) (fun _ _ _ _ h => h)) (pa_cons (pv 3) pa_nil))) (pss_cons (ps_set (i := 4) sc_is_open.nd rfl (Or.inl rfl) (pe_dget1 hu (pe_cl c_gives_from hr L2.pass0 (pa_cons (pv 0) (pa_cons (pv 1) pa_nil))) (pe_cl c_mask_of hr L2.pass0 (pa_cons (pv 0) (pa_cons (pv 2) pa_nil))) ⟨rfl, rfl, rfl, rfl⟩)) (pss_one (ps_ret (pe_and (pe_cmpR op_notN1 (pv 4) pe_non (nomark _)) (pe_one (pe_cmpR op_le1 (pv 4) (pv 3) (nomark _))))))))), fun a vs G H Q hP hA e q => ?_⟩
  obtain ⟨b, g, h, mv⟩ := a
  obtain ⟨ok, hg, hh⟩ := hP
  have ok : BOk b := ok
  obtain ⟨v, x, y, z, rfl, h1, h2, h3, h4⟩ := hA.four
  dsimp only at h1 h2 h3 h4 hg hh q
  refine k_dropR (Q := Q) (b, g, h) (ea_cons (ed_var (by rfl) h1) (ea_cons (ed_var (by rfl) h2) (ea_cons (ed_var (by rfl) h3) ea_nil))) ⟨ok, hg, hh⟩ e (fun R hR G1 H1 s1 => ?_) fun C' fld R hR => ?_
  · have hR : GV.out2 b CB g h = .val R := hR
    unfold openOut at q
    rw [hR] at q
    dsimp only at q
    obtain ⟨m, k, rfl, rfl, hm, hk, rfl⟩ := GV.out2_val hR
    refine k_dropR (Q := Q) mv (ea_cons (ed_var (by rfl) (Dx.mono s1.g h4)) ea_nil) True.intro s1.i (fun R2 hR2 G2 H2 s2 => ?_) fun C' fld R2 hR2 => ?_
    · have hR2 : mv.out CN = .val R2 := hR2
      rw [hR2] at q
      obtain ⟨j, rfl⟩ := MV.out_val hR2
      have s12 := s1.trans s2
      refine k_asgS (R := dt (encO (b.dist m k))) (ed_gives (ed_call (b, m) (ea_cons (ed_var (by rfl) ((bookR C b).mono s12.g h1)) (ea_cons (ed_var (by rfl) (((GV.gd m).R b).mono s12.g h2)) ea_nil)) ⟨ok, hg, hm⟩) (ed_call (b, k) (ea_cons (ed_var (by rfl) ((bookR C b).mono s12.g h1)) (ea_cons (ed_var (by rfl) (((GV.gd k).R b).mono s12.g h3)) ea_nil)) ⟨ok, hh⟩)) s2.i fun tv G3 H3 s3 rt => ?_
      refine k_ret (R := dt (.bool (leO (b.dist m k) j))) ?_ s3.i fun v G4 H4 s4 r => q v G4 H4 ((s12.trans s3).trans s4) r
      cases hd : b.dist m k with
      | none =>
        rw [hd] at rt
        exact ED.eq (ed_andV (a := false) (b := false) (ed_notNn (d := .none) (ed_var (by rfl) rt)) fun z => by cases z) rfl
      | some c =>
        rw [hd] at rt
        exact ED.eq (ed_andV (ed_notNn (d := .int (c : Int)) (ed_var (by rfl) rt)) fun _ => ed_le (i := (c : Int)) (j := (j : Int)) (ed_var (by rfl) rt) (ed_var (by rfl) (Dx.mono (s12.g.trans s3.g) h4))) (by simp [isNn, leO])
    · have hR2 : mv.out CN = .exc C' fld R2 := hR2
      rw [hR2] at q
      exact Out.after (o := .exc C' fld R2) q s1
  · have hR : GV.out2 b CB g h = .exc C' fld R := hR
    unfold openOut at q
    rw [hR] at q
    exact q
end
end RT
end
section
set_option maxRecDepth 100000
set_option maxHeartbeats 4000000
/-! RTW16: what a book asks at a name. -/
namespace RT
open PySem PySem.Spec PyProof.Rows L2
open Evl (Ex Ex.refl Ex.trans Ex.new Ex.mut)
/-- an object with these fields -/
def objR (C : Addr) (l : List Fld) : Rel := ⟨fun v G => ∃ a dx fs, v = .ref a ∧ G a = some (.ins C dx fs) ∧ ∀ q ∈ l, ∃ u, fs.lookup q.1 = some u ∧ q.2.r u G, fun e ⟨a, dx, fs, h1, h2, h3⟩ => ⟨a, dx, fs, h1, e _ _ h2, fun q hq => let ⟨u, h4, h5⟩ := h3 q hq; ⟨u, h4, q.2.mono e h5⟩⟩⟩
theorem at_last {α : Type} (xs : List α) (x : α) : atI (xs ++ [x]) (-1) = some x := by
  unfold atI ixN
  rw [if_neg (by decide)]
  have h : -((xs ++ [x]).length : Int) ≤ -1 := by simp; omega
  rw [if_pos h]
  have e : (-1 + ((xs ++ [x]).length : Int)).toNat = xs.length := by simp; omega
  show (xs ++ [x])[(-1 + ((xs ++ [x]).length : Int)).toNat]? = some x
  rw [e]; simp
section
variable {σ : L2.St} {G H : Hp} {te ta : TE} {K : Fg} {C : Addr} {b : Bk} {l : List Fld}
theorem ed_fldO {f : Str} {R : Rel} (F : BookF K C) (h : ED te σ G (objR C l)) (hn : f ∈ (["record", "own_points", "own_reset", "own_names", "own_tiers", "tier_by", "spots", "bits", "own_needs", "own_prices", "own_given", "barred", "asked"] : List Str)) (i : Nat) (hf : l[i]? = some (f, R) := by rfl) : ED (tFld K te f) σ G R :=
  ed_fldI F.cls (F.no f hn) h fun v G1 _ ⟨a, dx, fs, h1, h2, h3⟩ => by
    obtain ⟨u, h4, h5⟩ := h3 _ (List.mem_of_getElem? hf)
    exact ⟨a, dx, fs, u, h1, h2, h4, h5⟩
theorem ask_len (ok : BOk b) (i : Nat) : (b.ask i).length ≤ 13 := by
  unfold Bk.ask
  rw [List.length_cons, List.length_map]
  have := List.length_filter_le (fun w : Wt => decide (w.who = i)) b.wants
  have := ok.wl
  omega
/-- a want's number, by its word -/
theorem many_get {σ : L2.St} {x : Wt} (ok : WOk b.n x) {k : Nat} (hv : ED (tVar k) σ G (dt (.tuple (dWL b x)))) {K1 : Fg} : ED (tDGet (tDisp [(tC (.str "all"), tCB (rLenU K) (tCons (tOp (rIx K) (tVar k) (tC (.int 2))) tNil)), (tC (.str "any"), tC (.int 1)), (tC (.str "count"), tOp (rIx K) (tVar k) (tUn rNeg (tC (.int 1))))]) (tOp (rIx K) (tVar k) (tC (.int 0)))) σ G (dt (.int (wMany x : Int))) := by
  obtain ⟨ds, d, hl⟩ : ∃ ds d, dWL b x = ds ++ [d] ∧ (x.kind = .count → d = .int (x.many : Int)) := by
    by_cases h : x.kind = .count
    · exact ⟨[.str (kS x.kind), .str (b.nm x.who), .tuple ((x.some.map b.nm).map .str)], .int (x.many : Int), by unfold dWL; rw [if_pos h], fun _ => rfl⟩
    · exact ⟨[.str (kS x.kind), .str (b.nm x.who)], .tuple ((x.some.map b.nm).map .str), by unfold dWL; rw [if_neg h]; rfl, fun z => absurd z h⟩
  have h2 := ed_ixT (K := K) hv (ed_int (i := 2)) at_w2
  have h0 := ed_ixT (K := K) hv (ed_int (i := 0)) at_w0
  have hL := ed_ixT (K := K) hv (ed_neg (ed_int (i := 1))) (d := d) (by rw [hl.1]; exact at_last ds d)
  refine ed_dget (k := .inr (kS x.kind)) (ed_disp (kvs := [(.inr "all", .int (x.some.length : Int)), (.inr "any", .int 1), (.inr "count", d)]) ⟨.inr "all", _, _, rfl, ed_str, ED.eq (ed_lenT h2) (by simp), .inr "any", _, _, rfl, ed_str, ed_int, .inr "count", _, _, rfl, ed_str, hL, rfl⟩ (by simp)) h0 ?_
  cases hk : x.kind with
  | all => unfold wMany; rw [hk]; rfl
  | any => unfold wMany; rw [hk]; rfl
  | count => rw [hl.2 hk]; unfold wMany; rw [hk]; rfl
end
section
variable {P : Program} {w : World} {K : Fg} {mg : Str → Option Value} {base : Heap} {C : Addr}
def preR (C : Addr) (b : Bk) : Rel := objR C ((flds b).take 12)
theorem mask_sum (l : List Nat) : (l.map fun i => ((2 ^ i : Nat) : Int)).sum = ((maskOf l : Nat) : Int) := by
  unfold maskOf
  induction l with
  | nil => rfl
  | cons a l ih => rw [List.map_cons, List.sum_cons, ih, List.map_cons, List.sum_cons]; simp
theorem mt_asked_by (T : Txt K mg) (F : BookF K C) (D0 : MethAt K C "asked_by" "Book.asked_by" s_Book_asked_by) : MCal P w K mg base CX0 1 C "asked_by" ["self", "name"] (FSp (fun a : Bk × Nat => BOk a.1 ∧ a.2 < a.1.n) (fun a => [preR C a.1, dt (.str (a.1.nm a.2))]) (fun a => dt (.list ((a.1.ask a.2).map fun q => .tuple [.int q.1, .int q.2])))) := by
  refine mcal D0 sc_Book_asked_by (fun _ _ _ _ _ _ us hl => match us, hl with | [_, _], _ => rfl) (fun _ => rfl) fun f cdv Ar outer s H0 E hr => ?_
  obtain ⟨hu0, hu, hu64, hu65⟩ := room0 hr
  refine ⟨_, (pss_cons (ps_set (i := 2) sc_Book_asked_by.nd rfl (Or.inr rfl) (pe_dget hu (pe_fldK K (pv 0)) (pv 1) (fun _ _ => rfl))) (pss_cons (ps_set (i := 3) sc_Book_asked_by.nd rfl (Or.inl rfl) (pe_callB (call_sumU K) (by rfl) T.f_sum (by decide +kernel) (pa_cons (pe_lc (own := [("one", 8), ("other", 9)]) rfl sc_Book_asked_by.nd (pi_zipK K (by rfl) T.f_zip (pa_cons (pe_fldK K (pv 0)) (pa_cons (pe_fldK K (pv 0)) pa_nil))) (blkOk_by (own := [("one", 8), ("other", 9)]) (N := N_Book_asked_by) (sc := defScope s_Book_asked_by) (by decide +kernel)) (fun _ _ _ _ _ => (pg_tupK K (n := 2) (pgs_cons (pg_name (i := 8) sc_Book_asked_by.nd rfl (Or.inl rfl)) (pgs_cons (pg_name (i := 9) sc_Book_asked_by.nd rfl (Or.inl rfl)) pgs_nil)))) (fun _ _ _ _ _ => (pts_one (pt_cmpR (op_ltU K hu0) (pv 9) (pv 2) (nomark _)))) (fun _ _ _ _ _ => (pe_dget hu (pe_fldK K (pv 0)) (pv 8) (fun _ _ => rfl)))) pa_nil))) (pss_cons (ps_set (i := 4) sc_Book_asked_by.nd rfl (Or.inl rfl) (pe_lst (pa_cons (pe_tup (pa_cons (pv 3) (pa_cons (pe_dget2 hu (pe_fldK K (pv 0)) (pv 2) pe_int ⟨rfl, rfl, rfl, rfl⟩) pa_nil))) pa_nil))) (pss_cons (ps_for PassesOwn.never rfl (pi_tupK K (pe_ix (ix_seqK K) (pe_fldK K (pv 0)) pe_int (fun _ _ => rfl))) (pg_name (i := 5) sc_Book_asked_by.nd rfl (Or.inl rfl)) (pss_one (ps_if (pt_cmpR (op_eqK K hu64) (pe_ix (ix_seqK K) (pv 5) pe_int (fun _ _ => rfl)) (pv 1) (nomark _)) (pss_cons (ps_set (i := 6) sc_Book_asked_by.nd rfl (Or.inl rfl) (pe_callB (call_sumU K) (by rfl) T.f_sum (by decide +kernel) (pa_cons (pe_lc (own := [("one", 8)]) rfl sc_Book_asked_by.nd (pi_tupK K (pe_ix (ix_seqK K) (pv 5) pe_int (fun _ _ => rfl))) (blkOk_by (own := [("one", 8)]) (N := N_Book_asked_by) (sc := defScope s_Book_asked_by) (by decide +kernel)) (fun _ _ _ _ _ => (pg_name (i := 8) sc_Book_asked_by.nd rfl (Or.inl rfl))) (fun _ _ _ _ _ => pts_nil) (fun _ _ _ _ _ => (pe_dget hu (pe_fldK K (pv 0)) (pv 8) (fun _ _ => rfl)))) pa_nil))) (pss_cons (ps_set (i := 7) sc_Book_asked_by.nd rfl (Or.inl rfl) (pe_dget hu (pe_disp (pps_cons pe_str (pe_callB (call_lenU K) (by rfl) T.f_len (by decide +kernel) (pa_cons (pe_ix (ix_seqK K) (pv 5) pe_int (fun _ _ => rfl)) pa_nil)) (pps_cons pe_str pe_int (pps_cons pe_str (pe_ix (ix_seqK K) (pv 5) (pe_un un_neg1 pe_int) (fun _ _ => rfl)) pps_nil))) (by rfl) (by rfl) (fun z => by cases z) (by decide)) (pe_ix (ix_seqK K) (pv 5) pe_int (fun _ _ => rfl)) (fun _ _ => rfl))) (pss_one (ps_expr (pe_bm PySem.F.plainAttrs_list PySem.F.slot_list_append PySem.F.type_list_append mt_append (pv 4) (pa_cons (pe_tup (pa_cons (pv 6) (pa_cons (pv 7) pa_nil))) pa_nil)))))) pss_nil))) (pss_one (ps_ret (pv 4))))))), fun a vs G H D hP hA e q => ?_⟩
  obtain ⟨b, i⟩ := a
  obtain ⟨ok, hi⟩ := hP
  have ok : BOk b := ok
  have n5 : b.n ≤ 5 := ok.n5
  obtain ⟨v, x, rfl, h1, h2⟩ := hA.two
  dsimp only at h1 h2 hi q
  have sf : ∀ {σ : L2.St} {G2}, σ[0]? = some (some v) → Ex G G2 → ED (tVar 0) σ G2 (objR C ((flds b).take 12)) := fun hσ g => ed_var hσ ((objR C _).mono g h1)
  have bit : ∀ {σ : L2.St} {G2} {j : Nat} {y : V} {k : Nat}, σ[0]? = some (some v) → Ex G G2 → j < b.n → σ[k]? = some (some y) → Dx G2 y (.str (b.nm j)) → ED (tDGet (tFld K (tVar 0) "bits") (tVar k)) σ G2 (dt (.int ((2 ^ j : Nat) : Int))) := fun {σ G2 j y k} hσ g hj hy ry =>
    ed_dget (k := .inr (b.nm j)) (ed_fldO F (sf hσ g) (by decide +kernel) 7) (ed_var hy ry) (look_map (f := fun i => (Sum.inr (b.nm i) : Key)) (g := fun i => PyData.int ((2 ^ i : Nat) : Int)) (List.mem_range.mpr hj) fun x hx e => nm_inj ok (List.mem_range.mp hx) hj (by injection e))
  refine k_asgS (R := dt (.int (b.tier i : Int))) (ed_dget (k := .inr (b.nm i)) (ed_fldO F (sf rfl (Ex.refl _)) (by decide +kernel) 5) (ed_var (by rfl) h2) ?_) e fun tv G1 H1 s1 r1 => ?_
  · rw [rows_eq (b := b), List.map_map]
    exact look_map (f := fun i => (Sum.inr (b.nm i) : Key)) (g := fun i => PyData.int (b.tier i : Int)) (List.mem_range.mpr hi) fun x hx e => nm_inj ok (List.mem_range.mp hx) hi (by injection e)
  cases Dx.int_inv r1
  have ez : (b.nms.map PyData.str).zip (b.rows.map fun p => PyData.int (p.2 : Int)) = (List.range b.n).map fun j => (PyData.str (b.nm j), PyData.int (b.tier j : Int)) := by
    rw [nms_eq, rows_eq (b := b), List.map_map, List.map_map, List.zip_map']
    rfl
  refine k_asgS (R := dt (.int ((maskOf (b.low i) : Nat) : Int))) (ED.eq (ed_sum (ns := (b.low i).map fun j => ((2 ^ j : Nat) : Int)) (ED.eq (ed_lcP (xs := List.range b.n) (a := fun j => .str (b.nm j)) (b := fun j => .int (b.tier j : Int)) (p := fun j => decide (b.tier j < b.tier i)) (f := fun j => .int ((2 ^ j : Nat) : Int)) ?_ (by simp; omega) fun j hj y z G2 g2 ry rz => ⟨ET.eq (et_test (ed_lt (ed_var (by rfl) rz) (ed_var (by rfl) (.int _)))) (dec_lt _ _), fun _ => bit (by rfl) (s1.g.trans g2) (List.mem_range.mp hj) (by rfl) ry⟩) (by unfold Bk.low; rw [List.map_map]; rfl))) (congrArg PyData.int (mask_sum _))) s1.i fun bv G2 H2 s2 r2 => ?_
  · have := ei_zip (K := K) (ed_fldO (f := "own_names") F (sf (σ := (L2.start N_Book_asked_by [v, x]).set 2 (some (.int (b.tier i : Int)))) rfl s1.g) (by decide +kernel) 3) (ed_fldO (f := "own_tiers") F (sf (σ := (L2.start N_Book_asked_by [v, x]).set 2 (some (.int (b.tier i : Int)))) rfl s1.g) (by decide +kernel) 4)
    rw [ez, List.map_map] at this
    exact this
  cases Dx.int_inv r2
  have s12 := s1.trans s2
  refine k_lstS (Step.refl s2.i) (ead_cons (ED.eq (ed_tup (ead_cons (ed_var (by rfl) (.int _)) (ead_cons (ed_dget2 (k := .inl (b.tier i : Int)) (ed_fldO F (sf rfl s12.g) (by decide +kernel) 8) (ed_var (by rfl) (.int _)) ed_int) ead_nil)) (by simp)) (show _ = .tuple [.int ((maskOf (b.low i) : Nat) : Int), .int ((b.needOf (b.tier i) : Nat) : Int)] from ?_)) ead_nil) (by simp) fun p vs G3 H3 g3 s3 n3 hp0 _ e3 x3 => ?_
  · congr 3
    unfold Bk.needOf
    have := look_inj (f := fun j => (.inl (j : Int) : Key)) (g := fun c : Nat => PyData.int (c : Int)) (n := 5) (i := b.tier i) (fun j _ z => by injection z with z; omega) (l := b.needs) (fun p hp => by have := (ok.no p hp).2.1; omega)
    rw [this]
    cases lookG b.needs (b.tier i) <;> rfl
  refine k_for (D := { D with nx := tRet (tVar 4) D }) (xs := b.wants) (Rx := fun w => dt (dWant b w)) (ei_tupM (ed_ixT (ed_fldO F (sf rfl (s12.g.trans g3)) (by decide +kernel) 0) ed_int (at_nat (j := 3) rfl))) s3.i
    (fun j σ' G' H' => ∃ a5 a6 a7, σ' = [some v, some x, some (.int (b.tier i : Int)), some (.int ((maskOf (b.low i) : Nat) : Int)), some (.ref p), a5, a6, a7, none, none] ∧ Step G2 H2 G' H' ∧ G' p = none ∧ ∃ vs', H' p = some (.lst vs') ∧ DxA G' vs' (((maskOf (b.low i), b.needOf (b.tier i)) :: ((b.wants.take j).filter fun w => decide (w.who = i)).map fun w => (maskOf w.some, wMany w)).map fun q : Nat × Nat => .tuple [.int (q.1 : Int), .int (q.2 : Int)]))
    (fun G4 H4 s4 => ⟨none, none, none, rfl, s3.trans s4, s4.s p (sm_none e3) n3, vs, s4.h _ _ e3, x3.mono s4.g⟩) (fun j σ' G' H' ⟨_, _, _, _, s, _⟩ => s.i) ?_ ?_
  · intro G4 g4 j wt u σ' G' H' G5 H5 hj hI g5 s5 rv
    obtain ⟨a5, a6, a7, rfl, sI, np, vs', ep, xp⟩ := hI
    have hw := ok.wo wt (List.mem_of_getElem? hj)
    have rv : Dx G5 u (.tuple (dWL b wt)) := rv
    have etake : ∀ f : Wt → Bool, (b.wants.take (j + 1)).filter f = (b.wants.take j).filter f ++ if f wt = true then [wt] else [] := fun f => by
      rw [List.take_succ, hj, List.filter_append]; simp [List.filter_cons]
    have gg := s12.g.trans (sI.g.trans s5.g)
    show tIfS _ _ tNext _ ([some v, some x, some (.int (b.tier i : Int)), some (.int ((maskOf (b.low i) : Nat) : Int)), some (.ref p), some u, a6, a7, none, none] : L2.St) H5
    refine k_if (b := decide (wt.who = i)) (ET.eq (et_test (ed_eqS (x := b.nm wt.who) (y := b.nm i) (ed_ixT (ed_var (by rfl) rv) ed_int at_w1) (ed_var (by rfl) (Dx.mono gg h2)) (nm_word ok hw.who) (nm_word ok hi))) (decide_eq_decide.mpr ⟨fun z => nm_inj ok hw.who hi z, fun z => by rw [z]⟩)) s5.i (fun hb G6 H6 s6 => ?_) fun hb G6 H6 s6 => ?_
    · refine k_asgS (R := dt (.int ((maskOf wt.some : Nat) : Int))) (ED.eq (ed_sum (ns := wt.some.map fun j => ((2 ^ j : Nat) : Int)) (ED.eq (ed_lcN1 (xs := wt.some) (Rx := fun j => dt (.str (b.nm j))) (f := fun j => .int ((2 ^ j : Nat) : Int)) (ei_tupM (ed_ixT (ed_var (by rfl) (Dx.mono s6.g rv)) ed_int at_w2)) (by have := hw.len; omega) fun j hj y G7 g7 ry => bit (by rfl) (gg.trans (s6.g.trans g7)) (hw.lt j hj).1 (by rfl) ry) (by rw [List.map_map]; rfl))) (congrArg PyData.int (mask_sum _))) s6.i fun mv G7 H7 s7 r7 => ?_
      refine k_asgS (R := dt (.int (wMany wt : Int))) (many_get hw (K1 := K) (ed_var (by rfl) (Dx.mono (s6.g.trans s7.g) rv))) s7.i fun nv G8 H8 s8 r8 => ?_
      have s58 := ((s5.trans s6).trans s7).trans s8
      have ep8 := s58.h _ _ ep
      have np8 := s58.s p (sm_none ep) np
      have hlen : (((b.wants.take j).filter fun w => decide (w.who = i))).length ≤ 12 := by
        have h3 := List.length_filter_le (fun w : Wt => decide (w.who = i)) (b.wants.take j)
        have h4 : (b.wants.take j).length ≤ b.wants.length := by simp; omega
        have := ok.wl; omega
      refine k_appM (Rv := dt (.tuple [.int ((maskOf wt.some : Nat) : Int), .int (wMany wt : Int)])) s8.i (by rfl) ep8 np8 (by rw [xp.length]; simp; exact sz_lt (by omega)) (ed_tup (ead_cons (ed_var (by rfl) (Dx.mono s8.g r7)) (ead_cons (ed_var (by rfl) r8) ead_nil)) (by simp)) fun y G9 H9 s9 n9 ep9 ry => ?_
      refine ⟨G9, g5.trans (s58.g.trans s9.g), _, _, _, rfl, (sI.trans s58).thenM s9 fun a h => by rw [h]; exact hp0, n9, _, ep9, ?_⟩
      rw [etake, if_pos hb]
      simp only [List.map_append, List.map_cons, List.map_nil]
      have := (xp.mono (s58.g.trans s9.g)).append (.cons ry .nil)
      simpa using this
    · refine ⟨G6, g5.trans (s5.g.trans s6.g), _, _, _, rfl, (sI.trans s5).trans s6, (s5.trans s6).s p (sm_none ep) np, vs', (s5.trans s6).h _ _ ep, ?_⟩
      rw [etake, if_neg (by rw [hb]; decide), List.append_nil]
      exact xp.mono (s5.trans s6).g
  · rintro σ' G' H' ⟨a5, a6, a7, rfl, sI, np, vs', ep, xp⟩ _
    rw [List.take_length] at xp
    have s5 := sI.pub hp0 np ep
    refine k_ret (R := dt (.list ((b.ask i).map fun q => .tuple [.int (q.1 : Int), .int (q.2 : Int)]))) (ed_var (by rfl) (.lst upd_same (xp.mono (Ex.new np)))) s5.i fun v G6 H6 s6 r => q v G6 H6 ((s12.trans s5).trans s6) r
end
end RT
end
section
set_option maxRecDepth 100000
set_option maxHeartbeats 4000000
/-! RTW17: a book is made. -/
namespace RT
open PySem PySem.Spec PyProof.Rows L2
open Evl (Ex Ex.refl Ex.trans Ex.new Ex.mut)
mutual
theorem Dx.wo {G : Hp} {x C dx : Addr} {fs : List (Str × V)} (hx : G x = some (.ins C dx fs)) : ∀ {v : V} {d : PyData}, Dx G v d → Dx (wo G x) v d
  | _, _, .non => .non
  | _, _, .bl b => .bl b
  | _, _, .int i => .int i
  | _, _, .str s => .str s
  | _, _, .lst (a := a) h t => .lst (by rw [wo_ne (fun z => by rw [z, hx] at h; cases h)]; exact h) (DxA.wo hx t)
  | _, _, .tup (a := a) h t => .tup (by rw [wo_ne (fun z => by rw [z, hx] at h; cases h)]; exact h) (DxA.wo hx t)
theorem DxA.wo {G : Hp} {x C dx : Addr} {fs : List (Str × V)} (hx : G x = some (.ins C dx fs)) : ∀ {vs : List V} {ds : List PyData}, DxA G vs ds → DxA (wo G x) vs ds
  | _, _, .nil => .nil
  | _, _, .cons h t => .cons (Dx.wo hx h) (DxA.wo hx t)
end
theorem KDx.wo {G : Hp} {x C dx : Addr} {fs : List (Str × V)} (hx : G x = some (.ins C dx fs)) : ∀ {ws : List (Key × V)} {kvs : List (Key × PyData)}, KDx G ws kvs → KDx (wo G x) ws kvs
  | _, _, .nil => .nil
  | _, _, .cons h t => .cons ⟨h.1, Dx.wo hx h.2⟩ (KDx.wo hx t)
/-- a relation that holds no object -/
def Port (R : Rel) : Prop := ∀ (v : V) (G : Hp) (x C dx : Addr) (fs : List (Str × V)), G x = some (.ins C dx fs) → R.r v G → R.r v (wo G x)
theorem port_dt {d : PyData} : Port (dt d) := fun v G x C dx fs hx h => Dx.wo hx h
theorem port_dk {kvs : List (Key × PyData)} : Port (dkR kvs) := fun v G x C dx fs hx ⟨a, ws, h1, h2, h3⟩ => ⟨a, ws, h1, by rw [wo_ne (fun z => by rw [z, hx] at h2; cases h2)]; exact h2, h3.wo hx⟩
def FS (l : List Fld) (fs : List (Str × V)) (G : Hp) : Prop := ∀ q ∈ l, ∃ u, fs.lookup q.1 = some u ∧ q.2.r u G
theorem FS.mono {l : List Fld} {fs : List (Str × V)} {G G' : Hp} (g : Ex G G') (h : FS l fs G) : FS l fs G' := fun q hq => let ⟨u, h1, h2⟩ := h q hq; ⟨u, h1, q.2.mono g h2⟩
abbrev FNS : List Str := ["record", "own_points", "own_reset", "own_names", "own_tiers", "tier_by", "spots", "bits", "own_needs", "own_prices", "own_given", "barred", "asked"]
/-- .. and it hides no method -/
def objN (C : Addr) (l : List Fld) : Rel := ⟨fun v G => ∃ a dx fs, v = .ref a ∧ G a = some (.ins C dx fs) ∧ FS l fs G ∧ fs.lookup ("asked_by" : Str) = none, fun e ⟨a, dx, fs, h1, h2, h3, h4⟩ => ⟨a, dx, fs, h1, e _ _ h2, h3.mono e, h4⟩⟩
theorem objN_R {C : Addr} {l : List Fld} {v : V} {G : Hp} (h : (objN C l).r v G) : (objR C l).r v G := let ⟨a, dx, fs, h1, h2, h3, _⟩ := h; ⟨a, dx, fs, h1, h2, h3⟩
theorem ed_methI {α : Type} {P : α → Prop} {A : α → List Rel} {B : α → Rel} {m : Str} {Rs : List Rel} {σ : L2.St} {G : Hp} {te : TE} {tl : TA} {C : Addr} {R0 R1 R : Rel} {E : XK} (a : α) (h0 : ED te σ G R0) (hi : ∀ v G1, R0.r v G1 → ∃ x dx fs, v = .ref x ∧ G1 x = some (.ins C dx fs) ∧ fs.lookup m = none) (h01 : ∀ v G1, R0.r v G1 → R1.r v G1) (h : EA tl σ G Rs) (hp : P a) (hA : A a = R1 :: Rs := by rfl) (hR : B a = R := by rfl) : ED (tMeth C m (FSp P A B) [] E te tl) σ G R := fun H e Q q =>
  h0 H e _ fun v G1 H1 s1 r1 => by
    obtain ⟨x, dx, fs, rfl, ex, hl⟩ := hi v G1 r1
    refine ⟨x, dx, fs, rfl, s1.i _ _ ex, hl, ?_⟩
    refine (h.mono s1.g) H1 s1.i _ fun vs G2 H2 s2 r2 => ?_
    subst hR
    rw [List.append_nil]
    exact ⟨a, G2, hp, s2.i, by rw [hA]; exact .cons (R1.mono s2.g (h01 _ _ r1)) r2, fun v G3 H3 s3 r3 => q v G3 H3 ((s1.trans s2).trans s3) r3⟩
section
variable {G0 H0 G H : Hp} {x C dx : Addr} {fs : List (Str × V)} {l l' : List Fld} {f : Str} {R : Rel} {σ : L2.St} {D : Ends} {tv : TE} {tw : TS} {K : Fg} {b : Bk}
/-- all that is known of a book in the making -/
structure MK (C dx x : Addr) (G0 H0 G H : Hp) (fs : List (Str × V)) (l : List Fld) : Prop where
  st : Step G0 H0 G H
  hx : H x = some (.ins C dx fs)
  nx : G x = none
  fl : FS l fs G
  ln : fs.length ≤ 900
  na : fs.lookup ("asked_by" : Str) = none
theorem MK.go {G1 H1 : Hp} (m : MK C dx x G0 H0 G H fs l) (s : Step G H G1 H1) : MK C dx x G0 H0 G1 H1 fs l := ⟨m.st.trans s, s.h _ _ m.hx, s.s x (sm_none m.hx) m.nx, m.fl.mono s.g, m.ln, m.na⟩
theorem k_fldW (m : MK C dx x G0 H0 G H fs l) (h0 : H0 x = none) (hσ : σ[0]? = some (some (.ref x))) (F : BookF K C) (hn : f ∈ FNS) (hm : f ≠ "asked_by") (hv : ∀ Gp, Ex G Gp → (objN C l).r (.ref x) Gp → ED tv σ Gp R) (port : Port R) (hl : fs.length < 900) (hl' : ∀ q ∈ l', q = (f, R) ∨ (q ∈ l ∧ q.1 ≠ f))
    (q : ∀ G1 H1 fs1, MK C dx x G0 H0 G1 H1 fs1 l' → Ex G G1 → fs1.length ≤ fs.length + 1 → D.nx σ H1) : sFld K (tVar 0) tv f D σ H := by
  have hup : Ex G (upd G x (.ins C dx fs)) := Ex.new m.nx
  refine (hv (upd G x (.ins C dx fs)) hup ⟨x, dx, fs, rfl, upd_same, m.fl.mono hup, m.na⟩) H (ex_while m.st.i m.hx) _ fun v G1 H1 s r => ?_
  have hx1 : G1 x = some (.ins C dx fs) := s.g _ _ upd_same
  have r' := port v G1 x C dx fs hx1 r
  have s' := s.forget m.nx
  refine ⟨.ref x, hσ, x, C, dx, fs, rfl, s'.h _ _ m.hx, F.cls, F.no f hn, by omega, ?_⟩
  have st := (m.st.trans s').mut (o := .ins C dx (putF f v fs)) h0 (wo_same (G := G1) (p := x))
  have := length_putF f v fs
  refine q (wo G1 x) _ (putF f v fs) ⟨st, upd_same, wo_same, fun p hp => ?_, by omega, by rw [lookup_putF, if_neg (fun z => hm z.symm)]; exact m.na⟩ s'.g this
  rcases hl' p hp with z | ⟨z1, z2⟩
  · subst z
    exact ⟨v, by rw [lookup_putF, if_pos rfl], r'⟩
  · obtain ⟨u, h1, h2⟩ := m.fl p z1
    exact ⟨u, by rw [lookup_putF, if_neg z2]; exact h1, p.2.mono s'.g h2⟩
theorem k_fldWS (m : MK C dx x G0 H0 G H fs l) (h0 : H0 x = none) (hσ : σ[0]? = some (some (.ref x))) (F : BookF K C) (hn : f ∈ FNS) (hm : f ≠ "asked_by") (hv : ∀ Gp, Ex G Gp → (objN C l).r (.ref x) Gp → ED tv σ Gp R) (port : Port R) (hl : fs.length < 900) (hl' : ∀ q ∈ l', q = (f, R) ∨ (q ∈ l ∧ q.1 ≠ f))
    (q : ∀ G1 H1 fs1, MK C dx x G0 H0 G1 H1 fs1 l' → Ex G G1 → fs1.length ≤ fs.length + 1 → tw D σ H1) : tSeq (sFld K (tVar 0) tv f) tw D σ H := k_fldW (D := { D with nx := tw D }) m h0 hσ F hn hm hv port hl hl' q
theorem take_fld (k : Nat) (hf : (flds b)[k]? = some (f, R)) (hn : f ∉ FNS.take k) : ∀ q ∈ (flds b).take (k + 1), q = (f, R) ∨ (q ∈ (flds b).take k ∧ q.1 ≠ f) := fun q hq => by
  rw [List.take_succ, hf] at hq
  rcases List.mem_append.mp hq with z | z
  · refine .inr ⟨z, fun e => hn ?_⟩
    have : q.1 ∈ ((flds b).take k).map (·.1) := List.mem_map_of_mem z
    rw [List.map_take, flds_names] at this
    rw [← e]; exact this
  · exact .inl (by simpa using z)
end
def spl (k : Nat) : List PyData := (List.range k).map fun i => .int ((2 ^ i : Nat) : Int)
def bkA (b : Bk) : List Rel := [dt (.list (dSkills b)), dt (.int (b.pts : Int)), dt (.list (dNeeds b)), dt (.list (dWants b)), dt (.list (dBars b)), dt (.list (dNum b b.gives)), dt (.list (dNum b b.prices)), dt (dReset b)]
def BkSp (C : Addr) : Sp := fun vs H Q _ => ∃ (b : Bk) (x dx : Addr) (ws : List V) (G0 H0 : Hp), vs = .ref x :: ws ∧ BOk b ∧ Ex G0 H0 ∧ RAll (bkA b) ws G0 ∧ H0 x = none ∧ H0 dx = none ∧ dx ≠ x ∧ H = upd (upd H0 dx (.own x)) x (.ins C dx []) ∧
  ∀ G' H', Step G0 H0 G' H' → (bookR C b).r (.ref x) G' → Q .non H'
/-- the names of a book's parts, as the top leaves them -/
structure PartsF (K : Fg) (mg : Str → Option Value) : Prop where
  ex : ∃ a, mg "PARTS" = some (.ref a) ∧ ∀ H, SqT K H a ((["skills", "points", "needs", "wants", "bars", "gives", "prices", "reset"] : List Str).map V.str)
/-- what is asked of the class Book, to make one -/
structure BookM (K : Fg) (mg : Str → Option Value) (C : Addr) : Prop where
  mke : ∃ f fd, FunD K "__init__" "Book.__init__" (defArgs s_Book_init) (defBody s_Book_init) (defScope s_Book_init) [] [("reset", .non)] f fd ∧ Mk K C f
  ma : MethAt K C "asked_by" "Book.asked_by" s_Book_asked_by
  gx : mg "Book" = some (.ref C)
section
variable {P : Program} {w : World} {K : Fg} {mg : Str → Option Value} {base : Heap} {C : Addr}
theorem ed_dictZipP {σ : L2.St} {G : Hp} {pa : Addr} {ks : List Str} {tb : TE} {ds : List PyData} (h1 : ∀ H, SqT K H pa (ks.map V.str)) (h2 : ED tb σ G (dt (.tuple ds))) (hl : ks.length = ds.length) : ED (tDictZip K (tCons (tC (.ref pa)) (tCons tb tNil))) σ G (dkR (mergeG ((ks.map fun s => (.inr s : Key)).zip ds))) := fun H e Q q =>
  h2 H e _ fun y G1 H1 s r2 => by
    obtain ⟨c, ys, rfl, eb, hy⟩ := Dx.tup_inv r2
    refine ⟨pa, c, ks.map fun s => (.inr s : Key), ys, rfl, by rw [hy.length, List.length_map]; exact hl, .inr ⟨by rw [List.map_map]; exact h1 H1, SqT.of (s.i _ _ eb)⟩, fun p hp => ?_⟩
    exact q _ _ _ (s.add hp) ⟨p, _, rfl, upd_same, (KDx.merge (kdx_zip hy) .nil).mono (Ex.new (ex_none s.i hp))⟩
theorem cut1_len {α : Type} (xs : List α) : (cutD xs (some 1) none).length = xs.length - 1 := by
  unfold cutD
  rw [List.length_take, List.length_drop, HT.sIx_none, show (some (1 : Int)) = some ((1 : Nat) : Int) from rfl, HT.sIx_nat]
  omega
theorem spl_succ (k : Nat) : spl (k + 1) = spl k ++ [.int ((2 ^ k : Nat) : Int)] := by unfold spl; rw [List.range_succ, List.map_append]; rfl
theorem take_sp {b : Bk} {R : Rel} {l : List Fld} (hl : ∀ q ∈ (flds b).take 6, q ∈ l) : ∀ q ∈ (flds b).take 6 ++ [((("spots" : Str), R) : Fld)], q = (("spots" : Str), R) ∨ (q ∈ l ∧ q.1 ≠ "spots") := fun q hq => by
  rcases List.mem_append.mp hq with z | z
  · refine .inr ⟨hl q z, fun e => ?_⟩
    have : q.1 ∈ ((flds b).take 6).map (·.1) := List.mem_map_of_mem z
    rw [List.map_take, flds_names, e] at this
    revert this
    decide +kernel
  · exact .inl (List.mem_singleton.mp z)
theorem nodup_nm {b : Bk} (ok : BOk b) : ∀ {l : List (Nat × Nat)}, (∀ p ∈ l, p.1 < b.n) → (l.map (·.1)).Nodup → ((l.map fun p => ((.inr (b.nm p.1) : Key), PyData.int (p.2 : Int))).map (·.1)).Nodup := fun {l} h1 h2 => by
  rw [List.map_map]
  unfold List.Nodup at h2 ⊢
  rw [List.pairwise_map] at h2 ⊢
  exact h2.imp_of_mem fun {p q} hp hq h z => h (nm_inj ok (h1 p hp) (h1 q hq) (by injection z))
theorem f_Book_init (T : Txt K mg) (F : BookF K C) (M : BookM K mg C) (PF : PartsF K mg) : ∃ f fd, FnOk P w K mg base CX0 5 f fd ["self", "skills", "points", "needs", "wants", "bars", "gives", "prices", "reset"] (BkSp C) ∧ Mk K C f ∧ FunD K "__init__" "Book.__init__" (defArgs s_Book_init) (defBody s_Book_init) (defScope s_Book_init) [] [("reset", .non)] f fd := by
  have c_look_at_parts := c_look_at_parts (P := P) (w := w) (base := base) T
  have mt_asked_by := mt_asked_by (P := P) (w := w) (base := base) T F M.ma
  obtain ⟨f, fd, D, Mk0⟩ := M.mke
  obtain ⟨pa, g_PARTS, hpt⟩ := PF.ex
  refine ⟨f, fd, D.ok sc_Book_init (fun vs H Q E h => by obtain ⟨b, x, dx, ws, G0, H0, rfl, _, _, h2, _⟩ := h; exact congrArg Nat.succ h2.length) fun cdv A outer s0 H vs Q E hr h => ?_, Mk0, D⟩
  obtain ⟨hu0, hu, hu64, hu65⟩ := room0 hr
  refine ⟨_, L2.PSs.nox ((pss_cons (ps_expr (pe_cl c_look_at_parts hr pass0 (pa_cons (pe_dictZip K rfl (by rfl) T.f_dict (by rfl) T.f_zip (pa_cons (pe_glob (v := .ref pa) (by rfl) g_PARTS rfl) (pa_cons (pe_tup (pa_cons (pv 1) (pa_cons (pv 2) (pa_cons (pv 3) (pa_cons (pv 4) (pa_cons (pv 5) (pa_cons (pv 6) (pa_cons (pv 7) (pa_cons (pv 8) pa_nil))))))))) pa_nil))) pa_nil))) (pss_cons (ps_fld (pv 0) (pe_tup (pa_cons (pe_callTy (call_tupleU K) (by rfl) T.f_tuple (by decide +kernel) (pa_cons (pv 1) pa_nil)) (pa_cons (pv 2) (pa_cons (pe_callTy (call_tupleU K) (by rfl) T.f_tuple (by decide +kernel) (pa_cons (pv 3) pa_nil)) (pa_cons (pe_callTy (call_tupleU K) (by rfl) T.f_tuple (by decide +kernel) (pa_cons (pv 4) pa_nil)) (pa_cons (pe_callTy (call_tupleU K) (by rfl) T.f_tuple (by decide +kernel) (pa_cons (pv 5) pa_nil)) (pa_cons (pe_callTy (call_tupleU K) (by rfl) T.f_tuple (by decide +kernel) (pa_cons (pv 6) pa_nil)) (pa_cons (pe_callTy (call_tupleU K) (by rfl) T.f_tuple (by decide +kernel) (pa_cons (pv 7) pa_nil)) (pa_cons (pv 8) pa_nil))))))))) rfl) (pss_cons (ps_fld (pv 0) (pv 2) rfl) (pss_cons (ps_fld (pv 0) (pv 8) rfl) (pss_cons (ps_fld (pv 0) (pe_lc (own := [("name", 9), ("tier", 10)]) rfl sc_Book_init.nd (pi_listK K (pv 1)) (blkOk_by (own := [("name", 9), ("tier", 10)]) (N := N_Book_init) (sc := defScope s_Book_init) (by decide +kernel)) (fun _ _ _ _ _ => (pg_tupK K (n := 2) (pgs_cons (pg_name (i := 9) sc_Book_init.nd rfl (Or.inl rfl)) (pgs_cons (pg_name (i := 10) sc_Book_init.nd rfl (Or.inl rfl)) pgs_nil)))) (fun _ _ _ _ _ => pts_nil) (fun _ _ _ _ _ => (pv 9))) rfl) (pss_cons (ps_fld (pv 0) (pe_lc (own := [("name", 9), ("tier", 10)]) rfl sc_Book_init.nd (pi_listK K (pv 1)) (blkOk_by (own := [("name", 9), ("tier", 10)]) (N := N_Book_init) (sc := defScope s_Book_init) (by decide +kernel)) (fun _ _ _ _ _ => (pg_tupK K (n := 2) (pgs_cons (pg_name (i := 9) sc_Book_init.nd rfl (Or.inl rfl)) (pgs_cons (pg_name (i := 10) sc_Book_init.nd rfl (Or.inl rfl)) pgs_nil)))) (fun _ _ _ _ _ => pts_nil) (fun _ _ _ _ _ => (pv 10))) rfl) (pss_cons (ps_fld (pv 0) (pe_callTy (call_dictU K) (by rfl) T.f_dict (by decide +kernel) (pa_cons (pv 1) pa_nil)) rfl) (pss_cons (ps_fld (pv 0) (pe_lst (pa_cons pe_int pa_nil)) rfl) (pss_cons (ps_for PassesOwn.never rfl (pi_listK K (pe_slice (sl_listK K) (pe_fldK K (pv 0)) (po_some pe_int) po_none)) (pg_name (i := 9) sc_Book_init.nd rfl (Or.inl rfl)) (pss_one (ps_fld (pv 0) (pe_lst (pa_starK K (pe_fldK K (pv 0)) (pa_cons (pe_op op_mulU (pe_ix (ix_seqK K) (pe_fldK K (pv 0)) (pe_un un_neg1 pe_int) (fun _ _ => rfl)) pe_int) pa_nil))) rfl))) (pss_cons (ps_fld (pv 0) (pe_dictZip K rfl (by rfl) T.f_dict (by rfl) T.f_zip (pa_cons (pe_fldK K (pv 0)) (pa_cons (pe_fldK K (pv 0)) pa_nil))) rfl) (pss_cons (ps_fld (pv 0) (pe_callTy (call_dictU K) (by rfl) T.f_dict (by decide +kernel) (pa_cons (pv 3) pa_nil)) rfl) (pss_cons (ps_fld (pv 0) (pe_callTy (call_dictU K) (by rfl) T.f_dict (by decide +kernel) (pa_cons (pv 7) pa_nil)) rfl) (pss_cons (ps_fld (pv 0) (pe_callTy (call_dictU K) (by rfl) T.f_dict (by decide +kernel) (pa_cons (pv 6) pa_nil)) rfl) (pss_cons (ps_fld (pv 0) (pe_lc (own := [("one", 11), ("other", 12)]) rfl sc_Book_init.nd (pi_listK K (pv 5)) (blkOk_by (own := [("one", 11), ("other", 12)]) (N := N_Book_init) (sc := defScope s_Book_init) (by decide +kernel)) (fun _ _ _ _ _ => (pg_tupK K (n := 2) (pgs_cons (pg_name (i := 11) sc_Book_init.nd rfl (Or.inl rfl)) (pgs_cons (pg_name (i := 12) sc_Book_init.nd rfl (Or.inl rfl)) pgs_nil)))) (fun _ _ _ _ _ => pts_nil) (fun _ _ _ _ _ => (pe_op (op_addU K) (pe_dget hu (pe_fldK K (pv 0)) (pv 11) (fun _ _ => rfl)) (pe_dget hu (pe_fldK K (pv 0)) (pv 12) (fun _ _ => rfl))))) rfl) (pss_one (ps_fld (pv 0) (pe_lc (own := [("name", 9)]) rfl sc_Book_init.nd (pi_listK K (pe_fldK K (pv 0))) (blkOk_by (own := [("name", 9)]) (N := N_Book_init) (sc := defScope s_Book_init) (by decide +kernel)) (fun _ _ _ _ _ => (pg_name (i := 9) sc_Book_init.nd rfl (Or.inl rfl))) (fun _ _ _ _ _ => pts_nil) (fun _ _ _ _ _ => (pe_mt mt_asked_by F.cls hr pass0 (pv 0) (pa_cons (pv 9) pa_nil)))) rfl))))))))))))))))), ?_⟩
  obtain ⟨b, x, dx, ws, G0, H0, rfl, ok, e, hA, h0, h0d, hdx, rfl, q⟩ := h
  cases hA with | cons r1 hA =>
  cases hA with | cons r2 hA =>
  cases hA with | cons r3 hA =>
  cases hA with | cons r4 hA =>
  cases hA with | cons r5 hA =>
  cases hA with | cons r6 hA =>
  cases hA with | cons r7 hA =>
  cases hA with | cons r8 hA =>
  cases hA
  rename_i v1 v2 v3 v4 v5 v6 v7 v8
  have n5 : b.n ≤ 5 := ok.n5
  have n5' : b.rows.length ≤ 5 := ok.n5
  have S0 : Step G0 H0 G0 (upd (upd H0 dx (.own x)) x (.ins C dx [])) := ((Step.refl e).new h0d).new (by rw [upd_ne (Ne.symm hdx)]; exact h0)
  have m0 : MK C dx x G0 H0 G0 _ [] ((flds b).take 0) := ⟨S0, upd_same, ex_none e h0, fun _ h => (nomatch h), by simp, rfl⟩
  refine k_dropS (R := dt .none) (ed_call b (ea_cons (ED.is (ed_dictZipP hpt (ed_tup (ead_cons (ed_var (by rfl) r1) (ead_cons (ed_var (by rfl) r2) (ead_cons (ed_var (by rfl) r3) (ead_cons (ed_var (by rfl) r4) (ead_cons (ed_var (by rfl) r5) (ead_cons (ed_var (by rfl) r6) (ead_cons (ed_var (by rfl) r7) (ead_cons (ed_var (by rfl) r8) ead_nil)))))))) (by simp)) rfl) (congrArg dkR (mergeG_nodup (show (([("skills" : Str), "points", "needs", "wants", "bars", "gives", "prices", "reset"] : List Str).map fun s : Str => (.inr s : Key)).Nodup by decide +kernel)))) ea_nil) ok) S0.i fun u G1 H1 s1 _ => ?_
  have m1 := m0.go s1
  have g1 := s1.g
  refine k_fldWS (l' := (flds b).take 1) m1 h0 (by rfl) F (by decide +kernel) (by decide +kernel) (fun Gp g _ => ed_tup (ead_cons (ed_tupL (ed_var (by rfl) (Dx.mono (g1.trans g) r1))) (ead_cons (ed_var (by rfl) (Dx.mono (g1.trans g) r2)) (ead_cons (ed_tupL (ed_var (by rfl) (Dx.mono (g1.trans g) r3))) (ead_cons (ed_tupL (ed_var (by rfl) (Dx.mono (g1.trans g) r4))) (ead_cons (ed_tupL (ed_var (by rfl) (Dx.mono (g1.trans g) r5))) (ead_cons (ed_tupL (ed_var (by rfl) (Dx.mono (g1.trans g) r6))) (ead_cons (ed_tupL (ed_var (by rfl) (Dx.mono (g1.trans g) r7))) (ead_cons (ed_var (by rfl) (Dx.mono (g1.trans g) r8)) ead_nil)))))))) (by simp)) port_dt (by simp) (take_fld 0 rfl (by decide +kernel)) fun G2 H2 fs2 m2 g2 l2 => ?_
  have k2 := g1.trans g2
  simp only [List.length_nil] at l2
  refine k_fldWS (l' := (flds b).take 2) m2 h0 (by rfl) F (by decide +kernel) (by decide +kernel) (fun Gp g _ => ed_var (by rfl) (Dx.mono (k2.trans g) r2)) port_dt (by omega) (take_fld 1 rfl (by decide +kernel)) fun G3 H3 fs3 m3 g3 l3 => ?_
  have k3 := k2.trans g3
  refine k_fldWS (l' := (flds b).take 3) m3 h0 (by rfl) F (by decide +kernel) (by decide +kernel) (fun Gp g _ => ed_var (by rfl) (Dx.mono (k3.trans g) r8)) port_dt (by omega) (take_fld 2 rfl (by decide +kernel)) fun G4 H4 fs4 m4 g4 l4 => ?_
  have k4 := k3.trans g4
  refine k_fldWS (l' := (flds b).take 4) m4 h0 (by rfl) F (by decide +kernel) (by decide +kernel) (fun Gp g _ => ED.eq (ed_lcP1 (xs := b.rows) (a := fun p : Str × Nat => .str p.1) (b := fun p : Str × Nat => .int p.2) (f := fun p : Str × Nat => .str p.1) (ei_listM (ed_var (by rfl) (Dx.mono (k4.trans g) r1))) (by omega) fun p hp y z G' g' ry rz => ed_var (by rfl) ry) (show _ = PyData.list (b.nms.map .str) by unfold Bk.nms; rw [List.map_map]; rfl)) port_dt (by omega) (take_fld 3 rfl (by decide +kernel)) fun G5 H5 fs5 m5 g5 l5 => ?_
  have k5 := k4.trans g5
  refine k_fldWS (l' := (flds b).take 5) m5 h0 (by rfl) F (by decide +kernel) (by decide +kernel) (fun Gp g _ => ed_lcP1 (xs := b.rows) (a := fun p : Str × Nat => .str p.1) (b := fun p : Str × Nat => .int p.2) (f := fun p : Str × Nat => .int p.2) (ei_listM (ed_var (by rfl) (Dx.mono (k5.trans g) r1))) (by omega) fun p hp y z G' g' ry rz => ed_var (by rfl) rz) port_dt (by omega) (take_fld 4 rfl (by decide +kernel)) fun G6 H6 fs6 m6 g6 l6 => ?_
  have k6 := k5.trans g6
  refine k_fldWS (l' := (flds b).take 6) m6 h0 (by rfl) F (by decide +kernel) (by decide +kernel) (fun Gp g _ => ED.is (ed_dictP (kvs := b.rows.map fun p => (.inr p.1, .int p.2)) (ED.eq (ed_var (by rfl) (Dx.mono (k6.trans g) r1)) (show PyData.list (dSkills b) = _ by unfold dSkills; rw [List.map_map]; rfl))) (congrArg dkR (mergeG_nodup (by rw [List.map_map]; exact (nodup_map (f := fun s : Str => (.inr s : Key)) (fun a c z => by injection z) (l := b.rows.map (·.1))).mpr ok.nd |> fun z => by rw [List.map_map] at z; exact z)))) port_dk (by omega) (take_fld 5 rfl (by decide +kernel)) fun G7 H7 fs7 m7 g7 l7 => ?_
  have k7 := k6.trans g7
  refine k_fldWS (l' := (flds b).take 6 ++ [((("spots" : Str), dt (.list (spl 1))) : Fld)]) m7 h0 (by rfl) F (by decide +kernel) (by decide +kernel) (fun Gp g _ => ed_lst (ead_cons ed_int ead_nil) (by simp)) port_dt (by omega) (take_sp fun _ h => h) fun G8 H8 fs8 m8 g8 l8 => ?_
  have k8 := k7.trans g8
  refine k_forM (D := { nx := _, rt := _, ct := _, bk := _ }) (xs := cutD (b.nms.map PyData.str) (some 1) none) (Rx := dt) (fun G9 H9 => Step G8 H8 G9 H9) (fun R hR => ?_)
    (fun j σ' G' H' => ∃ a9 fs, σ' = [some (.ref x), some v1, some v2, some v3, some v4, some v5, some v6, some v7, some v8, a9, none, none, none] ∧ MK C dx x G0 H0 G' H' fs ((flds b).take 6 ++ [((("spots" : Str), dt (.list (spl (j + 1)))) : Fld)]) ∧ fs.length ≤ 8 + j ∧ Ex G8 G')
    (fun G9 H9 s9 => ⟨none, fs8, rfl, m8.go s9, by omega, s9.g⟩) (fun j σ' G' H' ⟨_, _, _, m, _⟩ => m.st.i) ?_ ?_
  · have hup : Ex G8 (upd G8 x (.ins C dx fs8)) := Ex.new m8.nx
    have self : (objR C ((flds b).take 6 ++ [((("spots" : Str), dt (.list (spl 1))) : Fld)])).r (.ref x) (upd G8 x (.ins C dx fs8)) := ⟨x, dx, fs8, rfl, upd_same, m8.fl.mono hup⟩
    refine (ed_slice (ed_fldO (f := "own_names") F (ed_var (σ := L2.start N_Book_init [.ref x, v1, v2, v3, v4, v5, v6, v7, v8]) (i := 0) (by rfl) self) (by decide +kernel) 3) (eo_some ed_int) eo_none) H8 (ex_while m8.st.i m8.hx) _ fun v G9 H9 s r => ?_
    have hx1 : G9 x = some (.ins C dx fs8) := s.g _ _ upd_same
    obtain ⟨a, xs, rfl, ea, hxs⟩ := Dx.list_inv (Dx.wo hx1 r)
    have s' := s.forget m8.nx
    exact ⟨a, rfl, ⟨xs, SqL.of (s'.i _ _ ea)⟩, hR _ (wo G9 x) H9 s' (walks_lst ea hxs)⟩
  · intro G9 H9 _ j d v σ' G' H' G10 H10 hj hI g10 s10 rv
    obtain ⟨a9, fs, rfl, m, hl, g'⟩ := hI
    have hjl : j < b.nms.length - 1 := by
      have := (List.getElem?_eq_some_iff.mp hj).1
      rw [cut1_len, List.length_map] at this
      exact this
    rw [nms_len] at hjl
    have m' := m.go s10
    show sFld K (tVar 0) _ "spots" _ ([some (.ref x), some v1, some v2, some v3, some v4, some v5, some v6, some v7, some v8, some v, none, none, none] : L2.St) H10
    refine k_fldW (l' := (flds b).take 6 ++ [((("spots" : Str), dt (.list (spl (j + 1 + 1)))) : Fld)]) m' h0 (by rfl) F (by decide +kernel) (by decide +kernel) (fun Gp g self => ED.eq (ed_lst (ead_starL (es := spl (j + 1)) (ed_fldO F (ed_var (by rfl) (objN_R self)) (by decide +kernel) 6) (ead_cons (ed_mul (i := ((2 ^ j : Nat) : Int)) (j := 2) (ed_ixL (ds := spl (j + 1)) (ed_fldO F (ed_var (by rfl) (objN_R self)) (by decide +kernel) 6) (ed_neg (ed_int (i := 1))) (by rw [spl_succ]; exact at_last _ _)) ed_int (.inr ⟨by decide, by decide⟩)) ead_nil)) (by simp [spl]; omega)) ?_) port_dt (by omega) (take_sp fun q hq => List.mem_append_left _ hq) fun G11 H11 fs11 m11 g11 l11 => ?_
    · rw [spl_succ (j + 1)]
      congr 3
    · exact ⟨G11, g10.trans (s10.g.trans g11), some v, fs11, rfl, m11, by omega, g'.trans (s10.g.trans g11)⟩
  rintro σ' G9 H9 ⟨a9, fs9, rfl, m9, l9, g9⟩
  have el : (cutD (b.nms.map PyData.str) (some 1) none).length + 1 = b.n := by
    rw [cut1_len, List.length_map, nms_len]
    have : 1 ≤ b.n := ok.n1
    omega
  rw [el] at m9
  have m9 : MK C dx x G0 H0 G9 H9 fs9 ((flds b).take 7) := m9
  have l9' : fs9.length ≤ 13 := by omega
  have k9 := k8.trans g9
  have cat : ∀ {α : Type} (l : List α) (f : α → Key) (g : α → PyData), (l.map f).zip (l.map g) = l.map fun a => (f a, g a) := fun l f g => List.zip_map'
  refine k_fldWS (l' := (flds b).take 8) m9 h0 (by rfl) F (by decide +kernel) (by decide +kernel) (fun Gp g self => ED.is (ed_dictZipL (ks := (List.range b.n).map fun i => (.inr (b.nm i) : Key)) (ds := spl b.n) (ED.eq (ed_fldO F (ed_var (by rfl) (objN_R self)) (by decide +kernel) 3) (by rw [nms_eq, List.map_map, List.map_map]; rfl)) (ed_fldO F (ed_var (by rfl) (objN_R self)) (by decide +kernel) 6) (by simp [spl])) (congrArg dkR (by unfold spl; rw [cat]; refine mergeG_nodup ?_; rw [List.map_map]; unfold List.Nodup; rw [List.pairwise_map]; exact List.nodup_range.imp_of_mem fun {i j} hi hj h z => h (nm_inj ok (List.mem_range.mp hi) (List.mem_range.mp hj) (by injection z))))) port_dk (by omega) (take_fld 7 rfl (by decide +kernel)) fun G10 H10 fs10 m10 g10 l10 => ?_
  have k10 := k9.trans g10
  refine k_fldWS (l' := (flds b).take 9) m10 h0 (by rfl) F (by decide +kernel) (by decide +kernel) (fun Gp g _ => ED.is (ed_dictP (kvs := b.needs.map fun p => (.inl (p.1 : Int), .int p.2)) (ED.eq (ed_var (by rfl) (Dx.mono (k10.trans g) r3)) (show PyData.list (dNeeds b) = _ by unfold dNeeds; rw [List.map_map]; rfl))) (congrArg dkR (mergeG_nodup (by
      have h := ok.nsd
      rw [List.map_map]
      unfold List.Nodup
      rw [List.pairwise_map] at h ⊢
      exact h.imp fun {p q} h z => by injection z with z; omega)))) port_dk (by omega) (take_fld 8 rfl (by decide +kernel)) fun G11 H11 fs11 m11 g11 l11 => ?_
  have k11 := k10.trans g11
  refine k_fldWS (l' := (flds b).take 10) m11 h0 (by rfl) F (by decide +kernel) (by decide +kernel) (fun Gp g _ => ED.is (ed_dictP (kvs := b.prices.map fun p => (.inr (b.nm p.1), .int p.2)) (ED.eq (ed_var (by rfl) (Dx.mono (k11.trans g) r7)) (show PyData.list (dNum b b.prices) = _ by unfold dNum; rw [List.map_map]; rfl))) (congrArg dkR (mergeG_nodup (nodup_nm ok (fun p hp => (ok.po p hp).1) ok.pn)))) port_dk (by omega) (take_fld 9 rfl (by decide +kernel)) fun G12 H12 fs12 m12 g12 l12 => ?_
  have k12 := k11.trans g12
  refine k_fldWS (l' := (flds b).take 11) m12 h0 (by rfl) F (by decide +kernel) (by decide +kernel) (fun Gp g _ => ED.is (ed_dictP (kvs := b.gives.map fun p => (.inr (b.nm p.1), .int p.2)) (ED.eq (ed_var (by rfl) (Dx.mono (k12.trans g) r6)) (show PyData.list (dNum b b.gives) = _ by unfold dNum; rw [List.map_map]; rfl))) (congrArg dkR (mergeG_nodup (nodup_nm ok (fun p hp => (ok.go p hp).1) ok.gn)))) port_dk (by omega) (take_fld 10 rfl (by decide +kernel)) fun G13 H13 fs13 m13 g13 l13 => ?_
  have k13 := k12.trans g13
  have bit : ∀ {σ : L2.St} {G2 : Hp} {j k : Nat} {y : V} {l : List Fld}, σ[0]? = some (some (.ref x)) → (objR C l).r (.ref x) G2 → l[7]? = some ((("bits" : Str), dkR ((List.range b.n).map fun i => (.inr (b.nm i), .int ((2 ^ i : Nat) : Int)))) : Fld) → j < b.n → σ[k]? = some (some y) → Dx G2 y (.str (b.nm j)) → ED (tDGet (tFld K (tVar 0) "bits") (tVar k)) σ G2 (dt (.int ((2 ^ j : Nat) : Int))) := fun {σ G2 j k y l} hσ hs hl hj hy ry =>
    ed_dget (k := .inr (b.nm j)) (ed_fldO F (ed_var hσ hs) (by decide +kernel) 7 hl) (ed_var hy ry) (look_map (f := fun i => (Sum.inr (b.nm i) : Key)) (g := fun i => PyData.int ((2 ^ i : Nat) : Int)) (List.mem_range.mpr hj) fun x hx e => nm_inj ok (List.mem_range.mp hx) hj (by injection e))
  refine k_fldWS (l' := (flds b).take 12) m13 h0 (by rfl) F (by decide +kernel) (by decide +kernel) (fun Gp g self => ed_lcP1 (xs := b.bars) (a := fun p : Nat × Nat => .str (b.nm p.1)) (b := fun p : Nat × Nat => .str (b.nm p.2)) (f := fun p : Nat × Nat => .int ((2 ^ p.1 + 2 ^ p.2 : Nat) : Int)) (ei_listM (ed_var (by rfl) (Dx.mono (k13.trans g) r5))) (by have := ok.bl; omega) fun p hp y z G' g' ry rz => ED.eq (ed_add (bit (by rfl) ((objR C _).mono g' (objN_R self)) rfl (ok.bo p hp).1 (by rfl) ry) (bit (by rfl) ((objR C _).mono g' (objN_R self)) rfl (ok.bo p hp).2.1 (by rfl) rz)) (by simp)) port_dt (by omega) (take_fld 11 rfl (by decide +kernel)) fun G14 H14 fs14 m14 g14 l14 => ?_
  refine k_fldW (l' := (flds b).take 13) m14 h0 (by rfl) F (by decide +kernel) (by decide +kernel) (fun Gp g self => ed_lcN1 (xs := List.range b.n) (Rx := fun i => dt (.str (b.nm i))) (f := fun i => .list ((b.ask i).map fun q => .tuple [.int (q.1 : Int), .int (q.2 : Int)])) (by
      have := ei_list (K := K) (ed_fldO (f := "own_names") F (ed_var (σ := [some (.ref x), some v1, some v2, some v3, some v4, some v5, some v6, some v7, some v8, a9, none, none, none]) (i := 0) (by rfl) (objN_R self)) (by decide +kernel) 3)
      rw [nms_eq, List.map_map, List.map_map] at this
      exact this) (by simp; omega) fun i hi y G' g' ry => ed_methI (R0 := objN C ((flds b).take 12)) (R1 := preR C b) (b, i) (ed_var (by rfl) ((objN C _).mono g' self)) (fun v G1 ⟨x, dx, fs, h1, h2, h3, h4⟩ => ⟨x, dx, fs, h1, h2, h4⟩) (fun v G1 h => objN_R h) (ea_cons (ed_var (by rfl) ry) ea_nil) ⟨ok, List.mem_range.mp hi⟩) port_dt (by omega) (take_fld 12 rfl (by decide +kernel)) fun G15 H15 fs15 m15 g15 l15 => ?_
  exact q (upd G15 x (.ins C dx fs15)) H15 (m15.st.pub h0 m15.nx m15.hx) ⟨x, dx, fs15, rfl, upd_same, m15.fl.mono (Ex.new m15.nx)⟩
end
end RT
end
section
set_option maxRecDepth 100000
set_option maxHeartbeats 4000000
/-! RTW18: the law's book; what holds by the law. -/
namespace RT
open PySem PySem.Spec PyProof.Rows L2
open Evl (Ex Ex.refl Ex.trans Ex.new Ex.mut)
abbrev BKS : List Str := ["self", "skills", "points", "needs", "wants", "bars", "gives", "prices", "reset"]
/-- Book(.., k = v, ..) -/
structure BkAt (P : Program) (w : World) (K : Fg) (mg : Str → Option Value) (base : Heap) (C : Addr) : Prop where
  ex : ∃ f fd, FnOk P w K mg base CX0 5 f fd BKS (BkSp C) ∧ Mk K C f ∧ KBn K fd BKS 3 ["needs", "wants", "bars", "gives", "prices", "reset"] (fun us ws => us ++ ws) (fun vs zs => vs ++ zs)
  gx : mg "Book" = some (.ref C)
section
variable {X : Cx} {j : Nat} {C : Addr} {p pos : Pos} {e : Expr} {es : List Expr} {kws : List Keyword} {t tk : TA} {E : XK}
theorem pe_book (c : BkAt X.prog X.w X.K X.mg X.base C) (hr : Room j X.A) (hx : Passes CX0 X E) (ha : PA X (e :: es) t) (hkw : PK X kws tk) (hkj : 6 ≤ j := by decide) (hg : Gl X "Book" := by rfl)
    (hall : (backToKw pos (keywordEach kws X.env)).all (·.1.isSome) = true := by rfl) (hks : (backToKw pos (keywordEach kws X.env)).filterMap (·.1) = (["needs", "wants", "bars", "gives", "prices", "reset"] : List Str) := by rfl)
    (he : starEach (e :: es) X.env = (false, eval e X.env) :: starEach es X.env := by rfl) (hpl : ((backTo pos (starEach (e :: es) X.env)).any (·.1) || (backToKw pos (keywordEach kws X.env)).any (·.1.isNone)) = false := by rfl) :
    PE X (.Call (.Name "Book" p) (e :: es) kws pos) (tMakeK C 2 6 (BkSp C) (fun vs zs => vs ++ zs) E t tk) := by
  obtain ⟨f, fd, F, M, hb⟩ := c.ex
  exact pe_makeK (n := 2) M F (hr.mono hkj) hg c.gx hb hx ha hkw hall hks (by decide) he hpl
end
theorem RAll.append {G : Hp} {Rs Ss : List Rel} {vs ws : List V} (h : RAll Rs vs G) (h' : RAll Ss ws G) : RAll (Rs ++ Ss) (vs ++ ws) G := by
  induction h with
  | nil => exact h'
  | cons r _ ih => exact .cons r (ih h')
section
variable {σ : L2.St} {G : Hp} {ta tk td te : TE} {tA tB : TA} {C : Addr} {b : Bk} {E : XK} {K : Fg}
theorem ed_book (ok : BOk b) (h1 : EA tA σ G ((bkA b).take 2)) (h2 : EA tB σ G ((bkA b).drop 2)) : ED (tMakeK C 2 6 (BkSp C) (fun vs zs => vs ++ zs) E tA tB) σ G (bookR C b) := fun H e Q q =>
  h1 H e _ fun vs G1 H1 s1 r1 => (h2.mono s1.g) H1 s1.i _ fun zs G2 H2 s2 r2 => by
    refine ⟨r1.length, r2.length, fun x dx hx hdx hne => ⟨b, x, dx, vs ++ zs, G2, H2, rfl, ok, s2.i, RAll.append (r1.mono s2.g) r2, hx, hdx, hne, rfl, fun G' H' s3 rd => ⟨rfl, q _ G' H' ((s1.trans s2).trans s3) rd⟩⟩⟩
/-- the law's book -/
abbrev lawR (b : Bk) : Rel := dkR (prts b)
theorem ed_lget {nm : Str} {d : PyData} (h : ED td σ G (lawR b)) (hd : lookG (prts b) (.inr nm) = some d := by rfl) : ED (tDGet td (tC (.str nm))) σ G (dt d) := ed_dget (k := .inr nm) h ed_str hd
end
theorem bld_mem_dec {b : Bk} (ok : BOk b) {m i : Nat} (hi : i < b.n) : decide (b.nm i ∈ b.bld m) = m.testBit i := by
  have := mem_bld ok (m := m) hi
  by_cases h : m.testBit i = true
  · rw [h, decide_eq_true (this.mpr h)]
  · rw [decide_eq_false fun z => h (this.mp z)]; simp at h; rw [h]
section
variable {P : Program} {w : World} {K : Fg} {mg : Str → Option Value} {base : Heap} {C : Addr}
theorem bk_at (T : Txt K mg) (F : BookF K C) (M : BookM K mg C) (PF : PartsF K mg) : BkAt P w K mg base C := by
  obtain ⟨f, fd, F1, M1, D⟩ := f_Book_init (P := P) (w := w) (base := base) T F M PF
  obtain ⟨mv, hb⟩ := D.kbinds0 (ps := BKS) 3 ["needs", "wants", "bars", "gives", "prices", "reset"] [] (fun us _ ws => us ++ ws) (fun z => by cases z) (fun q h => by cases h) (fun h1 _ h2 => h1.append h2) fun D doc pm an cdv ct us mv ws hu hm hw => match us, hu, ws, hw with
    | [_, _, _], _, [_, _, _, _, _, _], _ => rfl
  exact ⟨⟨f, fd, F1, M1, hb⟩, M.gx⟩
theorem c__law_made (T : Txt K mg) (c_Book : BkAt P w K mg base C) : Callee P w K mg base CX0 7 "_law_made" ["_law_book_here"] (FSp BOk (fun b => [lawR b]) (fun b => bookR C b)) := by
  refine callee T.d__law_made sc__law_made (fun _ _ _ _ _ _ us hl => match us, hl with | [_], _ => rfl) (fun _ => rfl) fun f cdv Ar outer s H0 E hr => ?_
  obtain ⟨hu0, hu, hu64, hu65⟩ := room0 hr
  refine ⟨_, (pss_one (ps_ret (pe_book c_Book hr pass0 (pa_cons (pe_dget hu (pv 0) pe_str (fun _ _ => rfl)) (pa_cons (pe_dget hu (pv 0) pe_str (fun _ _ => rfl)) pa_nil)) (pk_cons (pe_dget hu (pv 0) pe_str (fun _ _ => rfl)) (pk_cons (pe_dget hu (pv 0) pe_str (fun _ _ => rfl)) (pk_cons (pe_dget hu (pv 0) pe_str (fun _ _ => rfl)) (pk_cons (pe_dget hu (pv 0) pe_str (fun _ _ => rfl)) (pk_cons (pe_dget hu (pv 0) pe_str (fun _ _ => rfl)) (pk_cons (pe_dget hu (pv 0) pe_str (fun _ _ => rfl)) pk_nil))))))))), fun b vs G H D ok hA e q => ?_⟩
  obtain ⟨v, rfl, h1⟩ := hA.one
  have g : ∀ {nm : Str} {d : PyData}, lookG (prts b) (.inr nm) = some d → ED (tDGet (tVar 0) (tC (.str nm))) (L2.start N__law_made [v]) G (dt d) := fun hd => ed_lget (ed_var (by rfl) h1) hd
  exact k_ret (R := bookR C b) (ed_book ok (ea_cons (g rfl) (ea_cons (g rfl) ea_nil)) (ea_cons (g rfl) (ea_cons (g rfl) (ea_cons (g rfl) (ea_cons (g rfl) (ea_cons (g rfl) (ea_cons (g rfl) ea_nil))))))) e q
theorem c__law_names (T : Txt K mg) : Callee P w K mg base CX0 1 "_law_names" ["_law_book_here"] (FSp BOk (fun b => [lawR b]) (fun b => dt (.list (b.nms.map .str)))) := by
  refine callee T.d__law_names sc__law_names (fun _ _ _ _ _ _ us hl => match us, hl with | [_], _ => rfl) (fun _ => rfl) fun f cdv Ar outer s H0 E hr => ?_
  obtain ⟨hu0, hu, hu64, hu65⟩ := room0 hr
  refine ⟨_, (pss_one (ps_ret (pe_lc (own := [("_law_row", 1)]) rfl sc__law_names.nd (pi_listK K (pe_dget hu (pv 0) pe_str (fun _ _ => rfl))) (blkOk_by (own := [("_law_row", 1)]) (N := N__law_names) (sc := defScope s__law_names) (by decide +kernel)) (fun _ _ _ _ _ => (pg_name (i := 1) sc__law_names.nd rfl (Or.inl rfl))) (fun _ _ _ _ _ => pts_nil) (fun _ _ _ _ _ => (pe_ix (ix_seqK K) (pv 1) pe_int (fun _ _ => rfl)))))), fun b vs G H D ok hA e q => ?_⟩
  obtain ⟨v, rfl, h1⟩ := hA.one
  have n5 := ok.n5
  exact k_ret (ED.eq (ed_lcN1 (xs := b.rows) (Rx := fun p : Str × Nat => dt (.tuple [.str p.1, .int (p.2 : Int)])) (f := fun p : Str × Nat => .str p.1) (ei_listM (ed_lget (ed_var (by rfl) h1))) (by omega) fun p hp y G1 g1 ry => ed_ixT (ed_var (by rfl) ry) ed_int at0) (show _ = PyData.list (b.nms.map .str) by unfold Bk.nms; rw [List.map_map]; rfl)) e q
theorem c__law_tier (T : Txt K mg) : Callee P w K mg base CX0 1 "_law_tier" ["_law_book_here", "_law_name"] (FSp (fun a : Bk × Nat => BOk a.1 ∧ a.2 < a.1.n) (fun a => [lawR a.1, dt (.str (a.1.nm a.2))]) (fun a => dt (.int (a.1.tier a.2 : Int)))) := by
  refine callee T.d__law_tier sc__law_tier (fun _ _ _ _ _ _ us hl => match us, hl with | [_, _], _ => rfl) (fun _ => rfl) fun f cdv Ar outer s H0 E hr => ?_
  obtain ⟨hu0, hu, hu64, hu65⟩ := room0 hr
  refine ⟨_, (pss_one (ps_ret (pe_ix (ix_seqK K) (pe_lc (own := [("_law_row", 2)]) rfl sc__law_tier.nd (pi_listK K (pe_dget hu (pv 0) pe_str (fun _ _ => rfl))) (blkOk_by (own := [("_law_row", 2)]) (N := N__law_tier) (sc := defScope s__law_tier) (by decide +kernel)) (fun _ _ _ _ _ => (pg_name (i := 2) sc__law_tier.nd rfl (Or.inl rfl))) (fun _ _ _ _ _ => (pts_one (pt_cmpR (op_eqK K hu64) (pe_ix (ix_seqK K) (pv 2) pe_int (fun _ _ => rfl)) (pv 1) (nomark _)))) (fun _ _ _ _ _ => (pe_ix (ix_seqK K) (pv 2) pe_int (fun _ _ => rfl)))) pe_int (fun _ _ => rfl)))), fun a vs G H D hP hA e q => ?_⟩
  obtain ⟨b, i⟩ := a
  obtain ⟨ok, hi⟩ := hP
  have ok : BOk b := ok
  have n5 := ok.n5
  obtain ⟨v, x, rfl, h1, h2⟩ := hA.two
  dsimp only at h1 h2 hi q
  refine k_ret (ed_ixL (ED.eq (ed_lcN (xs := List.range b.n) (Rx := fun j => dt (.tuple [.str (b.nm j), .int (b.tier j : Int)])) (p := fun j => decide (j = i)) (f := fun j => .int (b.tier j : Int)) ?_ (by simp; exact Nat.le_trans ok.n5 (by decide)) fun j hj y G1 g1 ry => ⟨ET.eq (et_test (ed_eqS (x := b.nm j) (y := b.nm i) (ed_ixT (ed_var (by rfl) ry) ed_int at0) (ed_var (by rfl) (Dx.mono g1 h2)) (nm_word ok (List.mem_range.mp hj)) (nm_word ok hi))) (decide_eq_decide.mpr ⟨fun z => nm_inj ok (List.mem_range.mp hj) hi z, fun z => by rw [z]⟩), fun _ => ed_ixT (ed_var (by rfl) ry) ed_int at1⟩) (show _ = PyData.list [.int (b.tier i : Int)] from ?_)) ed_int at0) e q
  · have := ei_listM (K := K) (xs := b.rows) (enc := fun p : Str × Nat => .tuple [.str p.1, .int (p.2 : Int)]) (ed_lget (nm := "skills") (ed_var (σ := L2.start N__law_tier [v, x]) (i := 0) (by rfl) h1))
    rw [rows_eq, List.map_map] at this
    exact this
  · have : (List.range b.n).filter (fun j => decide (j = i)) = [i] := by
      have : ∀ n, i < n → (List.range n).filter (fun j => decide (j = i)) = [i] := fun n => by
        induction n with
        | zero => intro h; omega
        | succ n ih =>
          intro h
          rw [List.range_succ, List.filter_append]
          by_cases z : i = n
          · subst z
            have : (List.range i).filter (fun j => decide (j = i)) = [] := by
              rw [List.filter_eq_nil_iff]
              intro a ha
              have := List.mem_range.mp ha
              simp; omega
            rw [this]; simp
          · rw [ih (by omega)]
            have : ¬ n = i := fun e => z e.symm
            simp [this]
      exact this b.n hi
    rw [this]; rfl
theorem c__law_need (T : Txt K mg) : Callee P w K mg base CX0 1 "_law_need" ["_law_book_here", "_law_tier_here"] (FSp (fun a : Bk × Nat => BOk a.1) (fun a => [lawR a.1, dt (.int (a.2 : Int))]) (fun a => dt (.int (a.1.needOf a.2 : Int)))) := by
  refine callee T.d__law_need sc__law_need (fun _ _ _ _ _ _ us hl => match us, hl with | [_, _], _ => rfl) (fun _ => rfl) fun f cdv Ar outer s H0 E hr => ?_
  obtain ⟨hu0, hu, hu64, hu65⟩ := room0 hr
  refine ⟨_, (pss_one (ps_ret (pe_dget2 hu (pe_callTy (call_dictU K) (by rfl) T.f_dict (by decide +kernel) (pa_cons (pe_dget hu (pv 0) pe_str (fun _ _ => rfl)) pa_nil)) (pv 1) pe_int ⟨rfl, rfl, rfl, rfl⟩))), fun a vs G H D hP hA e q => ?_⟩
  obtain ⟨b, t⟩ := a
  have ok : BOk b := hP
  obtain ⟨v, x, rfl, h1, h2⟩ := hA.two
  dsimp only at h1 h2 q
  have nd : ((b.needs.map fun p => ((.inl (p.1 : Int) : Key), PyData.int (p.2 : Int))).map (·.1)).Nodup := by
    have h := ok.nsd
    rw [List.map_map]
    unfold List.Nodup
    rw [List.pairwise_map] at h ⊢
    exact h.imp fun {p q} h z => by injection z with z; omega
  refine k_ret (ED.eq (ed_dget2 (k := .inl (t : Int)) (ed_dictP (kvs := b.needs.map fun p => (.inl (p.1 : Int), .int (p.2 : Int))) (ED.eq (ed_lget (nm := "needs") (ed_var (by rfl) h1)) (show PyData.list (dNeeds b) = _ by unfold dNeeds; rw [List.map_map]; rfl))) (ed_var (by rfl) h2) (ed_int (i := 0))) ?_) e q
  rw [mergeG_nodup nd]
  have := look_inj (f := fun j => (.inl (j : Int) : Key)) (g := fun c : Nat => PyData.int (c : Int)) (n := 5) (i := t) (fun j _ z => by injection z with z; omega) (l := b.needs) (fun p hp => by have := (ok.no p hp).2.1; omega)
  rw [this]
  unfold Bk.needOf
  cases lookG b.needs t <;> rfl
theorem c__law_price (T : Txt K mg) : Callee P w K mg base CX0 1 "_law_price" ["_law_book_here", "_law_name"] (FSp (fun a : Bk × Nat => BOk a.1 ∧ a.2 < a.1.n) (fun a => [lawR a.1, dt (.str (a.1.nm a.2))]) (fun a => dt (.int ((lookG a.1.prices a.2).getD 1 : Nat)))) := by
  refine callee T.d__law_price sc__law_price (fun _ _ _ _ _ _ us hl => match us, hl with | [_, _], _ => rfl) (fun _ => rfl) fun f cdv Ar outer s H0 E hr => ?_
  obtain ⟨hu0, hu, hu64, hu65⟩ := room0 hr
  refine ⟨_, (pss_one (ps_ret (pe_dget2 hu (pe_callTy (call_dictU K) (by rfl) T.f_dict (by decide +kernel) (pa_cons (pe_dget hu (pv 0) pe_str (fun _ _ => rfl)) pa_nil)) (pv 1) pe_int ⟨rfl, rfl, rfl, rfl⟩))), fun a vs G H D hP hA e q => ?_⟩
  obtain ⟨b, i⟩ := a
  obtain ⟨ok, hi⟩ := hP
  have ok : BOk b := ok
  obtain ⟨v, x, rfl, h1, h2⟩ := hA.two
  dsimp only at h1 h2 hi q
  refine k_ret (ED.eq (ed_dget2 (k := .inr (b.nm i)) (ed_dictP (kvs := b.prices.map fun p => (.inr (b.nm p.1), .int (p.2 : Int))) (ED.eq (ed_lget (nm := "prices") (ed_var (by rfl) h1)) (show PyData.list (dNum b b.prices) = _ by unfold dNum; rw [List.map_map]; rfl))) (ed_var (by rfl) h2) (ed_int (i := 1))) ?_) e q
  rw [mergeG_nodup (nodup_nm ok (fun p hp => (ok.po p hp).1) ok.pn)]
  have hj : ∀ j, j < b.n → (.inr (b.nm j) : Key) = .inr (b.nm i) → j = i := fun j hj z => nm_inj ok hj hi (by injection z)
  have := look_inj (f := fun j => (.inr (b.nm j) : Key)) (g := fun c : Nat => PyData.int (c : Int)) (n := b.n) (i := i) hj (l := b.prices) (fun p hp => (ok.po p hp).1)
  rw [this]
  cases lookG b.prices i <;> rfl
theorem c__law_order (T : Txt K mg) : Callee P w K mg base CX0 2 "_law_order" ["_law_book_here", "_law_some"] (FSp (fun a : Bk × List Str => BOk a.1) (fun a => [lawR a.1, dt (.tuple (a.2.map .str))]) (fun a => dt (.tuple ((a.1.nms.filter fun s => decide (s ∈ a.2)).map .str)))) := by
  have c__law_names := c__law_names (P := P) (w := w) (base := base) T
  refine callee T.d__law_order sc__law_order (fun _ _ _ _ _ _ us hl => match us, hl with | [_, _], _ => rfl) (fun _ => rfl) fun f cdv Ar outer s H0 E hr => ?_
  obtain ⟨hu0, hu, hu64, hu65⟩ := room0 hr
  refine ⟨_, (pss_one (ps_ret (pe_callTy (call_tupleU K) (by rfl) T.f_tuple (by decide +kernel) (pa_cons (pe_lc (own := [("_law_name", 2)]) rfl sc__law_order.nd (pi_listK K (pe_cl c__law_names hr pass0 (pa_cons (pv 0) pa_nil))) (blkOk_by (own := [("_law_name", 2)]) (N := N__law_order) (sc := defScope s__law_order) (by decide +kernel)) (fun _ _ _ _ _ => (pg_name (i := 2) sc__law_order.nd rfl (Or.inl rfl))) (fun _ _ _ _ _ => (pts_one (pt_cmpR (op_inU K hu65) (pv 2) (pv 1) (by rfl)))) (fun _ _ _ _ _ => (pv 2))) pa_nil)))), fun a vs G H D hP hA e q => ?_⟩
  obtain ⟨b, ss⟩ := a
  have ok : BOk b := hP
  obtain ⟨v, x, rfl, h1, h2⟩ := hA.two
  dsimp only at h1 h2
  refine k_ret (ed_tupL (ed_lcN (xs := b.nms) (Rx := fun s => dt (.str s)) (p := fun s => decide (s ∈ ss)) (f := fun s => .str s) (ei_listM (ed_call b (ea_cons (ed_var (by rfl) h1) ea_nil) ok)) (by rw [nms_len]; have := ok.n5; unfold Bk.n; omega) ?_)) e q
  intro s hs y G1 g1 ry
  exact ⟨et_test (ed_inT (ed_var (by rfl) ry) (ed_var (by rfl) (Dx.mono g1 h2))), fun _ => ed_var (by rfl) ry⟩
end
end RT
end
section
set_option maxRecDepth 100000
set_option maxHeartbeats 4000000
/-! RTW19: what holds by the law. -/
namespace RT
open PySem PySem.Spec PyProof.Rows L2
open Evl (Ex Ex.refl Ex.trans Ex.new Ex.mut)
theorem low_nodup (b : Bk) (i : Nat) : (b.low i).Nodup := List.Nodup.sublist List.filter_sublist List.nodup_range
theorem low_pc (b : Bk) (m i : Nat) : pc (m &&& maskOf (b.low i)) = (((List.range b.n).filter m.testBit).filter fun j => decide (b.tier j < b.tier i)).length := by
  rw [pc_and (low_nodup b i)]
  unfold Bk.low
  rw [List.filter_filter, List.filter_filter]
  congr 1
  exact List.filter_congr fun j _ => Bool.and_comm _ _
theorem sh_want {b : Bk} {x : Wt} (ok : BOk b) (hw : WOk b.n x) : Sh 2 (dWant b x) := Sh.tuple (k := 1) fun d hd => by
  rcases List.mem_append.mp hd with h | h
  · rcases List.mem_cons.mp h with z | h
    · subst z; exact (Sh.word (by cases x.kind <;> decide +kernel)).mono (by decide)
    · rcases List.mem_cons.mp h with z | h
      · subst z; exact (Sh.word (nm_word ok hw.who)).mono (by decide)
      · rw [List.mem_singleton.mp h]
        refine Sh.tuple (k := 0) fun d hd => ?_
        obtain ⟨s, hs, rfl⟩ := List.mem_map.mp hd
        obtain ⟨j, hj, rfl⟩ := List.mem_map.mp hs
        exact Sh.word (nm_word ok (hw.lt j hj).1)
  · split at h
    · rw [List.mem_singleton.mp h]; exact Sh.int.mono (by decide)
    · cases h
section
variable {P : Program} {w : World} {K : Fg} {mg : Str → Option Value} {base : Heap} {C : Addr}
theorem ei_bld {σ : L2.St} {G : Hp} {te : TE} {b : Bk} {m : Nat} (h : ED te σ G (dt (.tuple ((b.bld m).map .str)))) : EI (iTup K te) σ G (((List.range b.n).filter m.testBit).map fun i => dt (.str (b.nm i))) := by
  have := ei_tup (K := K) h
  unfold Bk.bld at this
  rw [List.map_map, List.map_map] at this
  exact this
theorem bld_in {σ : L2.St} {G : Hp} {ta tb : TE} {b : Bk} {m i : Nat} (ok : BOk b) (hi : i < b.n) (ha : ED ta σ G (dt (.str (b.nm i)))) (hb : ED tb σ G (dt (.tuple ((b.bld m).map .str)))) : ED (tOp (rInU K) ta tb) σ G (dt (.bool (m.testBit i))) := ED.eq (ed_inT ha hb) (congrArg PyData.bool (bld_mem_dec ok hi))
theorem flen5 {b : Bk} (ok : BOk b) (f : Nat → Bool) : ((List.range b.n).filter f).length ≤ 5 := by
  have := List.length_filter_le f (List.range b.n)
  rw [List.length_range] at this
  have n5 : b.n ≤ 5 := ok.n5
  omega
theorem c__law_is_row_met (T : Txt K mg) : Callee P w K mg base CX0 1 "_law_is_row_met" ["_law_row", "_law_build"] (FSp (fun a : Bk × Wt × Nat => BOk a.1 ∧ WOk a.1.n a.2.1) (fun a => [dt (dWant a.1 a.2.1), dt (.tuple ((a.1.bld a.2.2).map .str))]) (fun a => dt (.bool (decide (wMany a.2.1 ≤ pc (a.2.2 &&& maskOf a.2.1.some)))))) := by
  refine callee T.d__law_is_row_met sc__law_is_row_met (fun _ _ _ _ _ _ us hl => match us, hl with | [_, _], _ => rfl) (fun _ => rfl) fun f cdv Ar outer s H0 E hr => ?_
  obtain ⟨hu0, hu, hu64, hu65⟩ := room0 hr
  refine ⟨_, (pss_cons (ps_set (i := 2) sc__law_is_row_met.nd rfl (Or.inl rfl) (pe_callB (call_lenU K) (by rfl) T.f_len (by decide +kernel) (pa_cons (pe_lc (own := [("_law_name", 3)]) rfl sc__law_is_row_met.nd (pi_tupK K (pe_ix (ix_seqK K) (pv 0) pe_int (fun _ _ => rfl))) (blkOk_by (own := [("_law_name", 3)]) (N := N__law_is_row_met) (sc := defScope s__law_is_row_met) (by decide +kernel)) (fun _ _ _ _ _ => (pg_name (i := 3) sc__law_is_row_met.nd rfl (Or.inl rfl))) (fun _ _ _ _ _ => (pts_one (pt_cmpR (op_inU K hu65) (pv 3) (pv 1) (by rfl)))) (fun _ _ _ _ _ => (pv 3))) pa_nil))) (pss_one (ps_ret (pe_cmpR op_ge1 (pv 2) (pe_ifExp (pt_cmpR (op_eqK K hu64) (pe_ix (ix_seqK K) (pv 0) pe_int (fun _ _ => rfl)) pe_str (nomark _)) (pe_callB (call_lenU K) (by rfl) T.f_len (by decide +kernel) (pa_cons (pe_ix (ix_seqK K) (pv 0) pe_int (fun _ _ => rfl)) pa_nil)) (pe_ifExp (pt_cmpR (op_eqK K hu64) (pe_ix (ix_seqK K) (pv 0) pe_int (fun _ _ => rfl)) pe_str (nomark _)) pe_int (pe_ix (ix_seqK K) (pv 0) pe_int (fun _ _ => rfl)))) (nomark _))))), fun a vs G H D hP hA e q => ?_⟩
  obtain ⟨b, x, m⟩ := a
  obtain ⟨ok, hw⟩ := hP
  have ok : BOk b := ok
  have hw : WOk b.n x := hw
  obtain ⟨v, y, rfl, h1, h2⟩ := hA.two
  dsimp only at h1 h2 q
  have h1 : Dx G v (.tuple (dWL b x)) := h1
  have w0 : ∀ {σ : L2.St} {G2}, σ[0]? = some (some v) → Ex G G2 → ED (tVar 0) σ G2 (dt (.tuple (dWL b x))) := fun hσ g => ed_var hσ (Dx.mono g h1)
  have hl := hw.len
  refine k_asgS (R := dt (.int ((x.some.filter m.testBit).length : Int))) (ED.eq (ed_lenL (ed_lcN (xs := x.some) (Rx := fun j => dt (.str (b.nm j))) (p := m.testBit) (f := fun j => .str (b.nm j)) (ei_tupM (ed_ixT (w0 (by rfl) (Ex.refl _)) ed_int at_w2)) (by omega) fun j hj z G1 g1 rz => ⟨et_test (bld_in ok (hw.lt j hj).1 (ed_var (by rfl) rz) (ed_var (by rfl) (Dx.mono g1 h2))), fun _ => ed_var (by rfl) rz⟩)) (by simp)) e fun nv G1 H1 s1 r1 => ?_
  have word : ∀ {σ : L2.St} {G2 : Hp} {z : Str}, σ[0]? = some (some v) → Ex G G2 → wordS z = true → ED (tOp (rEqD K) (tOp (rIx K) (tVar 0) (tC (.int 0))) (tC (.str z))) σ G2 (dt (.bool (decide (kS x.kind = z)))) := fun hσ g hz => ed_eqS (ed_ixT (w0 hσ g) ed_int at_w0) ed_str (by cases x.kind <;> decide +kernel) hz
  have many : ED (tIf (tTest (tOp (rEqD K) (tOp (rIx K) (tVar 0) (tC (.int 0))) (tC (.str "all")))) (tCB (rLenU K) (tCons (tOp (rIx K) (tVar 0) (tC (.int 2))) tNil)) (tIf (tTest (tOp (rEqD K) (tOp (rIx K) (tVar 0) (tC (.int 0))) (tC (.str "any")))) (tC (.int 1)) (tOp (rIx K) (tVar 0) (tC (.int 3))))) ((L2.start N__law_is_row_met [v, y]).set 2 (some nv)) G1 (dt (.int (wMany x : Int))) := by
    refine ed_if (et_test (word (by rfl) s1.g (by decide +kernel))) (fun hb => ?_) fun hb => ed_if (et_test (word (by rfl) s1.g (by decide +kernel))) (fun hb2 => ?_) fun hb2 => ?_
    · have hk : x.kind = .all := by cases h : x.kind <;> rw [h] at hb <;> first | rfl | exact absurd hb (by decide +kernel)
      refine ED.eq (ed_lenT (ed_ixT (w0 (by rfl) s1.g) ed_int at_w2)) ?_
      unfold wMany; rw [hk]; simp
    · have hk : x.kind = .any := by cases h : x.kind <;> rw [h] at hb2 <;> first | rfl | exact absurd hb2 (by decide +kernel)
      unfold wMany; rw [hk]; exact ed_int
    · have hk : x.kind = .count := by cases h : x.kind <;> rw [h] at hb hb2 <;> first | rfl | exact absurd hb (by decide +kernel) | exact absurd hb2 (by decide +kernel)
      refine ed_ixT (w0 (by rfl) s1.g) ed_int ?_
      refine at_nat (j := 3) ?_
      unfold dWL wMany; rw [hk]; rfl
  refine k_ret (ED.eq (ed_ge (ed_var (by rfl) r1) many) (congrArg PyData.bool ?_)) s1.i fun v G2 H2 s2 r => q v G2 H2 (s1.trans s2) r
  rw [pc_and hw.nd]
  exact decide_eq_decide.mpr ⟨fun h => by omega, fun h => by omega⟩
theorem c__law_below (T : Txt K mg) : Callee P w K mg base CX0 2 "_law_below" ["_law_book_here", "_law_build", "_law_name"] (FSp (fun a : Bk × Nat × Nat => BOk a.1 ∧ a.2.2 < a.1.n) (fun a => [lawR a.1, dt (.tuple ((a.1.bld a.2.1).map .str)), dt (.str (a.1.nm a.2.2))]) (fun a => dt (.int (pc (a.2.1 &&& maskOf (a.1.low a.2.2)) : Int)))) := by
  have c__law_tier := c__law_tier (P := P) (w := w) (base := base) T
  refine callee T.d__law_below sc__law_below (fun _ _ _ _ _ _ us hl => match us, hl with | [_, _, _], _ => rfl) (fun _ => rfl) fun f cdv Ar outer s H0 E hr => ?_
  obtain ⟨hu0, hu, hu64, hu65⟩ := room0 hr
  refine ⟨_, (pss_one (ps_ret (pe_callB (call_lenU K) (by rfl) T.f_len (by decide +kernel) (pa_cons (pe_lc (own := [("_law_other", 3)]) rfl sc__law_below.nd (pi_tupK K (pv 1)) (blkOk_by (own := [("_law_other", 3)]) (N := N__law_below) (sc := defScope s__law_below) (by decide +kernel)) (fun _ _ _ _ _ => (pg_name (i := 3) sc__law_below.nd rfl (Or.inl rfl))) (fun _ _ _ _ _ => (pts_one (pt_cmpR (op_ltU K hu0) (pe_cl c__law_tier hr pass0 (pa_cons (pv 0) (pa_cons (pv 3) pa_nil))) (pe_cl c__law_tier hr pass0 (pa_cons (pv 0) (pa_cons (pv 2) pa_nil))) (nomark _)))) (fun _ _ _ _ _ => (pv 3))) pa_nil)))), fun a vs G H D hP hA e q => ?_⟩
  obtain ⟨b, m, i⟩ := a
  obtain ⟨ok, hi⟩ := hP
  have ok : BOk b := ok
  obtain ⟨v, y, z, rfl, h1, h2, h3⟩ := hA.three
  dsimp only at h1 h2 h3 hi q
  refine k_ret (ED.eq (ed_lenL (ed_lcN (xs := (List.range b.n).filter m.testBit) (Rx := fun j => dt (.str (b.nm j))) (p := fun j => decide (b.tier j < b.tier i)) (f := fun j => .str (b.nm j)) (ei_bld (ed_var (by rfl) h2)) (Nat.le_trans (flen5 ok _) (by decide)) fun j hj u G1 g1 ru => ⟨ET.eq (et_test (ed_lt (ed_call (b, j) (ea_cons (ed_var (by rfl) ((lawR b).mono g1 h1)) (ea_cons (ed_var (by rfl) ru) ea_nil)) ⟨ok, List.mem_range.mp (List.mem_filter.mp hj).1⟩) (ed_call (b, i) (ea_cons (ed_var (by rfl) ((lawR b).mono g1 h1)) (ea_cons (ed_var (by rfl) (Dx.mono g1 h3)) ea_nil)) ⟨ok, hi⟩))) (dec_lt _ _), fun _ => ed_var (by rfl) ru⟩)) ?_) e q
  rw [List.length_map, low_pc]
theorem c__law_is_met (T : Txt K mg) : Callee P w K mg base CX0 3 "_law_is_met" ["_law_book_here", "_law_build", "_law_name"] (FSp (fun a : Bk × Nat × Nat => BOk a.1 ∧ a.2.2 < a.1.n) (fun a => [lawR a.1, dt (.tuple ((a.1.bld a.2.1).map .str)), dt (.str (a.1.nm a.2.2))]) (fun a => dt (.bool (a.1.letP a.2.1 a.2.2)))) := by
  have c__law_tier := c__law_tier (P := P) (w := w) (base := base) T
  have c__law_need := c__law_need (P := P) (w := w) (base := base) T
  have c__law_below := c__law_below (P := P) (w := w) (base := base) T
  have c__law_is_row_met := c__law_is_row_met (P := P) (w := w) (base := base) T
  refine callee T.d__law_is_met sc__law_is_met (fun _ _ _ _ _ _ us hl => match us, hl with | [_, _, _], _ => rfl) (fun _ => rfl) fun f cdv Ar outer s H0 E hr => ?_
  obtain ⟨hu0, hu, hu64, hu65⟩ := room0 hr
  refine ⟨_, (pss_cons (ps_if (pt_cmpR (op_ltU K hu0) (pe_cl c__law_below hr pass0 (pa_cons (pv 0) (pa_cons (pv 1) (pa_cons (pv 2) pa_nil)))) (pe_cl c__law_need hr pass0 (pa_cons (pv 0) (pa_cons (pe_cl c__law_tier hr pass0 (pa_cons (pv 0) (pa_cons (pv 2) pa_nil))) pa_nil))) (nomark _)) (pss_one (ps_ret pe_bl)) pss_nil) (pss_one (ps_ret (pe_cmpR (op_eqK K hu64) (pe_lc (own := [("_law_row", 3)]) rfl sc__law_is_met.nd (pi_listK K (pe_dget hu (pv 0) pe_str (fun _ _ => rfl))) (blkOk_by (own := [("_law_row", 3)]) (N := N__law_is_met) (sc := defScope s__law_is_met) (by decide +kernel)) (fun _ _ _ _ _ => (pg_name (i := 3) sc__law_is_met.nd rfl (Or.inl rfl))) (fun _ _ _ _ _ => (pts_one (L2.PW.pt (pw_and (pt_cmpR (op_eqK K hu64) (pe_ix (ix_seqK K) (pv 3) pe_int (fun _ _ => rfl)) (pv 2) (nomark _)) (pw_and1 (pt_not (pt_truthK K (pe_cl c__law_is_row_met hr pass0 (pa_cons (pv 3) (pa_cons (pv 1) pa_nil)))))))))) (fun _ _ _ _ _ => (pv 3))) (pe_lst pa_nil) (nomark _))))), fun a vs G H D hP hA e q => ?_⟩
  obtain ⟨b, m, i⟩ := a
  obtain ⟨ok, hi⟩ := hP
  have ok : BOk b := ok
  obtain ⟨v, y, z, rfl, h1, h2, h3⟩ := hA.three
  dsimp only at h1 h2 h3 hi q
  have lw : ∀ {σ : L2.St} {G2}, σ[0]? = some (some v) → Ex G G2 → ED (tVar 0) σ G2 (lawR b) := fun hσ g => ed_var hσ ((lawR b).mono g h1)
  have eL : b.letP m i = (decide (b.needOf (b.tier i) ≤ pc (m &&& maskOf (b.low i))) && (b.wants.filter fun w => decide (w.who = i)).all fun w => decide (wMany w ≤ pc (m &&& maskOf w.some))) := by
    unfold Bk.letP Bk.ask
    rw [List.all_cons, List.all_map]
    rfl
  refine k_retS (b := decide (pc (m &&& maskOf (b.low i)) < b.needOf (b.tier i))) (R := dt (.bool false)) (ET.eq (et_test (ed_lt (ed_call (b, m, i) (ea_cons (lw (by rfl) (Ex.refl _)) (ea_cons (ed_var (by rfl) h2) (ea_cons (ed_var (by rfl) h3) ea_nil))) ⟨ok, hi⟩) (ed_call (b, b.tier i) (ea_cons (lw (by rfl) (Ex.refl _)) (ea_cons (ed_call (b, i) (ea_cons (lw (by rfl) (Ex.refl _)) (ea_cons (ed_var (by rfl) h3) ea_nil)) ⟨ok, hi⟩) ea_nil)) ok))) (dec_lt _ _)) e (fun _ => ed_bl) (fun hb v G1 H1 s1 r => q v G1 H1 s1 ?_) fun hb G1 H1 s1 => ?_
  · have hb := of_decide_eq_true hb
    have : b.letP m i = false := by rw [eL, decide_eq_false (by omega)]; rfl
    show Dx G1 v (.bool (b.letP m i))
    rw [this]; exact r
  · have hb := of_decide_eq_false hb
    have wl := ok.wl
    refine k_ret (ED.eq (ed_eq (ed_lcN (xs := b.wants) (Rx := fun w => dt (dWant b w)) (p := fun w => decide (w.who = i) && !decide (wMany w ≤ pc (m &&& maskOf w.some))) (f := fun w => dWant b w) (ei_listM (ed_lget (lw (by rfl) s1.g))) (by omega) fun x hx u G2 g2 ru => ⟨et_and (ET.eq (et_test (ed_eqS (x := b.nm x.who) (y := b.nm i) (ed_ixT (ds := dWL b x) (ed_var (by rfl) ru) ed_int at_w1) (ed_var (by rfl) (Dx.mono (s1.g.trans g2) h3)) (nm_word ok (ok.wo x hx).who) (nm_word ok hi))) (decide_eq_decide.mpr ⟨fun z => nm_inj ok (ok.wo x hx).who hi z, fun z => by rw [z]⟩)) fun _ => et_not (et_tb (ed_call (b, x, m) (ea_cons (ed_var (by rfl) ru) (ea_cons (ed_var (by rfl) (Dx.mono (s1.g.trans g2) h2)) ea_nil)) ⟨ok, ok.wo x hx⟩)), fun _ => ed_var (by rfl) ru⟩) (ed_lst ead_nil (by simp)) ?_ rfl) ?_) s1.i fun v G2 H2 s2 r => q v G2 H2 (s1.trans s2) r
    · refine (Sh.list (k := 2) fun d hd => ?_).shaped
      obtain ⟨x, hx, rfl⟩ := List.mem_map.mp hd
      exact sh_want ok (ok.wo x (List.mem_filter.mp hx).1)
    · rw [eqv_nilL, eL, decide_eq_true (show b.needOf (b.tier i) ≤ _ by omega), Bool.true_and]
      congr 1
      rw [List.all_filter, Bool.eq_iff_iff, decide_eq_true_iff, List.map_eq_nil_iff, List.filter_eq_nil_iff, List.all_eq_true]
      constructor
      · intro h x hx
        have := h x hx
        cases h1 : decide (x.who = i) <;> cases h2 : decide (wMany x ≤ pc (m &&& maskOf x.some)) <;> simp_all
      · intro h x hx
        have := h x hx
        cases h1 : decide (x.who = i) <;> cases h2 : decide (wMany x ≤ pc (m &&& maskOf x.some)) <;> simp_all
theorem c__law_size_let (T : Txt K mg) : Callee P w K mg base CX0 1 "_law_size_let" ["_law_book_here", "_law_build"] (FSp (fun a : Bk × Nat => BOk a.1) (fun a => [lawR a.1, dt (.tuple ((a.1.bld a.2).map .str))]) (fun a => dt (.int (a.1.ptsP a.2 : Int)))) := by
  refine callee T.d__law_size_let sc__law_size_let (fun _ _ _ _ _ _ us hl => match us, hl with | [_, _], _ => rfl) (fun _ => rfl) fun f cdv Ar outer s H0 E hr => ?_
  obtain ⟨hu0, hu, hu64, hu65⟩ := room0 hr
  refine ⟨_, (pss_one (ps_ret (pe_op (op_addU K) (pe_dget hu (pv 0) pe_str (fun _ _ => rfl)) (pe_callB (call_sumU K) (by rfl) T.f_sum (by decide +kernel) (pa_cons (pe_lc (own := [("_law_name", 2), ("_law_many", 3)]) rfl sc__law_size_let.nd (pi_listK K (pe_dget hu (pv 0) pe_str (fun _ _ => rfl))) (blkOk_by (own := [("_law_name", 2), ("_law_many", 3)]) (N := N__law_size_let) (sc := defScope s__law_size_let) (by decide +kernel)) (fun _ _ _ _ _ => (pg_tupK K (n := 2) (pgs_cons (pg_name (i := 2) sc__law_size_let.nd rfl (Or.inl rfl)) (pgs_cons (pg_name (i := 3) sc__law_size_let.nd rfl (Or.inl rfl)) pgs_nil)))) (fun _ _ _ _ _ => (pts_one (pt_cmpR (op_inU K hu65) (pv 2) (pv 1) (by rfl)))) (fun _ _ _ _ _ => (pv 3))) pa_nil))))), fun a vs G H D hP hA e q => ?_⟩
  obtain ⟨b, m⟩ := a
  have ok : BOk b := hP
  obtain ⟨v, y, rfl, h1, h2⟩ := hA.two
  dsimp only at h1 h2 q
  have gl := ok.gl
  refine k_ret (ED.eq (ed_add (ed_lget (d := .int (b.pts : Int)) (ed_var (by rfl) h1)) (ed_sum (ns := ((b.gives.filter fun p => m.testBit p.1).map (·.2)).map fun i : Nat => (i : Int)) (ED.eq (ed_lcP (xs := b.gives) (p := fun p => m.testBit p.1) (f := fun p : Nat × Nat => .int p.2) (a := fun p : Nat × Nat => .str (b.nm p.1)) (b := fun p : Nat × Nat => .int p.2) (ei_listM (ed_lget (ed_var (by rfl) h1))) (by omega) fun p hp u z G1 g1 ru rz => ⟨et_test (bld_in ok (ok.go p hp).1 (ed_var (by rfl) ru) (ed_var (by rfl) (Dx.mono g1 h2))), fun _ => ed_var (by rfl) rz⟩) (by rw [List.map_map, List.map_map]; rfl)))) ?_) e q
  rw [sum_cast]; simp [Bk.ptsP]
theorem c__law_holds (T : Txt K mg) : Callee P w K mg base CX0 4 "_law_holds" ["_law_book_here", "_law_build"] (FSp (fun a : Bk × Nat => BOk a.1 ∧ a.2 < 2 ^ a.1.n) (fun a => [lawR a.1, dt (.tuple ((a.1.bld a.2).map .str))]) (fun a => dt (.bool (a.1.holdP a.2)))) := by
  have c__law_is_met := c__law_is_met (P := P) (w := w) (base := base) T
  have c__law_size_let := c__law_size_let (P := P) (w := w) (base := base) T
  refine callee T.d__law_holds sc__law_holds (fun _ _ _ _ _ _ us hl => match us, hl with | [_, _], _ => rfl) (fun _ => rfl) fun f cdv Ar outer s H0 E hr => ?_
  obtain ⟨hu0, hu, hu64, hu65⟩ := room0 hr
  refine ⟨_, (pss_cons (ps_if (pt_cmpR op_gt1 (pe_callB (call_lenU K) (by rfl) T.f_len (by decide +kernel) (pa_cons (pv 1) pa_nil)) (pe_cl c__law_size_let hr pass0 (pa_cons (pv 0) (pa_cons (pv 1) pa_nil))) (nomark _)) (pss_one (ps_ret pe_bl)) pss_nil) (pss_cons (ps_if (pt_cmpR (op_neK K hu64) (pe_lc (own := [("_law_pair", 2)]) rfl sc__law_holds.nd (pi_listK K (pe_dget hu (pv 0) pe_str (fun _ _ => rfl))) (blkOk_by (own := [("_law_pair", 2)]) (N := N__law_holds) (sc := defScope s__law_holds) (by decide +kernel)) (fun _ _ _ _ _ => (pg_name (i := 2) sc__law_holds.nd rfl (Or.inl rfl))) (fun _ _ _ _ _ => (pts_one (L2.PW.pt (pw_and (pt_cmpR (op_inU K hu65) (pe_ix (ix_seqK K) (pv 2) pe_int (fun _ _ => rfl)) (pv 1) (by rfl)) (pw_and1 (pt_cmpR (op_inU K hu65) (pe_ix (ix_seqK K) (pv 2) pe_int (fun _ _ => rfl)) (pv 1) (by rfl))))))) (fun _ _ _ _ _ => (pv 2))) (pe_lst pa_nil) (nomark _)) (pss_one (ps_ret pe_bl)) pss_nil) (pss_one (ps_ret (pe_cmpR (op_eqK K hu64) (pe_lc (own := [("_law_name", 3)]) rfl sc__law_holds.nd (pi_tupK K (pv 1)) (blkOk_by (own := [("_law_name", 3)]) (N := N__law_holds) (sc := defScope s__law_holds) (by decide +kernel)) (fun _ _ _ _ _ => (pg_name (i := 3) sc__law_holds.nd rfl (Or.inl rfl))) (fun _ _ _ _ _ => (pts_one (pt_not (pt_truthK K (pe_cl c__law_is_met hr pass0 (pa_cons (pv 0) (pa_cons (pv 1) (pa_cons (pv 3) pa_nil)))))))) (fun _ _ _ _ _ => (pv 3))) (pe_lst pa_nil) (nomark _)))))), fun a vs G H D hP hA e q => ?_⟩
  obtain ⟨b, m⟩ := a
  obtain ⟨ok, hm⟩ := hP
  have ok : BOk b := ok
  obtain ⟨v, y, rfl, h1, h2⟩ := hA.two
  dsimp only at h1 h2 hm q
  have lw : ∀ {σ : L2.St} {G2}, σ[0]? = some (some v) → Ex G G2 → ED (tVar 0) σ G2 (lawR b) := fun hσ g => ed_var hσ ((lawR b).mono g h1)
  have bl := ok.bl
  have eH : b.holdP m = (!(decide (b.ptsP m < pc m) || b.bars.any fun p => m.testBit p.1 && m.testBit p.2) && ((List.range b.n).filter m.testBit).all (b.letP m)) := by
    unfold Bk.holdP
    congr 3
    rw [Bool.eq_iff_iff, List.any_eq_true, List.any_eq_true]
    constructor
    · rintro ⟨p, hp, h⟩
      have := (and_pair (m := m) (ok.bo p hp).2.2).mp (of_decide_eq_true h)
      exact ⟨p, hp, by rw [this.1, this.2]; rfl⟩
    · rintro ⟨p, hp, h⟩
      rw [Bool.and_eq_true] at h
      exact ⟨p, hp, decide_eq_true ((and_pair (m := m) (ok.bo p hp).2.2).mpr h)⟩
  refine k_retS (b := decide (b.ptsP m < pc m)) (R := dt (.bool false)) (ET.eq (et_test (ed_gt (ed_lenT (ed_var (by rfl) h2)) (ed_call (b, m) (ea_cons (lw (by rfl) (Ex.refl _)) (ea_cons (ed_var (by rfl) h2) ea_nil)) ok))) (by rw [List.length_map, bld_len, ← pc_range hm]; exact dec_lt _ _)) e (fun _ => ed_bl) (fun hb v G1 H1 s1 r => q v G1 H1 s1 ?_) fun hb G1 H1 s1 => ?_
  · show Dx G1 v (.bool (b.holdP m))
    rw [eH, hb]; exact r
  refine k_retS (b := b.bars.any fun p => m.testBit p.1 && m.testBit p.2) (R := dt (.bool false)) (ET.eq (et_test (ed_ne (ed_lcN (xs := b.bars) (Rx := fun p => dt (.tuple [.str (b.nm p.1), .str (b.nm p.2)])) (p := fun p => m.testBit p.1 && m.testBit p.2) (f := fun p => .tuple [.str (b.nm p.1), .str (b.nm p.2)]) (ei_listM (ed_lget (lw (by rfl) s1.g))) (by omega) fun p hp u G2 g2 ru => ⟨et_and (et_test (bld_in ok (ok.bo p hp).1 (ed_ixT (ed_var (by rfl) ru) ed_int at0) (ed_var (by rfl) (Dx.mono (s1.g.trans g2) h2)))) fun _ => et_test (bld_in ok (ok.bo p hp).2.1 (ed_ixT (ed_var (by rfl) ru) ed_int at1) (ed_var (by rfl) (Dx.mono (s1.g.trans g2) h2))), fun _ => ed_var (by rfl) ru⟩) (ed_lst ead_nil (by simp)) ?_ rfl)) ?_) s1.i (fun _ => ed_bl) (fun hb2 v G2 H2 s2 r => q v G2 H2 (s1.trans s2) ?_) fun hb2 G2 H2 s2 => ?_
  · refine (Sh.list (k := 1) fun d hd => ?_).shaped
    obtain ⟨p, hp, rfl⟩ := List.mem_map.mp hd
    have := ok.bo p (List.mem_filter.mp hp).1
    refine Sh.tuple (k := 0) fun d hd => ?_
    rcases List.mem_cons.mp hd with z | z
    · subst z; exact Sh.word (nm_word ok this.1)
    · rw [List.mem_singleton.mp z]; exact Sh.word (nm_word ok this.2.1)
  · rw [eqv_nilL, Bool.eq_iff_iff, Bool.not_eq_true', decide_eq_false_iff_not, List.map_eq_nil_iff, List.filter_eq_nil_iff, List.any_eq_true]
    constructor
    · intro h
      apply Classical.byContradiction
      intro h2
      exact h fun x hx hy => h2 ⟨x, hx, hy⟩
    · rintro ⟨x, hx, hy⟩ h
      exact h x hx hy
  · show Dx G2 v (.bool (b.holdP m))
    rw [eH, hb2, Bool.or_true]; exact r
  have s12 := s1.trans s2
  refine k_ret (ED.eq (ed_eq (ed_lcN (xs := (List.range b.n).filter m.testBit) (Rx := fun i => dt (.str (b.nm i))) (p := fun i => !b.letP m i) (f := fun i => .str (b.nm i)) (ei_bld (ed_var (by rfl) (Dx.mono s12.g h2))) (Nat.le_trans (flen5 ok _) (by decide)) fun i hi u G3 g3 ru => ⟨et_not (et_tb (ed_call (b, m, i) (ea_cons (lw (by rfl) (s12.g.trans g3)) (ea_cons (ed_var (by rfl) (Dx.mono (s12.g.trans g3) h2)) (ea_cons (ed_var (by rfl) ru) ea_nil))) ⟨ok, List.mem_range.mp (List.mem_filter.mp hi).1⟩)), fun _ => ed_var (by rfl) ru⟩) (ed_lst ead_nil (by simp)) ?_ rfl) ?_) s2.i fun v G3 H3 s3 r => q v G3 H3 (s12.trans s3) r
  · refine (Sh.list (k := 0) fun d hd => ?_).shaped
    obtain ⟨i, hi, rfl⟩ := List.mem_map.mp hd
    exact Sh.word (nm_word ok (List.mem_range.mp (List.mem_filter.mp (List.mem_filter.mp hi).1).1))
  · rw [eqv_nilL, eH, hb, hb2]
    congr 1
    rw [Bool.or_false, Bool.not_false, Bool.true_and, Bool.eq_iff_iff, decide_eq_true_iff, List.map_eq_nil_iff, List.filter_eq_nil_iff, List.all_eq_true]
    constructor
    · intro h x hx
      have := h x hx
      simpa using this
    · intro h x hx
      rw [h x hx]; decide
end
end RT
end
section
set_option maxRecDepth 100000
set_option maxHeartbeats 4000000
/-! RTW20: all builds, by levels. -/
namespace RT
open PySem PySem.Spec PyProof.Rows L2
open Evl (Ex Ex.refl Ex.trans Ex.new Ex.mut)
/-! ### rising lists of places -/
def lowL (l : List Nat) : Nat := match l.getLast? with
  | none => 0
  | some j => j + 1
def stepL (n : Nat) (l : List Nat) : List (List Nat) := ((List.range n).drop (lowL l)).map fun j => l ++ [j]
def lvlL (n : Nat) : Nat → List (List Nat)
  | 0 => [[]]
  | k + 1 => (lvlL n k).flatMap (stepL n)
def subsL (n : Nat) : List (List Nat) := (List.range (n + 1)).flatMap (lvlL n)
/-- rising, below n -/
def Ris (n : Nat) (l : List Nat) : Prop := l.Pairwise (· < ·) ∧ ∀ j ∈ l, j < n
theorem mem_dropR {n k j : Nat} : j ∈ (List.range n).drop k ↔ k ≤ j ∧ j < n := by
  rw [List.mem_drop_iff_getElem]
  constructor
  · rintro ⟨i, hi, e⟩
    simp at e hi
    omega
  · rintro ⟨h1, h2⟩
    exact ⟨j - k, by simp; omega, by simp; omega⟩
theorem low_le {l : List Nat} (h : l.Pairwise (· < ·)) {x : Nat} (hx : x ∈ l) : x < lowL l := by
  unfold lowL
  rcases List.eq_nil_or_concat l with z | ⟨l', y, z⟩
  · subst z; cases hx
  · rw [List.concat_eq_append] at z
    subst z
    rw [show (l' ++ [y]).getLast? = some y from by simp]
    show x < y + 1
    rw [List.pairwise_append] at h
    rcases List.mem_append.mp hx with w | w
    · have := h.2.2 x w y (by simp); omega
    · rw [List.mem_singleton.mp w]; omega
theorem lvl_ris {n : Nat} : ∀ {k : Nat} {l : List Nat}, l ∈ lvlL n k → Ris n l
  | 0, l, h => by
    rw [List.mem_singleton.mp h]
    exact ⟨.nil, fun _ z => (nomatch z)⟩
  | k + 1, l, h => by
    obtain ⟨l', h1, h2⟩ := List.mem_flatMap.mp h
    obtain ⟨j, h3, rfl⟩ := List.mem_map.mp h2
    obtain ⟨r1, r2⟩ := lvl_ris h1
    have hj := mem_dropR.mp h3
    refine ⟨List.pairwise_append.mpr ⟨r1, List.pairwise_singleton _ _, fun x hx y hy => ?_⟩, fun x hx => ?_⟩
    · rw [List.mem_singleton.mp hy]
      exact Nat.lt_of_lt_of_le (low_le r1 hx) hj.1
    · rcases List.mem_append.mp hx with z | z
      · exact r2 x z
      · rw [List.mem_singleton.mp z]; exact hj.2
theorem ris_lvl {n : Nat} : ∀ {k : Nat} {l : List Nat}, Ris n l → l.length = k → l ∈ lvlL n k
  | 0, l, _, h => by
    rw [List.length_eq_zero_iff] at h; subst h; simp [lvlL]
  | k + 1, l, ⟨r1, r2⟩, h => by
    rcases List.eq_nil_or_concat l with z | ⟨l', y, z⟩
    · subst z; cases h
    · rw [List.concat_eq_append] at z
      subst z
      rw [List.pairwise_append] at r1
      refine List.mem_flatMap.mpr ⟨l', ris_lvl ⟨r1.1, fun x hx => r2 x (List.mem_append_left _ hx)⟩ (by simp at h; exact h), List.mem_map.mpr ⟨y, mem_dropR.mpr ⟨?_, r2 y (by simp)⟩, rfl⟩⟩
      unfold lowL
      cases hl : l'.getLast? with
      | none => exact Nat.zero_le _
      | some j => exact r1.2.2 j (List.mem_of_getLast? hl) y (by simp)
theorem ris_len {n : Nat} {l : List Nat} (h : Ris n l) : l.length ≤ n := by
  have := List.Nodup.length_le_of_subset (l₂ := List.range n) (h.1.imp fun h => Nat.ne_of_lt h) fun x hx => List.mem_range.mpr (h.2 x hx)
  simpa using this
theorem mem_subs {n : Nat} {l : List Nat} : l ∈ subsL n ↔ Ris n l := by
  unfold subsL
  rw [List.mem_flatMap]
  constructor
  · rintro ⟨k, _, h⟩; exact lvl_ris h
  · intro h
    exact ⟨l.length, List.mem_range.mpr (Nat.lt_succ_of_le (ris_len h)), ris_lvl h rfl⟩
theorem ris_nodup {n : Nat} {l : List Nat} (h : Ris n l) : l.Nodup := h.1.imp fun h => Nat.ne_of_lt h
theorem ris_bits {n : Nat} {l : List Nat} (h : Ris n l) : (List.range n).filter (maskOf l).testBit = l := by
  have e : (List.range n).filter (maskOf l).testBit = (List.range n).filter fun j => decide (j ∈ l) := List.filter_congr fun j _ => tb_maskOf (ris_nodup h) j
  rw [e]
  refine List.Perm.eq_of_pairwise (le := (· < ·)) (fun a b _ _ h1 h2 => by omega) (List.Pairwise.sublist List.filter_sublist List.pairwise_lt_range) h.1 ?_
  refine (List.perm_ext_iff_of_nodup (List.Nodup.sublist List.filter_sublist List.nodup_range) (ris_nodup h)).mpr fun a => ?_
  rw [List.mem_filter, List.mem_range, decide_eq_true_iff]
  exact ⟨fun z => z.2, fun z => ⟨h.2 a z, z⟩⟩
theorem bits_ris (n m : Nat) : Ris n ((List.range n).filter m.testBit) := ⟨List.Pairwise.sublist List.filter_sublist List.pairwise_lt_range, fun j hj => List.mem_range.mp (List.mem_filter.mp hj).1⟩
theorem lvl_len (n : Nat) (h5 : n ≤ 5) : ∀ k, (lvlL n k).length ≤ 5 ^ k
  | 0 => by simp [lvlL]
  | k + 1 => by
    have ih := lvl_len n h5 k
    have : ∀ l : List (List Nat), (l.flatMap (stepL n)).length ≤ 5 * l.length := fun l => by
      induction l with
      | nil => simp
      | cons a l ih =>
        rw [List.flatMap_cons, List.length_append, List.length_cons]
        have : (stepL n a).length ≤ 5 := by unfold stepL; simp; omega
        omega
    have := this (lvlL n k)
    show ((lvlL n k).flatMap (stepL n)).length ≤ _
    rw [Nat.pow_succ]; omega
end RT
end
section
set_option maxRecDepth 100000
set_option maxHeartbeats 4000000
/-! RTW21: all builds, walked. -/
namespace RT
open PySem PySem.Spec PyProof.Rows L2
open Evl (Ex Ex.refl Ex.trans Ex.new Ex.mut)
def dL (b : Bk) (l : List Nat) : PyData := .tuple ((l.map b.nm).map .str)
theorem sh_dL {b : Bk} (ok : BOk b) {l : List Nat} (h : ∀ j ∈ l, j < b.n) : SeqAt.shaped (dL b l) = true := (Sh.tuple (k := 0) fun d hd => by
  obtain ⟨s, hs, rfl⟩ := List.mem_map.mp hd
  obtain ⟨j, hj, rfl⟩ := List.mem_map.mp hs
  exact Sh.word (nm_word ok (h j hj))).shaped
section
variable {σ : L2.St} {G H : Hp} {D : Ends} {ta te tn : TE} {tw : TS} {R S : Rel} {K : Fg} {b : Bk} {i j k : Nat}
theorem ed_index (ok : BOk b) (hn : ED tn σ G (dt (.list (b.nms.map .str)))) (he : ED te σ G (dt (.str (b.nm j)))) (hj : j < b.n) : ED (tBM K "list" (rIndex K) tn (tCons te tNil)) σ G (dt (.int (j : Int))) := fun H e Q q => hn H e _ fun v G1 H1 s r => by
  obtain ⟨a, xs, rfl, ea, hx⟩ := Dx.list_inv r
  rw [hx.strs] at ea
  refine ⟨.inl ⟨rfl, _, SqL.of (s.i _ _ ea)⟩, ?_⟩
  refine (he.mono s.g) H1 s.i _ fun y G2 H2 s2 r2 => ?_
  rw [Dx.str_inv r2]
  refine ⟨a, _, .str (b.nm j), j, .str (b.nm j), rfl, rfl, SqL.of (s2.i _ _ (s2.g _ _ ea)), rfl, ?_, ?_, ?_, fun m z hm hz => ?_, q _ G2 H2 (s.trans s2) (.int _)⟩
  · rw [List.all_eq_true]
    intro z hz
    obtain ⟨s, _, rfl⟩ := List.mem_map.mp hz
    rfl
  · rw [List.getElem?_map, nm_get hj]; rfl
  · show (b.nm j == b.nm j) = true
    simp
  · rw [List.getElem?_map, nm_get (by omega)] at hz
    cases hz
    show (b.nm m == b.nm j) = false
    rw [beq_eq_false_iff_ne]
    intro e
    have := nm_inj ok (by omega) hj e
    omega
theorem k_par (h : EA (tCons ta (tCons te tNil)) σ G [R, S]) (e : Ex G H) (q : ∀ v w G' H', Step G H G' H' → R.r v G' → S.r w G' → D.nx ((σ.set i (some v)).set j (some w)) H') : tPar i j (tCons ta (tCons te tNil)) D σ H := h H e _ fun vs G1 H1 s r => by
  obtain ⟨v, w, rfl, r1, r2⟩ := r.two
  exact ⟨v, w, rfl, q v w G1 H1 s r1 r2⟩
theorem k_parS (hij : True) (h : EA (tCons ta (tCons te tNil)) σ G [R, S]) (e : Ex G H) (q : ∀ v w G' H', Step G H G' H' → R.r v G' → S.r w G' → tw D ((σ.set i (some v)).set j (some w)) H') : tSeq (tPar i j (tCons ta (tCons te tNil))) tw D σ H := k_par (D := { D with nx := tw D }) h e q
end
theorem cut_from {α : Type} (xs : List α) (k : Nat) : cutD xs (some (k : Int)) none = xs.drop k := by
  unfold cutD
  rw [HT.sIx_none, HT.sIx_nat]
  by_cases h : k ≤ xs.length
  · rw [Nat.min_eq_left h]
    exact List.take_of_length_le (by simp)
  · rw [Nat.min_eq_right (by omega), List.drop_of_length_le (Nat.le_refl _), List.drop_of_length_le (by omega)]; simp
theorem cut_to {α : Type} (xs : List α) (k : Nat) : cutD xs none (some (k : Int)) = xs.take k := by
  unfold cutD
  rw [HT.sIx_none, HT.sIx_nat]
  show ((xs.drop 0).take (min k xs.length - 0)) = _
  rw [List.drop_zero, Nat.sub_zero]
  by_cases h : k ≤ xs.length
  · rw [Nat.min_eq_left h]
  · rw [Nat.min_eq_right (by omega), List.take_of_length_le (Nat.le_refl _), List.take_of_length_le (by omega)]
def fndL (n t : Nat) : List (List Nat) := (List.range (t + 1)).flatMap (lvlL n)
theorem fnd_succ (n t : Nat) : fndL n (t + 1) = fndL n t ++ lvlL n (t + 1) := by
  unfold fndL
  rw [List.range_succ (n := t + 1), List.flatMap_append]
  simp
theorem fnd_len {n : Nat} (h5 : n ≤ 5) : ∀ t, t ≤ 5 → (fndL n t).length ≤ 4000 * (t + 1)
  | 0, _ => by simp [fndL, lvlL]
  | t + 1, h => by
    have ih := fnd_len h5 t (by omega)
    rw [fnd_succ, List.length_append]
    have h1 := lvl_len n h5 (t + 1)
    have h2 : 5 ^ (t + 1) ≤ 5 ^ 5 := Nat.pow_le_pow_right (by decide) (by omega)
    have h3 : (5 : Nat) ^ 5 = 3125 := by decide
    omega
section
variable {P : Program} {w : World} {K : Fg} {mg : Str → Option Value} {base : Heap} {C : Addr}
theorem c__law_subsets (T : Txt K mg) : Callee P w K mg base CX0 2 "_law_subsets" ["_law_book_here"] (FSp BOk (fun b => [lawR b]) (fun b => dt (.list ((subsL b.n).map (dL b))))) := by
  have c__law_names := c__law_names (P := P) (w := w) (base := base) T
  refine callee T.d__law_subsets sc__law_subsets (fun _ _ _ _ _ _ us hl => match us, hl with | [_], _ => rfl) (fun _ => rfl) fun f cdv Ar outer s H0 E hr => ?_
  obtain ⟨hu0, hu, hu64, hu65⟩ := room0 hr
  refine ⟨_, (pss_cons (ps_set (i := 1) sc__law_subsets.nd rfl (Or.inl rfl) (pe_cl c__law_names hr pass0 (pa_cons (pv 0) pa_nil))) (pss_cons (ps_par (i := 2) (j := 3) rfl sc__law_subsets.nd rfl rfl (by decide) rfl rfl (pa_cons (pe_lst (pa_cons (pe_tup pa_nil) pa_nil)) (pa_cons (pe_lst (pa_cons (pe_tup pa_nil) pa_nil)) pa_nil)) rfl) (pss_cons (ps_for PassesOwn.never rfl (pi_range1 (by rfl) T.f_range (pa_cons (pe_callB (call_lenU K) (by rfl) T.f_len (by decide +kernel) (pa_cons (pv 1) pa_nil)) pa_nil)) (pg_name (i := 4) sc__law_subsets.nd rfl (Or.inl rfl)) (pss_cons (ps_set (i := 5) sc__law_subsets.nd rfl (Or.inl rfl) (pe_lst pa_nil)) (pss_cons (ps_for PassesOwn.never rfl (pi_listK K (pv 3)) (pg_name (i := 6) sc__law_subsets.nd rfl (Or.inr rfl)) (pss_cons (ps_set (i := 7) sc__law_subsets.nd rfl (Or.inl rfl) (pe_ifExp (pt_cmpR (op_neK K hu64) (pv 6) (pe_tup pa_nil) (nomark _)) (pe_op (op_addU K) (pe_bm PySem.F.plainAttrs_list PySem.F.slot_list_index PySem.F.type_list_index mt_index (pv 1) (pa_cons (pe_ix (ix_seqK K) (pv 6) (pe_un un_neg1 pe_int) (fun _ _ => rfl)) pa_nil)) pe_int) pe_int)) (pss_one (ps_set (i := 5) sc__law_subsets.nd rfl (Or.inl rfl) (pe_op (op_addU K) (pv 5) (pe_lc (own := [("_law_name", 8)]) rfl sc__law_subsets.nd (pi_listK K (pe_slice (sl_listK K) (pv 1) (po_some (pv 7)) po_none)) (blkOk_by (own := [("_law_name", 8)]) (N := N__law_subsets) (sc := defScope s__law_subsets) (by decide +kernel)) (fun _ _ _ _ _ => (pg_name (i := 8) sc__law_subsets.nd rfl (Or.inl rfl))) (fun _ _ _ _ _ => pts_nil) (fun _ _ _ _ _ => (pe_op (op_addU K) (pv 6) (pe_tup (pa_cons (pv 8) pa_nil)))))))))) (pss_one (ps_par (i := 2) (j := 3) rfl sc__law_subsets.nd rfl rfl (by decide) rfl rfl (pa_cons (pe_op (op_addU K) (pv 2) (pv 5)) (pa_cons (pv 5) pa_nil)) rfl))))) (pss_one (ps_ret (pv 2)))))), fun b vs G H D ok hA e q => ?_⟩
  obtain ⟨v, rfl, h1⟩ := hA.one
  have n5 : b.n ≤ 5 := ok.n5
  refine k_asgS (R := dt (.list (b.nms.map .str))) (ed_call b (ea_cons (ed_var (by rfl) h1) ea_nil) ok) e fun nv G1 H1 s1 r1 => ?_
  refine k_parS (R := dt (.list [.tuple []])) (S := dt (.list [.tuple []])) True.intro (ea_cons (ed_lst (ead_cons (ed_tup ead_nil (by simp)) ead_nil) (by simp)) (ea_cons (ed_lst (ead_cons (ed_tup ead_nil (by simp)) ead_nil) (by simp)) ea_nil)) s1.i fun fv lv G2 H2 s2 r2 r3 => ?_
  have s12 := s1.trans s2
  refine k_for (D := { D with nx := tRet (tVar 2) D }) (xs := List.range b.n) (Rx := fun t : Nat => dt (.int (t : Int))) (ei_range (ED.eq (ed_lenL (ed_var (by rfl) (Dx.mono s2.g r1))) (by simp [nms_len])) (by omega)) s2.i
    (fun t σ' G' H' => ∃ fv lv a4 a5 a6 a7, σ' = [some v, some nv, some fv, some lv, a4, a5, a6, a7, none] ∧ Step G2 H2 G' H' ∧ Dx G' fv (.list ((fndL b.n t).map (dL b))) ∧ Dx G' lv (.list ((lvlL b.n t).map (dL b))))
    (fun G3 H3 s3 => ⟨fv, lv, none, none, none, none, rfl, s3, Dx.mono s3.g r2, Dx.mono s3.g r3⟩) (fun j σ' G' H' ⟨_, _, _, _, _, _, _, s, _⟩ => s.i) ?_ ?_
  · intro G3 g3 t t' u σ' G' H' G4 H4 ht hI g4 s4 ru
    obtain ⟨fv, lv, a4, a5, a6, a7, rfl, sI, rf, rl⟩ := hI
    have htn : t < b.n := by have := (List.getElem?_eq_some_iff.mp ht).1; simpa using this
    refine k_asgS (R := dt (.list [])) (σ := ([some v, some nv, some fv, some lv, some u, a5, a6, a7, none] : L2.St)) (ed_lst ead_nil (by simp)) s4.i fun wv G5 H5 s5 r5 => ?_
    have s45 := s4.trans s5
    refine k_for (D := { nx := _, rt := _, ct := _, bk := _ }) (xs := lvlL b.n t) (Rx := fun l => dt (dL b l)) (ei_listM (ed_var (by rfl) (Dx.mono s45.g rl))) s5.i
      (fun j σ'' G'' H'' => ∃ wv a6 a7, σ'' = [some v, some nv, some fv, some lv, some u, some wv, a6, a7, none] ∧ Step G5 H5 G'' H'' ∧ Dx G'' wv (.list ((((lvlL b.n t).take j).flatMap (stepL b.n)).map (dL b))))
      (fun G6 H6 s6 => ⟨wv, _, _, rfl, s6, Dx.mono s6.g r5⟩) (fun j σ' G' H' ⟨_, _, _, _, s, _⟩ => s.i) ?_ ?_
    · intro G6 g6 j l lu σ'' G'' H'' G7 H7 hj hJ g7 s7 rlu
      obtain ⟨wv, a6, a7, rfl, sJ, rw'⟩ := hJ
      have hl := lvl_ris (List.mem_of_getElem? hj)
      have gg := (s12.g.trans (sI.g.trans s45.g)).trans (sJ.g.trans s7.g)
      have nmr : Dx G7 nv (.list (b.nms.map .str)) := Dx.mono (s2.g.trans ((sI.g.trans s45.g).trans (sJ.g.trans s7.g))) r1
      have etake : (lvlL b.n t).take (j + 1) = (lvlL b.n t).take j ++ [l] := by rw [List.take_succ, hj]; rfl
      have rlu : Dx G7 lu (.tuple ((l.map b.nm).map .str)) := rlu
      refine k_asgS (R := dt (.int (lowL l : Int))) (σ := ([some v, some nv, some fv, some lv, some u, some wv, some lu, a7, none] : L2.St)) (ed_if (b := !decide (l = [])) (ET.eq (et_test (ed_ne (ed_var (by rfl) rlu) (ed_tup ead_nil (by simp)) (sh_dL ok hl.2) rfl)) (by rw [eqv_nilT]; simp)) (fun hb => ?_) fun hb => ?_) s7.i fun lo G8 H8 s8 r8 => ?_
      · rcases List.eq_nil_or_concat l with z | ⟨l', y, z⟩
        · subst z; simp at hb
        · rw [List.concat_eq_append] at z
          subst z
          have hy : y < b.n := hl.2 y (by simp)
          have e1 : lowL (l' ++ [y]) = y + 1 := by unfold lowL; rw [show (l' ++ [y]).getLast? = some y from by simp]
          rw [e1]
          exact ED.eq (ed_add (ed_index (b := b) ok (ed_var (by rfl) nmr) (ed_ixT (ed_var (by rfl) rlu) (ed_neg (ed_int (i := 1))) (by rw [List.map_append, List.map_append]; exact at_last _ _)) hy) ed_int) (by simp)
      · have : l = [] := by simpa using hb
        subst this
        exact ed_int
      · cases Dx.int_inv r8
        have hsl : (stepL b.n l).length ≤ 5 := by unfold stepL; simp; omega
        have ht5 := lvl_len b.n n5 t
        have h5t : (5 : Nat) ^ t ≤ 5 ^ 5 := Nat.pow_le_pow_right (by decide) (by omega)
        have h55 : (5 : Nat) ^ 5 = 3125 := by decide
        have hacc : (((lvlL b.n t).take j).flatMap (stepL b.n)).length ≤ 16000 := by
          have : ∀ l : List (List Nat), (l.flatMap (stepL b.n)).length ≤ 5 * l.length := fun l => by
            induction l with
            | nil => simp
            | cons a l ih =>
              rw [List.flatMap_cons, List.length_append, List.length_cons]
              have : (stepL b.n a).length ≤ 5 := by unfold stepL; simp; omega
              omega
          have h1 := this ((lvlL b.n t).take j)
          have h2 : ((lvlL b.n t).take j).length ≤ (lvlL b.n t).length := by simp; omega
          omega
        refine k_asg (R := dt (.list ((((lvlL b.n t).take (j + 1)).flatMap (stepL b.n)).map (dL b)))) (σ := ([some v, some nv, some fv, some lv, some u, some wv, some lu, some (.int (lowL l : Int)), none] : L2.St)) (ED.eq (ed_cat (ds := (((lvlL b.n t).take j).flatMap (stepL b.n)).map (dL b)) (es := (stepL b.n l).map (dL b)) (ed_var (by rfl) (Dx.mono (s7.g.trans s8.g) rw')) (ED.eq (ed_lcN1 (xs := (List.range b.n).drop (lowL l)) (Rx := fun j => dt (.str (b.nm j))) (f := fun j => dL b (l ++ [j])) ?_ (by simp; omega) fun j' hj' y G9 g9 ry => ?_) (by unfold stepL; rw [List.map_map]; rfl)) (by rw [List.length_map, List.length_map]; omega)) (by rw [etake, List.flatMap_append, List.map_append]; simp)) s8.i fun wv' G9 H9 s9 r9 => ?_
        · have := ei_list (K := K) (ed_slice (K := K) (ed_var (σ := ([some v, some nv, some fv, some lv, some u, some wv, some lu, some (.int (lowL l : Int)), none] : L2.St)) (i := 1) (by rfl) (Dx.mono s8.g nmr)) (eo_some (ed_var (i := 7) (by rfl) (.int (lowL l : Int)))) eo_none)
          rw [cut_from, nms_eq, List.map_map, ← List.map_drop, List.map_map] at this
          exact this
        · refine ED.eq (ed_catT (ds := (l.map b.nm).map .str) (es := [.str (b.nm j')]) (ed_var (by rfl) (Dx.mono (s8.g.trans g9) rlu)) (ed_tup (ead_cons (ed_var (by rfl) ry) ead_nil) (by simp)) (by have := ris_len hl; simp; omega)) ?_
          unfold dL; simp
        · exact ⟨G9, g7.trans ((s7.g.trans s8.g).trans s9.g), wv', _, _, rfl, ((sJ.trans s7).trans s8).trans s9, r9⟩
    · rintro σ'' G'' H'' ⟨wv, a6, a7, rfl, sJ, rw'⟩ _
      rw [List.take_length] at rw'
      have rw' : Dx G'' wv (.list ((lvlL b.n (t + 1)).map (dL b))) := rw'
      have h1 := fnd_len n5 t (by omega)
      have h2 := lvl_len b.n n5 (t + 1)
      have h3 : (5 : Nat) ^ (t + 1) ≤ 5 ^ 5 := Nat.pow_le_pow_right (by decide) (by omega)
      have h4 : (5 : Nat) ^ 5 = 3125 := by decide
      refine k_par (R := dt (.list ((fndL b.n (t + 1)).map (dL b)))) (S := dt (.list ((lvlL b.n (t + 1)).map (dL b)))) (ea_cons (ED.eq (ed_cat (ds := (fndL b.n t).map (dL b)) (es := (lvlL b.n (t + 1)).map (dL b)) (ed_var (by rfl) (Dx.mono (s45.g.trans sJ.g) rf)) (ed_var (by rfl) rw') (by rw [List.length_map, List.length_map]; omega)) (by rw [fnd_succ, List.map_append])) (ea_cons (ed_var (by rfl) rw') ea_nil)) sJ.i fun fv' lv' G6 H6 s6 r6 r7 => ?_
      exact ⟨G6, g4.trans (s45.g.trans (sJ.g.trans s6.g)), fv', lv', _, _, _, _, rfl, (sI.trans s45).trans (sJ.trans s6), r6, r7⟩
  · rintro σ' G' H' ⟨fv, lv, a4, a5, a6, a7, rfl, sI, rf, rl⟩ _
    rw [List.length_range] at rf
    exact k_ret (R := dt (.list ((subsL b.n).map (dL b)))) (ed_var (by rfl) rf) sI.i fun v G6 H6 s6 r => q v G6 H6 ((s12.trans sI).trans s6) r
end
end RT
end
section
set_option maxRecDepth 100000
set_option maxHeartbeats 4000000
/-! RTW22: builds and what is behind a step, by the law. -/
namespace RT
open PySem PySem.Spec PyProof.Rows L2
open Evl (Ex Ex.refl Ex.trans Ex.new Ex.mut)
def dM (b : Bk) (m : Nat) : PyData := .tuple ((b.bld m).map .str)
def subsM (b : Bk) : List Nat := (subsL b.n).map maskOf
def allM (b : Bk) : List Nat := (subsM b).filter b.holdP
def badM (b : Bk) : List Nat := ((subsM b).filter fun m => !b.holdP m).take 3
theorem subsM_eq (b : Bk) : (subsL b.n).map (dL b) = (subsM b).map (dM b) := by
  unfold subsM
  rw [List.map_map]
  refine List.map_congr_left fun l hl => ?_
  show dL b l = dM b (maskOf l)
  unfold dL dM Bk.bld
  rw [ris_bits (mem_subs.mp hl)]
theorem mem_subsM {b : Bk} {m : Nat} : m ∈ subsM b ↔ m < 2 ^ b.n := by
  unfold subsM
  rw [List.mem_map]
  constructor
  · rintro ⟨l, hl, rfl⟩
    have := mem_subs.mp hl
    exact maskOf_lt (ris_nodup this) this.2
  · intro h
    exact ⟨_, mem_subs.mpr (bits_ris b.n m), mask_eta h⟩
theorem mem_allM {b : Bk} {m : Nat} : m ∈ allM b ↔ m < 2 ^ b.n ∧ b.holdP m = true := by
  unfold allM; rw [List.mem_filter, mem_subsM]
theorem subsM_len {b : Bk} (ok : BOk b) : (subsM b).length ≤ 24000 := by
  unfold subsM
  rw [List.length_map]
  have := fnd_len (n := b.n) ok.n5 b.n ok.n5
  unfold fndL at this
  unfold subsL
  have n5 : b.n ≤ 5 := ok.n5
  omega
theorem bld_add {b : Bk} (ok : BOk b) {m i : Nat} (hi : i < b.n) (hb : m.testBit i = false) : b.nms.filter (fun s => decide (s ∈ b.bld m ++ [b.nm i])) = b.bld (m + 2 ^ i) := by
  rw [nms_eq, List.filter_map]
  unfold Bk.bld
  congr 1
  refine List.filter_congr fun j hj => ?_
  have hj := List.mem_range.mp hj
  rw [tb_add i m j hb]
  show decide (b.nm j ∈ b.bld m ++ [b.nm i]) = _
  rw [Bool.eq_iff_iff, decide_eq_true_iff, List.mem_append, mem_bld ok hj, List.mem_singleton, Bool.or_eq_true, decide_eq_true_iff]
  constructor
  · rintro (h | h)
    · exact .inr h
    · exact .inl (nm_inj ok hj hi h)
  · rintro (h | h)
    · exact .inr (by rw [h])
    · exact .inl h
theorem bld_sub {b : Bk} {m i : Nat} (hb : m.testBit i = true) : ((List.range b.n).filter m.testBit).filter (fun j => !decide (j = i)) = (List.range b.n).filter (m - 2 ^ i).testBit := by
  rw [List.filter_filter]
  refine List.filter_congr fun j _ => ?_
  rw [tb_sub i m j hb, Bool.and_comm]
/-- a step from m -/
inductive SK where
  | take (i : Nat) | give (i : Nat) | reset
def SK.d (b : Bk) : SK → PyData
  | .take i => sTake b i
  | .give i => sGive b i
  | .reset => sReset
def SK.ok (b : Bk) (m : Nat) : SK → Prop
  | .take i => i < b.n ∧ m.testBit i = false
  | .give i => i < b.n ∧ m.testBit i = true
  | .reset => True
def SK.to (m : Nat) : SK → Nat
  | .take i => m + 2 ^ i
  | .give i => m - 2 ^ i
  | .reset => 0
theorem SK.lt {b : Bk} {m : Nat} (hm : m < 2 ^ b.n) : ∀ {k : SK}, k.ok b m → k.to m < 2 ^ b.n
  | .take i, h => add_lt hm h.1 h.2
  | .give i, _ => Nat.lt_of_le_of_lt (Nat.sub_le _ _) hm
  | .reset, _ => Nat.two_pow_pos _
section
variable {P : Program} {w : World} {K : Fg} {mg : Str → Option Value} {base : Heap} {C : Addr}
theorem c__law_all (T : Txt K mg) : Callee P w K mg base CX0 5 "_law_all" ["_law_book_here"] (FSp BOk (fun b => [lawR b]) (fun b => dt (.list ((allM b).map (dM b))))) := by
  have c__law_subsets := c__law_subsets (P := P) (w := w) (base := base) T
  have c__law_holds := c__law_holds (P := P) (w := w) (base := base) T
  refine callee T.d__law_all sc__law_all (fun _ _ _ _ _ _ us hl => match us, hl with | [_], _ => rfl) (fun _ => rfl) fun f cdv Ar outer s H0 E hr => ?_
  obtain ⟨hu0, hu, hu64, hu65⟩ := room0 hr
  refine ⟨_, (pss_one (ps_ret (pe_lc (own := [("_law_build", 1)]) rfl sc__law_all.nd (pi_listK K (pe_cl c__law_subsets hr pass0 (pa_cons (pv 0) pa_nil))) (blkOk_by (own := [("_law_build", 1)]) (N := N__law_all) (sc := defScope s__law_all) (by decide +kernel)) (fun _ _ _ _ _ => (pg_name (i := 1) sc__law_all.nd rfl (Or.inl rfl))) (fun _ _ _ _ _ => (pts_one (pt_truthK K (pe_cl c__law_holds hr pass0 (pa_cons (pv 0) (pa_cons (pv 1) pa_nil)))))) (fun _ _ _ _ _ => (pv 1))))), fun b vs G H D ok hA e q => ?_⟩
  have ok : BOk b := ok
  obtain ⟨v, rfl, h1⟩ := hA.one
  exact k_ret (ed_lcN (xs := subsM b) (Rx := fun m => dt (dM b m)) (p := b.holdP) (f := dM b) (ei_listM (ED.eq (ed_call b (ea_cons (ed_var (by rfl) h1) ea_nil) ok) (congrArg PyData.list (subsM_eq b)))) (by have := subsM_len ok; omega) fun m hm y G1 g1 ry => ⟨et_tb (ed_call (b, m) (ea_cons (ed_var (by rfl) ((lawR b).mono g1 h1)) (ea_cons (ed_var (by rfl) ry) ea_nil)) ⟨ok, mem_subsM.mp hm⟩), fun _ => ed_var (by rfl) ry⟩) e q
theorem c__law_bad_builds (T : Txt K mg) : Callee P w K mg base CX0 5 "_law_bad_builds" ["_law_book_here"] (FSp BOk (fun b => [lawR b]) (fun b => dt (.list ((badM b).map (dM b))))) := by
  have c__law_subsets := c__law_subsets (P := P) (w := w) (base := base) T
  have c__law_holds := c__law_holds (P := P) (w := w) (base := base) T
  refine callee T.d__law_bad_builds sc__law_bad_builds (fun _ _ _ _ _ _ us hl => match us, hl with | [_], _ => rfl) (fun _ => rfl) fun f cdv Ar outer s H0 E hr => ?_
  obtain ⟨hu0, hu, hu64, hu65⟩ := room0 hr
  refine ⟨_, (pss_one (ps_ret (pe_slice (sl_listK K) (pe_lc (own := [("_law_build", 1)]) rfl sc__law_bad_builds.nd (pi_listK K (pe_cl c__law_subsets hr pass0 (pa_cons (pv 0) pa_nil))) (blkOk_by (own := [("_law_build", 1)]) (N := N__law_bad_builds) (sc := defScope s__law_bad_builds) (by decide +kernel)) (fun _ _ _ _ _ => (pg_name (i := 1) sc__law_bad_builds.nd rfl (Or.inl rfl))) (fun _ _ _ _ _ => (pts_one (pt_not (pt_truthK K (pe_cl c__law_holds hr pass0 (pa_cons (pv 0) (pa_cons (pv 1) pa_nil))))))) (fun _ _ _ _ _ => (pv 1))) po_none (po_some pe_int)))), fun b vs G H D ok hA e q => ?_⟩
  have ok : BOk b := ok
  obtain ⟨v, rfl, h1⟩ := hA.one
  refine k_ret (ED.eq (ed_slice (ed_lcN (xs := subsM b) (Rx := fun m => dt (dM b m)) (p := fun m => !b.holdP m) (f := dM b) (ei_listM (ED.eq (ed_call b (ea_cons (ed_var (by rfl) h1) ea_nil) ok) (congrArg PyData.list (subsM_eq b)))) (by have := subsM_len ok; omega) fun m hm y G1 g1 ry => ⟨et_not (et_tb (ed_call (b, m) (ea_cons (ed_var (by rfl) ((lawR b).mono g1 h1)) (ea_cons (ed_var (by rfl) ry) ea_nil)) ⟨ok, mem_subsM.mp hm⟩)), fun _ => ed_var (by rfl) ry⟩) eo_none (eo_some (ed_int (i := 3)))) ?_) e q
  have := cut_to (((subsM b).filter fun m => !b.holdP m).map (dM b)) 3
  rw [show (some (3 : Int)) = some ((3 : Nat) : Int) from rfl, this, ← List.map_take]
  rfl
theorem c__law_behind (T : Txt K mg) : Callee P w K mg base CX0 3 "_law_behind" ["_law_book_here", "_law_build", "_law_step"] (FSp (fun a : Bk × Nat × SK => BOk a.1 ∧ a.2.2.ok a.1 a.2.1) (fun a => [lawR a.1, dt (dM a.1 a.2.1), dt (a.2.2.d a.1)]) (fun a => dt (dM a.1 (a.2.2.to a.2.1)))) := by
  have c__law_order := c__law_order (P := P) (w := w) (base := base) T
  refine callee T.d__law_behind sc__law_behind (fun _ _ _ _ _ _ us hl => match us, hl with | [_, _, _], _ => rfl) (fun _ => rfl) fun f cdv Ar outer s H0 E hr => ?_
  obtain ⟨hu0, hu, hu64, hu65⟩ := room0 hr
  refine ⟨_, (pss_cons (ps_if (pt_cmpR (op_eqK K hu64) (pe_ix (ix_seqK K) (pv 2) pe_int (fun _ _ => rfl)) pe_str (nomark _)) (pss_one (ps_ret (pe_tup pa_nil))) pss_nil) (pss_cons (ps_if (pt_cmpR (op_eqK K hu64) (pe_ix (ix_seqK K) (pv 2) pe_int (fun _ _ => rfl)) pe_str (nomark _)) (pss_one (ps_ret (pe_cl c__law_order hr pass0 (pa_cons (pv 0) (pa_cons (pe_op (op_addU K) (pv 1) (pe_tup (pa_cons (pe_ix (ix_seqK K) (pv 2) pe_int (fun _ _ => rfl)) pa_nil))) pa_nil))))) pss_nil) (pss_one (ps_ret (pe_callTy (call_tupleU K) (by rfl) T.f_tuple (by decide +kernel) (pa_cons (pe_lc (own := [("_law_name", 3)]) rfl sc__law_behind.nd (pi_tupK K (pv 1)) (blkOk_by (own := [("_law_name", 3)]) (N := N__law_behind) (sc := defScope s__law_behind) (by decide +kernel)) (fun _ _ _ _ _ => (pg_name (i := 3) sc__law_behind.nd rfl (Or.inl rfl))) (fun _ _ _ _ _ => (pts_one (pt_cmpR (op_neK K hu64) (pv 3) (pe_ix (ix_seqK K) (pv 2) pe_int (fun _ _ => rfl)) (nomark _)))) (fun _ _ _ _ _ => (pv 3))) pa_nil)))))), fun a vs G H D hP hA e q => ?_⟩
  obtain ⟨b, m, k⟩ := a
  obtain ⟨ok, hk⟩ := hP
  have ok : BOk b := ok
  obtain ⟨v, x, y, rfl, h1, h2, h3⟩ := hA.three
  dsimp only at h1 h2 h3 hk q
  have h2 : Dx G x (.tuple ((b.bld m).map .str)) := h2
  have word : ∀ {σ : L2.St} {G2 : Hp} {s z : Str} {rest : List PyData}, σ[2]? = some (some y) → Dx G2 y (.tuple (.str s :: rest)) → wordS s = true → wordS z = true → ED (tOp (rEqD K) (tOp (rIx K) (tVar 2) (tC (.int 0))) (tC (.str z))) σ G2 (dt (.bool (decide (s = z)))) := fun hσ h hs hz => ed_eqS (ed_ixT (ed_var hσ h) ed_int at0) ed_str hs hz
  cases k with
  | reset =>
    have h3 : Dx G y (.tuple [.str "reset"]) := h3
    refine k_retS (b := true) (R := dt (.tuple [])) (ET.eq (et_test (word (z := "reset") (by rfl) h3 (by decide +kernel) (by decide +kernel))) (by decide)) e (fun _ => ed_tup ead_nil (by simp)) (fun _ v G1 H1 s1 r => q v G1 H1 s1 ?_) fun z => by cases z
    have : dM b 0 = .tuple [] := by
      unfold dM Bk.bld
      have : (List.range b.n).filter (Nat.testBit 0) = [] := by
        rw [List.filter_eq_nil_iff]; intro a _; simp
      rw [this]; rfl
    show Dx G1 v (dM b 0)
    rw [this]; exact r
  | take i =>
    have h3 : Dx G y (.tuple [.str "take", .str (b.nm i)]) := h3
    refine k_retS (b := false) (R := dt .none) (ET.eq (et_test (word (z := "reset") (by rfl) h3 (by decide +kernel) (by decide +kernel))) (by decide)) e (fun z => by cases z) (fun z => by cases z) fun _ G1 H1 s1 => ?_
    refine k_retS (b := true) (R := dt (dM b (m + 2 ^ i))) (ET.eq (et_test (word (z := "take") (by rfl) (Dx.mono s1.g h3) (by decide +kernel) (by decide +kernel))) (by decide)) s1.i (fun _ => ?_) (fun _ v G2 H2 s2 r => q v G2 H2 (s1.trans s2) r) fun z => by cases z
    refine ED.eq (ed_call (b, b.bld m ++ [b.nm i]) (ea_cons (ed_var (by rfl) ((lawR b).mono s1.g h1)) (ea_cons (ED.eq (ed_catT (ds := (b.bld m).map .str) (es := [.str (b.nm i)]) (ed_var (by rfl) (Dx.mono s1.g h2)) (ed_tup (ead_cons (ed_ixT (ed_var (by rfl) (Dx.mono s1.g h3)) ed_int at1) ead_nil) (by simp)) (by have := bld_len5 (b := b) ok m; simp; omega)) (by simp)) ea_nil)) ok) ?_
    show PyData.tuple ((b.nms.filter fun s => decide (s ∈ b.bld m ++ [b.nm i])).map .str) = _
    rw [bld_add ok hk.1 hk.2]; rfl
  | give i =>
    have h3 : Dx G y (.tuple [.str "give", .str (b.nm i)]) := h3
    refine k_retS (b := false) (R := dt .none) (ET.eq (et_test (word (z := "reset") (by rfl) h3 (by decide +kernel) (by decide +kernel))) (by decide)) e (fun z => by cases z) (fun z => by cases z) fun _ G1 H1 s1 => ?_
    refine k_retS (b := false) (R := dt .none) (ET.eq (et_test (word (z := "take") (by rfl) (Dx.mono s1.g h3) (by decide +kernel) (by decide +kernel))) (by decide)) s1.i (fun z => by cases z) (fun z => by cases z) fun _ G2 H2 s2 => ?_
    have s12 := s1.trans s2
    refine k_ret (R := dt (dM b (m - 2 ^ i))) (ED.eq (ed_tupL (ed_lcN (xs := (List.range b.n).filter m.testBit) (Rx := fun j => dt (.str (b.nm j))) (p := fun j => !decide (j = i)) (f := fun j => .str (b.nm j)) (ei_bld (ed_var (by rfl) (Dx.mono s12.g h2))) (Nat.le_trans (flen5 ok _) (by decide)) fun j hj u G3 g3 ru => ⟨ET.eq (et_test (ed_neS (x := b.nm j) (y := b.nm i) (ed_var (by rfl) ru) (ed_ixT (ed_var (by rfl) (Dx.mono (s12.g.trans g3) h3)) ed_int at1) (nm_word ok (List.mem_range.mp (List.mem_filter.mp hj).1)) (nm_word ok hk.1))) (congrArg (!·) (decide_eq_decide.mpr ⟨fun z => nm_inj ok (List.mem_range.mp (List.mem_filter.mp hj).1) hk.1 z, fun z => by rw [z]⟩)), fun _ => ed_var (by rfl) ru⟩)) ?_) s2.i fun v G3 H3 s3 r => q v G3 H3 (s12.trans s3) r
    rw [bld_sub hk.2]
    unfold dM Bk.bld
    rw [List.map_map]; rfl
end
end RT
end
section
set_option maxRecDepth 100000
set_option maxHeartbeats 4000000
/-! RTW23: steps and edges by the law. -/
namespace RT
open PySem PySem.Spec PyProof.Rows L2
open Evl (Ex Ex.refl Ex.trans Ex.new Ex.mut)
theorem subsL_len : ∀ {n : Nat}, n ≤ 5 → (subsL n).length ≤ 32
  | 0, _ => by decide
  | 1, _ => by decide
  | 2, _ => by decide
  | 3, _ => by decide
  | 4, _ => by decide +kernel
  | 5, _ => by decide +kernel
  | n + 6, h => by omega
theorem allM_len {b : Bk} (ok : BOk b) : (allM b).length ≤ 32 := by
  unfold allM subsM
  refine Nat.le_trans (List.length_filter_le _ _) ?_
  rw [List.length_map]
  exact subsL_len ok.n5
def rstB (b : Bk) (m : Nat) : Bool := !isNn (dReset b) && !decide ((b.bld m).map PyData.str = [])
def stepsK (b : Bk) (m : Nat) : List SK := (takesP b m).map .take ++ (givesP b m).map .give ++ if rstB b m = true then [.reset] else []
theorem stepsK_ok {b : Bk} {m : Nat} : ∀ k ∈ stepsK b m, k.ok b m := fun k hk => by
  unfold stepsK at hk
  rcases List.mem_append.mp hk with h | h
  · rcases List.mem_append.mp h with h | h
    · obtain ⟨i, hi, rfl⟩ := List.mem_map.mp h
      unfold takesP at hi
      have := List.mem_filter.mp hi
      have h2 := this.2
      simp at h2
      exact ⟨List.mem_range.mp this.1, h2.1⟩
    · obtain ⟨i, hi, rfl⟩ := List.mem_map.mp h
      unfold givesP at hi
      have := List.mem_filter.mp hi
      have h2 := this.2
      simp at h2
      exact ⟨List.mem_range.mp this.1, h2.1⟩
  · split at h
    · rw [List.mem_singleton.mp h]; exact True.intro
    · cases h
theorem stepsK_len {b : Bk} (ok : BOk b) (m : Nat) : (stepsK b m).length ≤ 11 := by
  have l1 : (takesP b m).length ≤ 5 := flen5 ok _
  have l2 : (givesP b m).length ≤ 5 := flen5 ok _
  unfold stepsK
  rw [List.length_append, List.length_append, List.length_map, List.length_map]
  split <;> simp <;> omega
def costD (b : Bk) : SK → PyData
  | .take _ => .int 0
  | .give i => .int ((lookG b.prices i).getD 1 : Nat)
  | .reset => dReset b
def edgeD (b : Bk) (m : Nat) (k : SK) : PyData := .tuple [dM b m, k.d b, dM b (k.to m), costD b k]
def edgesP (b : Bk) : List (Nat × SK) := (allM b).flatMap fun m => (stepsK b m).map fun k => (m, k)
theorem edgesP_len {b : Bk} (ok : BOk b) (j : Nat) : (((allM b).take j).flatMap fun m => (stepsK b m).map fun k => (m, k)).length ≤ 352 := by
  have : ∀ l : List Nat, (l.flatMap fun m => (stepsK b m).map fun k => (m, k)).length ≤ 11 * l.length := fun l => by
    induction l with
    | nil => simp
    | cons a l ih =>
      rw [List.flatMap_cons, List.length_append, List.length_cons, List.length_map]
      have := stepsK_len ok a
      omega
  have h1 := this ((allM b).take j)
  have h2 : ((allM b).take j).length ≤ (allM b).length := by simp; omega
  have h3 := allM_len ok
  omega
section
variable {P : Program} {w : World} {K : Fg} {mg : Str → Option Value} {base : Heap} {C : Addr}
theorem c__law_steps (T : Txt K mg) : Callee P w K mg base CX0 5 "_law_steps" ["_law_book_here", "_law_build"] (FSp (fun a : Bk × Nat => BOk a.1 ∧ a.2 < 2 ^ a.1.n) (fun a => [lawR a.1, dt (dM a.1 a.2)]) (fun a => dt (.list ((stepsK a.1 a.2).map fun k => k.d a.1)))) := by
  have c__law_names := c__law_names (P := P) (w := w) (base := base) T
  have c__law_holds := c__law_holds (P := P) (w := w) (base := base) T
  have c__law_behind := c__law_behind (P := P) (w := w) (base := base) T
  refine callee T.d__law_steps sc__law_steps (fun _ _ _ _ _ _ us hl => match us, hl with | [_, _], _ => rfl) (fun _ => rfl) fun f cdv Ar outer s H0 E hr => ?_
  obtain ⟨hu0, hu, hu64, hu65⟩ := room0 hr
  refine ⟨_, (pss_cons (ps_set (i := 2) sc__law_steps.nd rfl (Or.inl rfl) (pe_cl c__law_names hr pass0 (pa_cons (pv 0) pa_nil))) (pss_cons (ps_setLc (i := 3) (own := [("_law_name", 4)]) rfl sc__law_steps.nd rfl rfl (sw_true rfl rfl rfl (by decide +kernel)) (pi_listK K (pv 2)) (blkOk_by (own := [("_law_name", 4)]) (N := N__law_steps) (sc := defScope s__law_steps) (by decide +kernel)) (fun _ _ _ _ _ => (pg_name (i := 4) sc__law_steps.nd rfl (Or.inl rfl))) (fun _ _ _ _ _ => (pts_one (pt_cmpR (op_ninU K hu65) (pv 4) (pv 1) (by rfl)))) (fun _ _ _ _ _ => (pe_tup (pa_cons pe_str (pa_cons (pv 4) pa_nil))))) (pss_cons (ps_setLc (i := 3) (own := [("_law_step", 5)]) rfl sc__law_steps.nd rfl rfl (sw_true rfl rfl rfl (by decide +kernel)) (pi_listK K (pe_op (op_addU K) (pv 3) (pe_lc (own := [("_law_name", 4)]) rfl sc__law_steps.nd (pi_tupK K (pv 1)) (blkOk_by (own := [("_law_name", 4)]) (N := N__law_steps) (sc := defScope s__law_steps) (by decide +kernel)) (fun _ _ _ _ _ => (pg_name (i := 4) sc__law_steps.nd rfl (Or.inl rfl))) (fun _ _ _ _ _ => pts_nil) (fun _ _ _ _ _ => (pe_tup (pa_cons pe_str (pa_cons (pv 4) pa_nil))))))) (blkOk_by (own := [("_law_step", 5)]) (N := N__law_steps) (sc := defScope s__law_steps) (by decide +kernel)) (fun _ _ _ _ _ => (pg_name (i := 5) sc__law_steps.nd rfl (Or.inl rfl))) (fun _ _ _ _ _ => (pts_one (pt_truthK K (pe_cl c__law_holds hr pass0 (pa_cons (pv 0) (pa_cons (pe_cl c__law_behind hr pass0 (pa_cons (pv 0) (pa_cons (pv 1) (pa_cons (pv 5) pa_nil)))) pa_nil)))))) (fun _ _ _ _ _ => (pv 5))) (pss_one (ps_ret (pe_op (op_addU K) (pv 3) (pe_op op_mulU (pe_lst (pa_cons (pe_tup (pa_cons pe_str pa_nil)) pa_nil)) (pe_callTy call_intU (by rfl) T.f_int (by decide +kernel) (pa_cons (pe_and (pe_cmpR op_notN1 (pe_dget hu (pv 0) pe_str (fun _ _ => rfl)) pe_non (nomark _)) (pe_one (pe_cmpR (op_neK K hu64) (pv 1) (pe_tup pa_nil) (nomark _)))) pa_nil))))))))), fun a vs G H D hP hA e q => ?_⟩
  obtain ⟨b, m⟩ := a
  obtain ⟨ok, hm⟩ := hP
  have ok : BOk b := ok
  have n5 : b.n ≤ 5 := ok.n5
  obtain ⟨v, x, rfl, h1, h2⟩ := hA.two
  dsimp only at h1 h2 hm q
  have h2 : Dx G x (.tuple ((b.bld m).map .str)) := h2
  have lw : ∀ {σ : L2.St} {G2}, σ[0]? = some (some v) → Ex G G2 → ED (tVar 0) σ G2 (lawR b) := fun hσ g => ed_var hσ ((lawR b).mono g h1)
  refine k_asgS (R := dt (.list (b.nms.map .str))) (ed_call b (ea_cons (lw (by rfl) (Ex.refl _)) ea_nil) ok) e fun nv G1 H1 s1 r1 => ?_
  refine k_asgS (R := dt (.list (((List.range b.n).filter fun i => !m.testBit i).map (sTake b)))) (ed_lcN (xs := List.range b.n) (Rx := fun i => dt (.str (b.nm i))) (p := fun i => !m.testBit i) (f := sTake b) ?_ (by simp; omega) fun i hi y G2 g2 ry => ⟨ET.eq (et_test (ed_ninT (ed_var (by rfl) ry) (ed_var (by rfl) (Dx.mono (s1.g.trans g2) h2)))) (congrArg (!·) (bld_mem_dec ok (List.mem_range.mp hi))), fun _ => ed_tup (ead_cons ed_str (ead_cons (ed_var (by rfl) ry) ead_nil)) (by simp)⟩) s1.i fun tv G2 H2 s2 r2 => ?_
  · have := ei_list (K := K) (ed_var (σ := (L2.start N__law_steps [v, x]).set 2 (some nv)) (i := 2) (R := dt (.list (b.nms.map .str))) (by rfl) r1)
    rw [nms_eq, List.map_map, List.map_map] at this
    exact this
  have s12 := s1.trans s2
  have cand : ∀ k ∈ (((List.range b.n).filter fun i => !m.testBit i).map SK.take ++ ((List.range b.n).filter m.testBit).map SK.give), SK.ok b m k := fun k hk => by
    rcases List.mem_append.mp hk with h | h
    · obtain ⟨i, hi, rfl⟩ := List.mem_map.mp h
      have := List.mem_filter.mp hi
      exact ⟨List.mem_range.mp this.1, by simpa using this.2⟩
    · obtain ⟨i, hi, rfl⟩ := List.mem_map.mp h
      have := List.mem_filter.mp hi
      exact ⟨List.mem_range.mp this.1, this.2⟩
  refine k_asgS (R := dt (.list (((takesP b m).map SK.take ++ (givesP b m).map SK.give).map fun k => k.d b))) (ED.eq (ed_lcN (xs := ((List.range b.n).filter fun i => !m.testBit i).map SK.take ++ ((List.range b.n).filter m.testBit).map SK.give) (Rx := fun k => dt (k.d b)) (p := fun k => b.holdP (k.to m)) (f := fun k => k.d b) (ei_listM (ED.eq (ed_cat (ds := ((List.range b.n).filter fun i => !m.testBit i).map (sTake b)) (es := ((List.range b.n).filter m.testBit).map (sGive b)) (ed_var (by rfl) r2) (ed_lcN1 (xs := (List.range b.n).filter m.testBit) (Rx := fun i => dt (.str (b.nm i))) (f := sGive b) (ei_bld (ed_var (by rfl) (Dx.mono s12.g h2))) (Nat.le_trans (flen5 ok _) (by decide)) fun i hi y G3 g3 ry => ed_tup (ead_cons ed_str (ead_cons (ed_var (by rfl) ry) ead_nil)) (by simp)) (by rw [List.length_map, List.length_map]; have := flen5 ok fun i => !m.testBit i; have := flen5 ok m.testBit; omega)) (by rw [List.map_append, List.map_map, List.map_map]; rfl))) (by rw [List.length_append, List.length_map, List.length_map]; have := flen5 ok fun i => !m.testBit i; have := flen5 ok m.testBit; omega) fun k hk y G3 g3 ry => ⟨et_tb (ed_call (b, k.to m) (ea_cons (lw (by rfl) (s12.g.trans g3)) (ea_cons (ed_call (b, m, k) (ea_cons (lw (by rfl) (s12.g.trans g3)) (ea_cons (ed_var (by rfl) (Dx.mono (s12.g.trans g3) h2)) (ea_cons (ed_var (by rfl) ry) ea_nil))) ⟨ok, cand k hk⟩) ea_nil)) ⟨ok, SK.lt hm (cand k hk)⟩), fun _ => ed_var (by rfl) ry⟩) ?_) s2.i fun fv G3 H3 s3 r3 => ?_
  · congr 2
    rw [List.filter_append, List.filter_map, List.filter_map, List.filter_filter, List.filter_filter]
    unfold takesP givesP
    congr 2
    · exact List.filter_congr fun i _ => Bool.and_comm _ _
    · exact List.filter_congr fun i _ => Bool.and_comm _ _
  have s13 := s12.trans s3
  have l1 : (takesP b m).length ≤ 5 := flen5 ok _
  have l2 : (givesP b m).length ≤ 5 := flen5 ok _
  refine k_ret (R := dt (.list ((stepsK b m).map fun k => k.d b))) (ED.eq (ed_cat (ds := ((takesP b m).map SK.take ++ (givesP b m).map SK.give).map fun k => k.d b) (es := if rstB b m = true then [sReset] else []) (ed_var (by rfl) r3) (ED.eq (ed_rep (ed_lst (ead_cons (ed_tup (ead_cons ed_str ead_nil) (by simp)) ead_nil) (by simp)) (ed_intB (ed_andV (a := !isNn (dReset b)) (b := !decide ((b.bld m).map PyData.str = [])) (ed_notNn (ed_lget (lw (by rfl) s13.g))) fun _ => ED.eq (ed_ne (ed_var (by rfl) (Dx.mono s13.g h2)) (ed_tup ead_nil (by simp)) ?_ rfl) (congrArg (fun z => PyData.bool (!z)) (eqv_nilT _)))) (by split <;> decide) (by split <;> simp)) ?_) ?_) ?_) s3.i fun v G4 H4 s4 r => q v G4 H4 (s13.trans s4) r
  · refine (Sh.tuple (k := 0) fun d hd => ?_).shaped
    obtain ⟨s, hs, rfl⟩ := List.mem_map.mp hd
    obtain ⟨j, hj, rfl⟩ := List.mem_map.mp hs
    exact Sh.word (nm_word ok (List.mem_range.mp (List.mem_filter.mp hj).1))
  · unfold rstB
    split <;> rfl
  · rw [List.length_map, List.length_append, List.length_map, List.length_map]
    split <;> simp <;> omega
  · unfold stepsK
    split <;> simp only [List.map_append, List.map_cons, List.map_nil] <;> rfl
theorem c__law_cost (T : Txt K mg) : Callee P w K mg base CX0 2 "_law_cost" ["_law_book_here", "_law_step"] (FSp (fun a : Bk × Nat × SK => BOk a.1 ∧ a.2.2.ok a.1 a.2.1) (fun a => [lawR a.1, dt (a.2.2.d a.1)]) (fun a => dt (costD a.1 a.2.2))) := by
  have c__law_price := c__law_price (P := P) (w := w) (base := base) T
  refine callee T.d__law_cost sc__law_cost (fun _ _ _ _ _ _ us hl => match us, hl with | [_, _], _ => rfl) (fun _ => rfl) fun f cdv Ar outer s H0 E hr => ?_
  obtain ⟨hu0, hu, hu64, hu65⟩ := room0 hr
  refine ⟨_, (pss_cons (ps_if (pt_cmpR (op_eqK K hu64) (pe_ix (ix_seqK K) (pv 1) pe_int (fun _ _ => rfl)) pe_str (nomark _)) (pss_one (ps_ret pe_int)) pss_nil) (pss_one (ps_ret (pe_ifExp (pt_cmpR (op_eqK K hu64) (pe_ix (ix_seqK K) (pv 1) pe_int (fun _ _ => rfl)) pe_str (nomark _)) (pe_dget hu (pv 0) pe_str (fun _ _ => rfl)) (pe_cl c__law_price hr pass0 (pa_cons (pv 0) (pa_cons (pe_ix (ix_seqK K) (pv 1) pe_int (fun _ _ => rfl)) pa_nil))))))), fun a vs G H D hP hA e q => ?_⟩
  obtain ⟨b, m, k⟩ := a
  obtain ⟨ok, hk⟩ := hP
  have ok : BOk b := ok
  obtain ⟨v, y, rfl, h1, h3⟩ := hA.two
  dsimp only at h1 h3 hk q
  have word : ∀ {σ : L2.St} {G2 : Hp} {s z : Str} {rest : List PyData}, σ[1]? = some (some y) → Dx G2 y (.tuple (.str s :: rest)) → wordS s = true → wordS z = true → ED (tOp (rEqD K) (tOp (rIx K) (tVar 1) (tC (.int 0))) (tC (.str z))) σ G2 (dt (.bool (decide (s = z)))) := fun hσ h hs hz => ed_eqS (ed_ixT (ed_var hσ h) ed_int at0) ed_str hs hz
  cases k with
  | take i =>
    have h3 : Dx G y (.tuple [.str "take", .str (b.nm i)]) := h3
    exact k_retS (b := true) (R := dt (.int 0)) (ET.eq (et_test (word (z := "take") (by rfl) h3 (by decide +kernel) (by decide +kernel))) (by decide)) e (fun _ => ed_int) (fun _ v G1 H1 s1 r => q v G1 H1 s1 r) fun z => by cases z
  | give i =>
    have h3 : Dx G y (.tuple [.str "give", .str (b.nm i)]) := h3
    refine k_retS (b := false) (R := dt .none) (ET.eq (et_test (word (z := "take") (by rfl) h3 (by decide +kernel) (by decide +kernel))) (by decide)) e (fun z => by cases z) (fun z => by cases z) fun _ G1 H1 s1 => ?_
    exact k_ret (R := dt (costD b (.give i))) (ed_if (b := false) (ET.eq (et_test (word (z := "reset") (by rfl) (Dx.mono s1.g h3) (by decide +kernel) (by decide +kernel))) (by decide)) (fun z => by cases z) fun _ => ed_call (b, i) (ea_cons (ed_var (by rfl) ((lawR b).mono s1.g h1)) (ea_cons (ed_ixT (ed_var (by rfl) (Dx.mono s1.g h3)) ed_int at1) ea_nil)) ⟨ok, hk.1⟩) s1.i fun v G2 H2 s2 r => q v G2 H2 (s1.trans s2) r
  | reset =>
    have h3 : Dx G y (.tuple [.str "reset"]) := h3
    refine k_retS (b := false) (R := dt .none) (ET.eq (et_test (word (z := "take") (by rfl) h3 (by decide +kernel) (by decide +kernel))) (by decide)) e (fun z => by cases z) (fun z => by cases z) fun _ G1 H1 s1 => ?_
    exact k_ret (R := dt (costD b .reset)) (ed_if (b := true) (ET.eq (et_test (word (z := "reset") (by rfl) (Dx.mono s1.g h3) (by decide +kernel) (by decide +kernel))) (by decide)) (fun _ => ed_lget (ed_var (by rfl) ((lawR b).mono s1.g h1))) fun z => by cases z) s1.i fun v G2 H2 s2 r => q v G2 H2 (s1.trans s2) r
end
end RT
end
section
set_option maxRecDepth 100000
set_option maxHeartbeats 4000000
/-! RTW24: edges by the law. -/
namespace RT
open PySem PySem.Spec PyProof.Rows L2
open Evl (Ex Ex.refl Ex.trans Ex.new Ex.mut)
section
variable {P : Program} {w : World} {K : Fg} {mg : Str → Option Value} {base : Heap} {C : Addr}
theorem c__law_edges (T : Txt K mg) : Callee P w K mg base CX0 6 "_law_edges" ["_law_book_here"] (FSp BOk (fun b => [lawR b]) (fun b => dt (.list ((edgesP b).map fun q => edgeD b q.1 q.2)))) := by
  have c__law_all := c__law_all (P := P) (w := w) (base := base) T
  have c__law_steps := c__law_steps (P := P) (w := w) (base := base) T
  have c__law_behind := c__law_behind (P := P) (w := w) (base := base) T
  have c__law_cost := c__law_cost (P := P) (w := w) (base := base) T
  refine callee T.d__law_edges sc__law_edges (fun _ _ _ _ _ _ us hl => match us, hl with | [_], _ => rfl) (fun _ => rfl) fun f cdv Ar outer s H0 E hr => ?_
  obtain ⟨hu0, hu, hu64, hu65⟩ := room0 hr
  refine ⟨_, (pss_cons (ps_set (i := 1) sc__law_edges.nd rfl (Or.inl rfl) (pe_lst pa_nil)) (pss_cons (ps_for PassesOwn.never rfl (pi_listK K (pe_cl c__law_all hr pass0 (pa_cons (pv 0) pa_nil))) (pg_name (i := 2) sc__law_edges.nd rfl (Or.inl rfl)) (pss_one (ps_for PassesOwn.never rfl (pi_listK K (pe_cl c__law_steps hr pass0 (pa_cons (pv 0) (pa_cons (pv 2) pa_nil)))) (pg_name (i := 3) sc__law_edges.nd rfl (Or.inl rfl)) (pss_one (ps_expr (pe_bm PySem.F.plainAttrs_list PySem.F.slot_list_append PySem.F.type_list_append mt_append (pv 1) (pa_cons (pe_tup (pa_cons (pv 2) (pa_cons (pv 3) (pa_cons (pe_cl c__law_behind hr pass0 (pa_cons (pv 0) (pa_cons (pv 2) (pa_cons (pv 3) pa_nil)))) (pa_cons (pe_cl c__law_cost hr pass0 (pa_cons (pv 0) (pa_cons (pv 3) pa_nil))) pa_nil))))) pa_nil))))))) (pss_one (ps_ret (pv 1))))), fun b vs G H D ok hA e q => ?_⟩
  have ok : BOk b := ok
  obtain ⟨v, rfl, h1⟩ := hA.one
  have lw : ∀ {σ : L2.St} {G2}, σ[0]? = some (some v) → Ex G G2 → ED (tVar 0) σ G2 (lawR b) := fun hσ g => ed_var hσ ((lawR b).mono g h1)
  refine k_lstS (Step.refl e) ead_nil (by simp) fun p vs G1 H1 g1 s1 n1 hp0 _ e1 x1 => ?_
  refine k_for (D := { D with nx := tRet (tVar 1) D }) (xs := allM b) (Rx := fun m => dt (dM b m)) (ei_listM (ed_call b (ea_cons (lw (by rfl) g1) ea_nil) ok)) s1.i
    (fun j σ' G' H' => ∃ a2 a3, σ' = [some v, some (.ref p), a2, a3] ∧ Step G H G' H' ∧ G' p = none ∧ ∃ vs', H' p = some (.lst vs') ∧ DxA G' vs' ((((allM b).take j).flatMap fun m => (stepsK b m).map fun k => (m, k)).map fun q => edgeD b q.1 q.2))
    (fun G2 H2 s2 => ⟨none, none, rfl, s1.trans s2, s2.s p (sm_none e1) n1, vs, s2.h _ _ e1, x1.mono s2.g⟩) (fun j σ' G' H' ⟨_, _, _, s, _⟩ => s.i) ?_ ?_
  · intro G2 g2 j m u σ' G' H' G3 H3 hj hI g3 s3 ru
    obtain ⟨a2, a3, rfl, sI, np, vs', ep, xp⟩ := hI
    have hm := mem_allM.mp (List.mem_of_getElem? hj)
    have np3 := s3.s p (sm_none ep) np
    have ep3 := s3.h _ _ ep
    refine k_for (σ := ([some v, some (.ref p), some u, a3] : L2.St)) (D := { nx := _, rt := _, ct := _, bk := _ }) (xs := stepsK b m) (Rx := fun k => dt (k.d b)) (ei_listM (ed_call (b, m) (ea_cons (lw (by rfl) (sI.g.trans s3.g)) (ea_cons (ed_var (by rfl) ru) ea_nil)) ⟨ok, hm.1⟩)) s3.i
      (fun i σ'' G'' H'' => ∃ a3, σ'' = [some v, some (.ref p), some u, a3] ∧ Step G H G'' H'' ∧ Ex G3 G'' ∧ G'' p = none ∧ ∃ vs', H'' p = some (.lst vs') ∧ DxA G'' vs' (((((allM b).take j).flatMap fun m => (stepsK b m).map fun k => (m, k)) ++ ((stepsK b m).take i).map fun k => (m, k)).map fun q => edgeD b q.1 q.2))
      (fun G4 H4 s4 => ⟨_, rfl, (sI.trans s3).trans s4, s4.g, s4.s p (sm_none ep3) np3, vs', s4.h _ _ ep3, by simpa using xp.mono (s3.g.trans s4.g)⟩) (fun j σ' G' H' ⟨_, _, s, _⟩ => s.i) ?_ ?_
    · intro G4 g4 i k y σ'' G'' H'' G5 H5 hi hJ g5 s5 ry
      obtain ⟨a3, rfl, sJ, gJ, nj, vs2, ej, xj⟩ := hJ
      have hk := stepsK_ok k (List.mem_of_getElem? hi)
      have g35 := gJ.trans s5.g
      have gg := sI.g.trans (s3.g.trans g35)
      refine k_appM (σ := ([some v, some (.ref p), some u, some y] : L2.St)) (Rv := dt (edgeD b m k)) s5.i (by rfl) (s5.h _ _ ej) (s5.s p (sm_none ej) nj) ?_ (ed_tup (ead_cons (ed_var (by rfl) (Dx.mono g35 ru)) (ead_cons (ed_var (by rfl) ry) (ead_cons (ed_call (b, m, k) (ea_cons (lw (by rfl) gg) (ea_cons (ed_var (by rfl) (Dx.mono g35 ru)) (ea_cons (ed_var (by rfl) ry) ea_nil))) ⟨ok, hk⟩) (ead_cons (ed_call (b, m, k) (ea_cons (lw (by rfl) gg) (ea_cons (ed_var (by rfl) ry) ea_nil)) ⟨ok, hk⟩) ead_nil)))) (by simp)) fun z G6 H6 s6 n6 e6 rz => ?_
      · rw [xj.length, List.length_map, List.length_append, List.length_map]
        have h1 := edgesP_len ok j
        have h2 := stepsK_len ok m
        have h3 : ((stepsK b m).take i).length ≤ (stepsK b m).length := by simp; omega
        exact sz_lt (by omega)
      · refine ⟨G6, g5.trans (s5.g.trans s6.g), _, rfl, (sJ.trans s5).thenM s6 fun a h => by rw [h]; exact hp0, gJ.trans (s5.g.trans s6.g), n6, _, e6, ?_⟩
        have h9 := (xj.mono (s5.g.trans s6.g)).append (.cons rz .nil)
        rw [List.take_succ, hi]
        simpa using h9
    · rintro σ'' G'' H'' ⟨a3, rfl, sJ, gJ, nj, vs2, ej, xj⟩ _
      rw [List.take_length] at xj
      refine ⟨G'', g3.trans (s3.g.trans gJ), _, _, rfl, sJ, nj, vs2, ej, ?_⟩
      rw [List.take_succ, hj, List.flatMap_append]
      simpa using xj
  · rintro σ' G' H' ⟨a2, a3, rfl, sI, np, vs', ep, xp⟩ _
    rw [List.take_length] at xp
    have s5 := sI.pub hp0 np ep
    exact k_ret (R := dt (.list ((edgesP b).map fun q => edgeD b q.1 q.2))) (ed_var (by rfl) (.lst upd_same (xp.mono (Ex.new np)))) s5.i fun v G6 H6 s6 r => q v G6 H6 (s5.trans s6) r
end
end RT
end
section
set_option maxRecDepth 100000
set_option maxHeartbeats 4000000
/-! RTW25: the least by the law. -/
namespace RT
open PySem PySem.Spec PyProof.Rows L2
open Evl (Ex Ex.refl Ex.trans Ex.new Ex.mut)
/-- the key of a build -/
def kM (b : Bk) (m : Nat) : List Key := (b.bld m).map .inr
theorem map_inr_inj : ∀ {l m : List Str}, l.map (fun s => (.inr s : Key)) = m.map (fun s => (.inr s : Key)) → l = m
  | [], [], _ => rfl
  | [], _ :: _, h => by simp at h
  | _ :: _, [], h => by simp at h
  | a :: l, c :: m, h => by
    rw [List.map_cons, List.map_cons] at h
    injection h with h1 h2
    injection h1 with h1
    rw [h1, map_inr_inj h2]
theorem kM_inj {b : Bk} (ok : BOk b) {m m' : Nat} (h : m < 2 ^ b.n) (h' : m' < 2 ^ b.n) (e : kM b m = kM b m') : m = m' := by
  have e1 : b.bld m = b.bld m' := map_inr_inj e
  refine mask_eq h h' fun i hi => ?_
  have h1 := mem_bld ok (m := m) hi
  have h2 := mem_bld ok (m := m') hi
  rw [e1] at h1
  exact Bool.eq_iff_iff.mpr (h1.symm.trans h2)
theorem kM_dx {b : Bk} {m : Nat} {G : Hp} {v : V} (h : Dx G v (dM b m)) : ∃ a, v = .ref a ∧ G a = some (.tup ((kM b m).map kV)) := by
  obtain ⟨a, xs, rfl, ea, hx⟩ := Dx.tup_inv h
  refine ⟨a, rfl, ?_⟩
  rw [ea, hx.strs]
  unfold kM
  rw [List.map_map]; rfl
structure TD (b : Bk) (F : Nat → Option Nat) (kvs : List (List Key × V)) : Prop where
  nd : (kvs.map (·.1)).Nodup
  lk : ∀ m : Nat, m < 2 ^ b.n → valV kvs (kM b m) = (F m).map fun c => .int (c : Int)
  ks : ∀ k ∈ kvs.map (·.1), ∃ m : Nat, m < 2 ^ b.n ∧ k = kM b m
section
variable {b : Bk} {F : Nat → Option Nat} {kvs : List (List Key × V)} {m c : Nat}
theorem TD.len (ok : BOk b) (h : TD b F kvs) : kvs.length ≤ 32 := by
  have : (kvs.map (·.1)).length ≤ ((List.range (2 ^ b.n)).map (kM b)).length := by
    refine List.Nodup.length_le_of_subset h.nd fun k hk => ?_
    obtain ⟨m, hm, rfl⟩ := h.ks k hk
    exact List.mem_map.mpr ⟨m, List.mem_range.mpr hm, rfl⟩
  have h2 : 2 ^ b.n ≤ 2 ^ 5 := Nat.pow_le_pow_right (by decide) ok.n5
  simp at this
  omega
theorem TD.one (ok : BOk b) (hm : m < 2 ^ b.n) : TD b (fun x => if x = m then some 0 else none) [(kM b m, .int 0)] := ⟨by simp, fun x hx => by
    by_cases h : x = m
    · subst h; rw [valV_pos rfl, if_pos rfl]; rfl
    · rw [valV_neg (fun z => h (kM_inj ok hx hm z.symm)), if_neg h]; rfl, fun k hk => by
    simp at hk; exact ⟨m, hm, hk⟩⟩
theorem TD.put (ok : BOk b) (h : TD b F kvs) (hm : m < 2 ^ b.n) : TD b (fun x => if x = m then some c else F x) (putK kvs (kM b m) (.int (c : Int))) := by
  have hlk : ∀ x : Nat, x < 2 ^ b.n → valV (putK kvs (kM b m) (.int (c : Int))) (kM b x) = (if x = m then some c else F x).map fun c => .int (c : Int) := fun x hx => by
    rw [valV_put, h.lk x hx]
    by_cases e : x = m
    · subst e; simp
    · rw [if_neg e, if_neg fun z => e (kM_inj ok hx hm z)]
  by_cases e : kM b m ∈ kvs.map (·.1)
  · have e1 : (putK kvs (kM b m) (.int (c : Int))).map (·.1) = kvs.map (·.1) := putG_keys e
    exact ⟨by rw [e1]; exact h.nd, hlk, by rw [e1]; exact h.ks⟩
  · have e1 : putK kvs (kM b m) (.int (c : Int)) = kvs ++ [(kM b m, .int (c : Int))] := putG_new e
    refine ⟨?_, hlk, ?_⟩
    · rw [e1, List.map_append, List.nodup_append]
      refine ⟨h.nd, by simp, fun a ha b' hb => ?_⟩
      simp at hb; subst hb
      intro z; subst z; exact e ha
    · rw [e1]
      intro k hk
      rw [List.map_append] at hk
      rcases List.mem_append.mp hk with z | z
      · exact h.ks k z
      · simp at z; exact ⟨m, hm, z⟩
end
/-! ### ways among the builds -/
def EC (b : Bk) : Nat → Nat → Nat → Prop := fun u v w => u < 2 ^ b.n ∧ EB b u v w
theorem way_EC {b : Bk} {m k g c : Nat} (hm : m < 2 ^ b.n ∧ b.holdP m = true) (h : Way (EB b) m k g c) : Way (EC b) m k g c := by
  induction h with
  | refl => exact .refl _
  | snoc hw e ih => exact ih.snoc ⟨(way_hold hm hw).1, e⟩
theorem way_EB {b : Bk} {m k g c : Nat} (h : Way (EC b) m k g c) : Way (EB b) m k g c := by
  induction h with
  | refl => exact .refl _
  | snoc _ e ih => exact ih.snoc e.2
theorem dist_EC {b : Bk} {m g : Nat} {o : Option Nat} (hm : m < 2 ^ b.n ∧ b.holdP m = true) (h : IsDist (EC b) m g o) : b.dist m g = o := by
  refine dist_eq ?_
  cases o with
  | none => exact fun k c hw => h k c (way_EC hm hw)
  | some c => exact ⟨let ⟨k, hw⟩ := h.1; ⟨k, way_EB hw⟩, fun k c' hw => h.2 k c' (way_EC hm hw)⟩
def SK.w : SK → Nat
  | .give _ => 1
  | _ => 0
def SK.isR : SK → Bool
  | .reset => true
  | _ => false
def gedgeD (b : Bk) (q : Nat × SK) : PyData := .tuple [dM b q.1, q.2.d b, dM b (q.2.to q.1), .int (q.2.w : Int)]
def gesP (b : Bk) : List (Nat × SK) := (edgesP b).filter fun q => !q.2.isR
def gesM (b : Bk) : List (Nat × Nat × Nat) := (gesP b).map fun q => (q.1, q.2.to q.1, q.2.w)
theorem mem_edgesP {b : Bk} {q : Nat × SK} : q ∈ edgesP b ↔ (q.1 < 2 ^ b.n ∧ b.holdP q.1 = true) ∧ q.2 ∈ stepsK b q.1 := by
  obtain ⟨m, k⟩ := q
  unfold edgesP
  rw [List.mem_flatMap]
  constructor
  · rintro ⟨m', h1, h2⟩
    obtain ⟨k', h3, h4⟩ := List.mem_map.mp h2
    cases h4
    exact ⟨mem_allM.mp h1, h3⟩
  · rintro ⟨h1, h2⟩
    exact ⟨m, mem_allM.mpr h1, List.mem_map.mpr ⟨k, h2, rfl⟩⟩
theorem gesM_iff {b : Bk} (u v w : Nat) : EC b u v w ↔ (u, v, w) ∈ gesM b := by
  unfold gesM gesP
  rw [List.mem_map]
  constructor
  · rintro ⟨hu, i, hi, h1, h2, h3⟩
    rcases h3 with ⟨h3, rfl, rfl⟩ | ⟨h3, rfl, rfl⟩
    · refine ⟨(u, .take i), List.mem_filter.mpr ⟨mem_edgesP.mpr ⟨⟨hu, h1⟩, ?_⟩, rfl⟩, rfl⟩
      unfold stepsK takesP
      exact List.mem_append_left _ (List.mem_append_left _ (List.mem_map.mpr ⟨i, List.mem_filter.mpr ⟨List.mem_range.mpr hi, by rw [h3, h2]; rfl⟩, rfl⟩))
    · refine ⟨(u, .give i), List.mem_filter.mpr ⟨mem_edgesP.mpr ⟨⟨hu, h1⟩, ?_⟩, rfl⟩, rfl⟩
      unfold stepsK givesP
      exact List.mem_append_left _ (List.mem_append_right _ (List.mem_map.mpr ⟨i, List.mem_filter.mpr ⟨List.mem_range.mpr hi, by rw [h3, h2]; rfl⟩, rfl⟩))
  · rintro ⟨⟨m, k⟩, hq, e⟩
    obtain ⟨hq, hr⟩ := List.mem_filter.mp hq
    obtain ⟨⟨hm, hh⟩, hk⟩ := mem_edgesP.mp hq
    cases e
    dsimp only at hm hh hk hr ⊢
    unfold stepsK takesP givesP at hk
    rcases List.mem_append.mp hk with h | h
    · rcases List.mem_append.mp h with h | h
      · obtain ⟨i, hi, rfl⟩ := List.mem_map.mp h
        have h1 := List.mem_filter.mp hi
        have h2 := h1.2
        rw [Bool.and_eq_true, Bool.not_eq_true'] at h2
        exact ⟨hm, i, List.mem_range.mp h1.1, hh, h2.2, .inl ⟨h2.1, rfl, rfl⟩⟩
      · obtain ⟨i, hi, rfl⟩ := List.mem_map.mp h
        have h1 := List.mem_filter.mp hi
        have h2 := h1.2
        rw [Bool.and_eq_true] at h2
        exact ⟨hm, i, List.mem_range.mp h1.1, hh, h2.2, .inr ⟨h2.1, rfl, rfl⟩⟩
    · split at h
      · rw [List.mem_singleton.mp h] at hr; cases hr
      · cases h
end RT
end
section
set_option maxRecDepth 100000
set_option maxHeartbeats 4000000
/-! RTW26: the least by the law, walked. -/
namespace RT
open PySem PySem.Spec PyProof.Rows L2
open Evl (Ex Ex.refl Ex.trans Ex.new Ex.mut)
def dtR (kvs : List (List Key × V)) : Rel := ⟨fun v G => ∃ a, v = .ref a ∧ G a = some (.dT kvs), fun e ⟨a, h1, h2⟩ => ⟨a, h1, e _ _ h2⟩⟩
section
variable {σ : L2.St} {G : Hp} {td ty : TE} {kvs : List (List Key × V)} {b : Bk} {m : Nat} {i : Int}
theorem ed_dinT (h1 : ED ty σ G (dt (dM b m))) (h2 : ED td σ G (dtR kvs)) : ED (tDIn ty td) σ G (dt (.bool (valV kvs (kM b m)).isSome)) := fun H e Q q =>
  ed_two (P := True) h1 h2 H e fun x y G1 H1 s r1 ⟨a, hy, ea⟩ => by
    subst hy
    obtain ⟨c, rfl, ec⟩ := kM_dx r1
    exact ⟨a, _, rfl, DGet.t (s.i _ _ ea) (s.i _ _ ec), q _ G1 H1 s (.bl _)⟩
theorem ed_dninT (h1 : ED ty σ G (dt (dM b m))) (h2 : ED td σ G (dtR kvs)) : ED (tDNotIn ty td) σ G (dt (.bool (!(valV kvs (kM b m)).isSome))) := fun H e Q q =>
  ed_two (P := True) h1 h2 H e fun x y G1 H1 s r1 ⟨a, hy, ea⟩ => by
    subst hy
    obtain ⟨c, rfl, ec⟩ := kM_dx r1
    exact ⟨a, _, rfl, DGet.t (s.i _ _ ea) (s.i _ _ ec), q _ G1 H1 s (.bl _)⟩
theorem ed_dgetT (h1 : ED td σ G (dtR kvs)) (h2 : ED ty σ G (dt (dM b m))) (hv : valV kvs (kM b m) = some (.int i)) : ED (tDGet td ty) σ G (dt (.int i)) := fun H e Q q =>
  ed_two (P := True) h1 h2 H e fun y x G1 H1 s ⟨a, hy, ea⟩ r1 => by
    subst hy
    obtain ⟨c, rfl, ec⟩ := kM_dx r1
    exact ⟨a, .int i, rfl, by rw [← hv]; exact DGet.t (s.i _ _ ea) (s.i _ _ ec), q _ G1 H1 s (.int _)⟩
end
/-- the gives to g, by the law -/
def givesT (b : Bk) (g : Nat) : Rel := ⟨fun v G => ∃ p kvs, v = .ref p ∧ G p = some (.dT kvs) ∧ ∀ m, m < 2 ^ b.n → b.holdP m = true → valV kvs (kM b m) = (b.dist m g).map fun c => .int (c : Int), fun e ⟨p, kvs, h1, h2, h3⟩ => ⟨p, kvs, h1, e _ _ h2, h3⟩⟩
def SK.s : SK → Str
  | .take _ => "take"
  | .give _ => "give"
  | .reset => "reset"
theorem SK.dx (b : Bk) : ∀ k : SK, ∃ rest, k.d b = .tuple (.str k.s :: rest)
  | .take i => ⟨_, rfl⟩
  | .give i => ⟨_, rfl⟩
  | .reset => ⟨_, rfl⟩
theorem SK.sw (k : SK) : wordS k.s = true := by
  cases k
  · show wordS ("take" : Str) = true
    decide +kernel
  · show wordS ("give" : Str) = true
    decide +kernel
  · show wordS ("reset" : Str) = true
    decide +kernel
theorem SK.sr (k : SK) : (!decide (k.s = "reset")) = !k.isR := by
  cases k
  · show (!decide (("take" : Str) = "reset")) = true
    decide +kernel
  · show (!decide (("give" : Str) = "reset")) = true
    decide +kernel
  · show (!decide (("reset" : Str) = "reset")) = false
    decide +kernel
theorem SK.sg (k : SK) : (if k.s = "give" then (1 : Int) else 0) = (k.w : Int) := by
  cases k
  · show (if ("take" : Str) = "give" then (1 : Int) else 0) = 0
    decide +kernel
  · show (if ("give" : Str) = "give" then (1 : Int) else 0) = 1
    decide +kernel
  · show (if ("reset" : Str) = "give" then (1 : Int) else 0) = 0
    decide +kernel
theorem edgesP_le {b : Bk} (ok : BOk b) : (edgesP b).length ≤ 352 := by
  have := edgesP_len ok (allM b).length
  rw [List.take_length] at this
  exact this
def rcond (st : (Nat → Option Nat) × Bool) (e : Nat × Nat × Nat) : Bool := match st.1 e.2.1 with
  | none => false
  | some x => match st.1 e.1 with
    | none => true
    | some y => decide (x + e.2.2 < y)
theorem relax_neg {st : (Nat → Option Nat) × Bool} {e : Nat × Nat × Nat} (h : rcond st e = false) : relax1 st e = st := by
  unfold rcond at h
  unfold relax1
  cases h1 : st.1 e.2.1 with
  | none => rfl
  | some x =>
    rw [h1] at h
    dsimp only at h ⊢
    exact if_neg fun z => absurd (h.symm.trans z) (by decide)
theorem relax_pos {st : (Nat → Option Nat) × Bool} {e : Nat × Nat × Nat} (h : rcond st e = true) : ∃ x, st.1 e.2.1 = some x ∧ relax1 st e = (fun m => if m = e.1 then some (x + e.2.2) else st.1 m, true) := by
  unfold rcond at h
  unfold relax1
  cases h1 : st.1 e.2.1 with
  | none => rw [h1] at h; cases h
  | some x =>
    rw [h1] at h
    dsimp only at h ⊢
    exact ⟨x, rfl, if_pos h⟩
section
variable {P : Program} {w : World} {K : Fg} {mg : Str → Option Value} {base : Heap} {C : Addr}
theorem c__law_least (T : Txt K mg) : Callee P w K mg base CX0 1 "_law_least" ["_law_edges_here", "_law_goal", "_law_resets_too"] (FSp (fun a : Bk × Nat => BOk a.1 ∧ a.2 < 2 ^ a.1.n ∧ a.1.holdP a.2 = true) (fun a => [dt (.list ((edgesP a.1).map (gedgeD a.1))), dt (dM a.1 a.2), dt (.bool false)]) (fun a => givesT a.1 a.2)) := by
  refine callee T.d__law_least sc__law_least (fun _ _ _ _ _ _ us hl => match us, hl with | [_, _, _], _ => rfl) (fun _ => rfl) fun f cdv Ar outer s H0 E hr => ?_
  obtain ⟨hu0, hu, hu64, hu65⟩ := room0 hr
  refine ⟨_, (pss_cons (ps_par (i := 3) (j := 4) rfl sc__law_least.nd rfl rfl (by decide) rfl rfl (pa_cons (pe_dispT hu0 (pv 1) pe_int) (pa_cons (pe_lc (own := [("_law_edge", 11)]) rfl sc__law_least.nd (pi_listK K (pv 0)) (blkOk_by (own := [("_law_edge", 11)]) (N := N__law_least) (sc := defScope s__law_least) (by decide +kernel)) (fun _ _ _ _ _ => (pg_name (i := 11) sc__law_least.nd rfl (Or.inl rfl))) (fun _ _ _ _ _ => (pts_one (L2.PW.pt (pw_or (pt_truthK K (pv 2)) (pw_or1 (pt_cmpR (op_neK K hu64) (pe_ix (ix_seqK K) (pe_ix (ix_seqK K) (pv 11) pe_int (fun _ _ => rfl)) pe_int (fun _ _ => rfl)) pe_str (nomark _))))))) (fun _ _ _ _ _ => (pv 11))) pa_nil)) rfl) (pss_cons (ps_for PassesOwn.never rfl (pi_range1 (by rfl) T.f_range (pa_cons (pe_op (op_addU K) (pe_callB (call_lenU K) (by rfl) T.f_len (by decide +kernel) (pa_cons (pv 0) pa_nil)) pe_int) pa_nil)) (pg_name (i := 5) sc__law_least.nd rfl (Or.inl rfl)) (pss_cons (ps_set (i := 6) sc__law_least.nd rfl (Or.inl rfl) pe_bl) (pss_cons (ps_for PassesOwn.never rfl (pi_listK K (pv 4)) (pg_tupK K (n := 4) (pgs_cons (pg_name (i := 7) sc__law_least.nd rfl (Or.inl rfl)) (pgs_cons (pg_name (i := 8) sc__law_least.nd rfl (Or.inl rfl)) (pgs_cons (pg_name (i := 9) sc__law_least.nd rfl (Or.inl rfl)) (pgs_cons (pg_name (i := 10) sc__law_least.nd rfl (Or.inl rfl)) pgs_nil))))) (pss_one (ps_if (L2.PW.pt (pw_and (pt_cmp (pc_din hu (pv 9) (pv 3))) (pw_and1 (L2.PW.pt (pw_or (pt_cmp (pc_dnotin hu (pv 7) (pv 3))) (pw_or1 (pt_cmpR (op_ltU K hu0) (pe_op (op_addU K) (pe_dget hu (pv 3) (pv 9) (fun _ _ => rfl)) (pv 10)) (pe_dget hu (pv 3) (pv 7) (fun _ _ => rfl)) (nomark _)))))))) (pss_one (ps_asg (pe_tup (pa_cons (pe_op (op_addU K) (pe_dget hu (pv 3) (pv 9) (fun _ _ => rfl)) (pv 10)) (pa_cons pe_bl pa_nil))) (pg_tupK K (n := 2) (pgs_cons (pg_sub (pv 3) (pv 7) (set_dict hu)) (pgs_cons (pg_name (i := 6) sc__law_least.nd rfl (Or.inl rfl)) pgs_nil))))) pss_nil))) (pss_one (ps_if (pt_not (pt_truthK K (pv 6))) (pss_one (ps_ret (pv 3))) pss_nil))))) (pss_one (ps_ret (pv 3))))), fun a vs G H D hP hA e q => ?_⟩
  obtain ⟨b, g⟩ := a
  obtain ⟨ok, hg, hgh⟩ := hP
  have ok : BOk b := ok
  obtain ⟨ev, gv, fl, rfl, h1, h2, h3⟩ := hA.three
  dsimp only at h1 h2 h3 hg hgh q
  cases Dx.bl_inv h3
  have hle := edgesP_le ok
  obtain ⟨ga, rfl, hga⟩ := kM_dx h2
  intro p hp
  have hgap : ga ≠ p := fun z => by have := e _ _ hga; rw [z, hp] at this; cases this
  refine ⟨.ref ga, rfl, upd_same, ga, kM b g, rfl, by rw [upd_ne hgap]; exact e _ _ hga, ?_⟩
  have S0 : Step G H G (upd (upd H p (.dT [])) p (.dT [(kM b g, .int 0)])) := ((Step.refl e).new hp).mut hp (ex_none e hp)
  have gp : G p = none := ex_none e hp
  refine (ed_lcN (xs := edgesP b) (Rx := fun q => dt (gedgeD b q)) (p := fun q => !q.2.isR) (f := gedgeD b) (ei_listM (ed_var (σ := L2.start N__law_least [ev, .ref ga, .bl false]) (i := 0) (by rfl) h1)) (by omega) fun q hq y G1 g1 ry => ⟨ET.eq (et_or (a := false) (et_tb (ed_var (by rfl) (.bl false))) fun _ => et_test (ed_neS (x := q.2.s) (y := "reset") (by
      obtain ⟨rest, hd⟩ := q.2.dx b
      have ry' : Dx G1 y (.tuple [dM b q.1, .tuple (.str q.2.s :: rest), dM b (q.2.to q.1), .int (q.2.w : Int)]) := by rw [← hd]; exact ry
      exact ed_ixT (ed_ixT (ed_var (by rfl) ry') ed_int at1) ed_int at0) ed_str q.2.sw (by decide +kernel))) (by rw [Bool.false_or]; exact q.2.sr), fun _ => ed_var (by rfl) ry⟩) _ S0.i _ fun sv G1 H1 s1 rs => ?_
  have S1 := S0.trans s1
  have ep1 : H1 p = some (.dT [(kM b g, .int 0)]) := s1.h _ _ upd_same
  have np1 : G1 p = none := s1.s p (by rw [upd_same]; intro z; cases z) gp
  refine ⟨.ref p, sv, rfl, ?_⟩
  have fin : ∀ {σ' : L2.St} {G' H' : Hp} {kvs : List (List Key × V)} {F : Nat → Option Nat}, σ'[3]? = some (some (.ref p)) → Step G H G' H' → G' p = none → H' p = some (.dT kvs) → TD b F kvs → (∀ m, IsDist (EC b) m g (F m)) → tRet (tVar 3) D σ' H' := fun {σ' G' H' kvs F} hσ sS n ep td di => by
    have s5 := sS.pub hp n ep
    refine k_ret (R := givesT b g) (ed_var hσ ⟨p, kvs, rfl, upd_same, fun m hm hh => by rw [td.lk m hm, dist_EC ⟨hm, hh⟩ (di m)]⟩) s5.i fun v G6 H6 s6 r => q v G6 H6 (s5.trans s6) r
  refine k_for (D := { D with nx := tRet (tVar 3) D }) (σ := ([some ev, some (.ref ga), some (.bl false), some (.ref p), some sv, none, none, none, none, none, none, none] : L2.St)) (xs := List.range ((edgesP b).length + 1)) (Rx := fun t : Nat => dt (.int (t : Int))) (ei_range (ED.eq (ed_add (ed_lenL (ed_var (by rfl) (Dx.mono s1.g h1))) ed_int) (by simp)) (by omega)) s1.i
    (fun t σ' G' H' => ∃ a5 a6 a7 a8 a9 a10, σ' = [some ev, some (.ref ga), some (.bl false), some (.ref p), some sv, a5, a6, a7, a8, a9, a10, none] ∧ Step G H G' H' ∧ Ex G1 G' ∧ G' p = none ∧ ∃ kvs F, H' p = some (.dT kvs) ∧ TD b F kvs ∧ BI (EC b) g t F)
    (fun G2 H2 s2 => ⟨none, none, none, none, none, none, rfl, S1.trans s2, s2.g, s2.s p (sm_none ep1) np1, _, _, s2.h _ _ ep1, TD.one ok hg, BI.start g⟩) (fun j σ' G' H' ⟨_, _, _, _, _, _, _, s, _⟩ => s.i) ?_ ?_
  · intro G2 g2 t t' u σ' G' H' G3 H3 ht hI g3 s3 ru
    obtain ⟨a5, a6, a7, a8, a9, a10, rfl, sI, gI, np, kvs, F, ep, td, bi⟩ := hI
    refine k_asgS (R := dt (.bool false)) (σ := ([some ev, some (.ref ga), some (.bl false), some (.ref p), some sv, some u, a6, a7, a8, a9, a10, none] : L2.St)) ed_bl s3.i fun wv G4 H4 s4 r4 => ?_
    cases Dx.bl_inv r4
    have s34 := s3.trans s4
    have ep4 := s34.h _ _ ep
    have np4 := s34.s p (sm_none ep) np
    refine k_for (D := { nx := _, rt := _, ct := _, bk := _ }) (xs := gesP b) (Rx := fun q => dt (gedgeD b q)) (ei_listM (ed_var (by rfl) (Dx.mono (gI.trans s34.g) rs))) s4.i
      (fun j σ'' G'' H'' => ∃ a7 a8 a9 a10, σ'' = [some ev, some (.ref ga), some (.bl false), some (.ref p), some sv, some u, some (.bl (((gesM b).take j).foldl relax1 (F, false)).2), a7, a8, a9, a10, none] ∧ Step G H G'' H'' ∧ Ex G4 G'' ∧ G'' p = none ∧ ∃ kvs, H'' p = some (.dT kvs) ∧ TD b (((gesM b).take j).foldl relax1 (F, false)).1 kvs)
      (fun G5 H5 s5 => ⟨_, _, _, _, rfl, (sI.trans s34).trans s5, s5.g, s5.s p (sm_none ep4) np4, kvs, s5.h _ _ ep4, td⟩) (fun j σ' G' H' ⟨_, _, _, _, _, s, _⟩ => s.i) ?_ ?_
    · intro G5 g5 j q0 y σ'' G'' H'' G6 H6 hj hJ g6 s6 ry
      obtain ⟨a7, a8, a9, a10, rfl, sJ, gJ, nj, kvs, ej, tdj⟩ := hJ
      generalize hst : ((gesM b).take j).foldl relax1 (F, false) = st at tdj
      have hq0 := mem_edgesP.mp (List.mem_filter.mp (List.mem_of_getElem? hj)).1
      have hto := SK.lt hq0.1.1 (stepsK_ok _ hq0.2)
      have etake : ((gesM b).take (j + 1)).foldl relax1 (F, false) = relax1 st (q0.1, q0.2.to q0.1, q0.2.w) := by
        have : (gesM b)[j]? = some (q0.1, q0.2.to q0.1, q0.2.w) := by unfold gesM; rw [List.getElem?_map, hj]; rfl
        rw [List.take_succ, this, List.foldl_append, hst]; rfl
      obtain ⟨c, x1, x2, x3, x4, rfl, ec, y1, y2, y3, y4⟩ := dx_quad ry
      refine gt_tup4 ec H6 s6.i _ ?_
      cases Dx.int_inv y4
      have ej6 := s6.h _ _ ej
      have nj6 := s6.s p (sm_none ej) nj
      have gup : Ex G6 (upd G6 p (.dT kvs)) := Ex.new nj6
      have dk : ∀ {σ : L2.St}, σ[3]? = some (some (.ref p)) → ED (tVar 3) σ (upd G6 p (.dT kvs)) (dtR kvs) := fun hσ => ed_var hσ ⟨p, rfl, upd_same⟩
      have hl := tdj.lk q0.1 hq0.1.1
      have hl2 := tdj.lk (q0.2.to q0.1) hto
      refine k_if (D := { nx := _, rt := _, ct := _, bk := _ }) (b := rcond st (q0.1, q0.2.to q0.1, q0.2.w)) (ET.eq (et_and (a := (st.1 (q0.2.to q0.1)).isSome) (b := match st.1 (q0.2.to q0.1), st.1 q0.1 with | some x, some y => decide (x + q0.2.w < y) | _, _ => true) (ET.eq (et_B (ed_dinT (b := b) (m := q0.2.to q0.1) (ed_var (by rfl) (Dx.mono gup y3)) (dk (by rfl)))) (by rw [hl2]; cases st.1 (q0.2.to q0.1) <;> rfl)) fun hz => ?_) ?_) (ex_while s6.i ej6) (fun hb G7 H7 s7 => ?_) fun hb G7 H7 s7 => ?_
      · obtain ⟨xv, hxv⟩ := Option.isSome_iff_exists.mp hz
        cases h5 : st.1 q0.1 with
        | none =>
          refine ET.eq (et_or (a := true) (b := true) (ET.eq (et_B (ed_dninT (b := b) (m := q0.1) (ed_var (by rfl) (Dx.mono gup y1)) (dk (by rfl)))) (by rw [hl, h5]; rfl)) fun z => by cases z) ?_
          rw [hxv]; rfl
        | some yv =>
          refine ET.eq (et_or (a := false) (b := decide (xv + q0.2.w < yv)) (ET.eq (et_B (ed_dninT (b := b) (m := q0.1) (ed_var (by rfl) (Dx.mono gup y1)) (dk (by rfl)))) (by rw [hl, h5]; rfl)) fun _ => ET.eq (et_test (ed_lt (ed_add (ed_dgetT (b := b) (m := q0.2.to q0.1) (i := (xv : Int)) (dk (by rfl)) (ed_var (by rfl) (Dx.mono gup y3)) (by rw [hl2, hxv]; rfl)) (ed_var (by rfl) (.int (q0.2.w : Int)))) (ed_dgetT (b := b) (m := q0.1) (i := (yv : Int)) (dk (by rfl)) (ed_var (by rfl) (Dx.mono gup y1)) (by rw [hl, h5]; rfl)))) (decide_eq_decide.mpr ⟨fun h => by omega, fun h => by omega⟩)) ?_
          rw [hxv]; rfl
      · unfold rcond
        cases h4 : st.1 (q0.2.to q0.1) <;> cases h5 : st.1 q0.1 <;> simp [h4, h5]
      · obtain ⟨xv, hxv, hrel⟩ := relax_pos hb
        have s7' := s7.forget nj6
        have ej7 := s7'.h _ _ ej6
        have gup7 : Ex (wo G7 p) (upd (wo G7 p) p (.dT kvs)) := Ex.new wo_same
        have g67 := s7'.g
        refine (ed_tup (ead_cons (ed_add (ed_dgetT (b := b) (m := q0.2.to q0.1) (i := (xv : Int)) (ed_var (σ := ([some ev, some (.ref ga), some (.bl false), some (.ref p), some sv, some u, some (.bl st.2), some x1, some x2, some x3, some (.int (q0.2.w : Int)), none] : L2.St)) (i := 3) (by rfl) ⟨p, rfl, upd_same⟩) (ed_var (i := 9) (by rfl) (Dx.mono (g67.trans gup7) y3)) (by rw [hl2, hxv]; rfl)) (ed_var (i := 10) (by rfl) (.int (q0.2.w : Int)))) (ead_cons ed_bl ead_nil)) (by simp)) H7 (ex_while s7'.i ej7) _ fun tv G8 H8 s8 rt => ?_
        obtain ⟨ta, z1, z2, rfl, eta, rz1, rz2⟩ := dx_pair rt
        cases Dx.int_inv rz1
        cases Dx.bl_inv rz2
        have s8' := s8.forget wo_same
        have ej8 := s8'.h _ _ ej7
        obtain ⟨ka, rfl, eka⟩ := kM_dx y1
        have eka8 : H8 ka = some (.tup ((kM b q0.1).map kV)) := s8'.i _ _ (s8'.g _ _ (g67 _ _ eka))
        have hlen := tdj.len ok
        refine ⟨ta, _, rfl, SqT.of (s8.i _ _ eta), rfl, _, _, rfl, .ref p, rfl, .ref ka, rfl, p, _, rfl, DPut.t ej8 eka8 (sz_lt (by omega)), _, _, rfl, rfl, ?_⟩
        have s68 := (s6.trans s7').trans s8'
        refine ⟨wo G8 p, g6.trans s68.g, some (.ref ka), some x2, some x3, some (.int (q0.2.w : Int)), ?_, (sJ.trans s68).mut hp wo_same, gJ.trans s68.g, wo_same, _, upd_same, ?_⟩
        · rw [etake, hrel]; rfl
        · rw [etake, hrel]
          have := tdj.put (c := xv + q0.2.w) ok hq0.1.1
          simpa using this
      · have s7' := s7.forget nj6
        refine ⟨wo G7 p, g6.trans (s6.g.trans s7'.g), some x1, some x2, some x3, some (.int (q0.2.w : Int)), ?_, (sJ.trans s6).trans s7', gJ.trans (s6.g.trans s7'.g), wo_same, kvs, s7'.h _ _ ej6, ?_⟩
        · rw [etake, relax_neg hb]; rfl
        · rw [etake, relax_neg hb]; exact tdj
    · rintro σ'' G'' H'' ⟨a7, a8, a9, a10, rfl, sJ, gJ, nj, kvs, ej, tdj⟩ _
      have elen : (gesM b).length = (gesP b).length := by simp [gesM]
      rw [← elen, List.take_length] at tdj ⊢
      have hround := BI.round bi gesM_iff
      have er : (gesM b).foldl relax1 (F, false) = RT.round (gesM b) F := rfl
      rw [er] at tdj ⊢
      refine k_if (b := !(RT.round (gesM b) F).2) (et_not (et_tb (ed_var (by rfl) (.bl _)))) sJ.i (fun hb G6 H6 s6 => ?_) fun hb G6 H6 s6 => ?_
      · have hb : (RT.round (gesM b) F).2 = false := by simpa using hb
        exact fin (by rfl) (sJ.trans s6) (s6.s p (sm_none ej) nj) (s6.h _ _ ej) tdj (hround.2 hb)
      · exact ⟨G6, g3.trans (s34.g.trans (gJ.trans s6.g)), _, _, _, _, _, _, rfl, sJ.trans s6, gI.trans (s34.g.trans (gJ.trans s6.g)), s6.s p (sm_none ej) nj, kvs, _, s6.h _ _ ej, tdj, hround.1⟩
  · rintro σ' G' H' ⟨a5, a6, a7, a8, a9, a10, rfl, sI, gI, np, kvs, F, ep, td, bi⟩ _
    rw [List.length_range] at bi
    exact fin (by rfl) sI np ep td fun m => BI.done bi (fun u v w h => (gesM_iff u v w).mp h) (by
      have h1 := List.length_filter_le (fun q : Nat × SK => !q.2.isR) (edgesP b)
      unfold gesM gesP
      rw [List.length_map]; omega) m
end
end RT
end
section
set_option maxRecDepth 100000
set_option maxHeartbeats 4000000
/-! RTCalc9: what is drawn from a pool; the pool changes. -/
namespace RT
open PySem PySem.Spec PyProof.Rows L2
open Evl (Ex Ex.refl Ex.trans Ex.new Ex.mut)
/-- a pool: two numbers -/
def PA (p : Addr) (H : Hp) : Prop := ∃ i j : Int, H p = some (.lst [.int i, .int j]) ∧ 0 ≤ i ∧ 0 ≤ j ∧ j < 2147483647
structure PH (p : Addr) (G H : Hp) : Prop where
  e : Ex G H
  n : G p = none
  a : PA p H
structure SP (p : Addr) (G H G' H' : Hp) : Prop where
  m : StepM (fun a => a = p) G H G' H'
  a : PA p H'
section
variable {p r : Addr} {G H G0 H0 G1 H1 G2 H2 G' : Hp} {o : HO}
theorem PA.some (h : PA p H) : H p ≠ none := by
  obtain ⟨i, j, e, _⟩ := h
  rw [e]; intro z; cases z
theorem PA.step (h : PA p H) (e : Ex H H1) : PA p H1 := let ⟨i, j, h1, h2⟩ := h; ⟨i, j, e _ _ h1, h2⟩
theorem PH.sp (h : PH p G H) (s : Step G H G1 H1) : SP p G H G1 H1 := ⟨s.m, h.a.step s.h⟩
theorem PH.go (h : PH p G H) (s : SP p G H G1 H1) : PH p G1 H1 := ⟨s.m.i, s.m.s p h.a.some h.n, s.a⟩
theorem PH.st (h : PH p G H) (s : Step G H G1 H1) : PH p G1 H1 := h.go (h.sp s)
theorem SP.refl (h : PH p G H) : SP p G H G H := ⟨.refl h.e, h.a⟩
theorem SP.trans (a : SP p G H G1 H1) (b : SP p G1 H1 G2 H2) : SP p G H G2 H2 := ⟨a.m.trans b.m, b.a⟩
theorem SP.step (a : SP p G H G1 H1) (b : Step G1 H1 G2 H2) : SP p G H G2 H2 := ⟨a.m.step b, a.a.step b.h⟩
theorem SP.g (a : SP p G H G1 H1) : Ex G G1 := a.m.g
theorem SP.i (a : SP p G H G1 H1) : Ex G1 H1 := a.m.i
theorem SP.h (a : SP p G H G1 H1) {x : Addr} (hx : x ≠ p) (e : H x = some o) : H1 x = some o := a.m.h x o hx e
theorem SP.s (a : SP p G H G1 H1) {x : Addr} (e : H x = some o) (n : G x = none) : G1 x = none := a.m.s x (by rw [e]; intro z; cases z) n
theorem PA.ne (h : PA p H) (hr : H r = none) : r ≠ p := fun z => h.some (z ▸ hr)
theorem SP.mut (a : SP p G H G1 H1) (hp : PA p H) (hr : H r = none) (hg : G1 r = none) : SP p G H G1 (upd H1 r o) :=
  ⟨a.m.mut hr hg, let ⟨i, j, h1, h2⟩ := a.a; ⟨i, j, by rw [upd_ne (Ne.symm (hp.ne hr))]; exact h1, h2⟩⟩
theorem SP.pub (a : SP p G H G1 H1) (hr : H r = none) (hg : G1 r = none) (ho : H1 r = some o) : SP p G H (upd G1 r o) H1 := ⟨a.m.pub hr hg ho, a.a⟩
/-- .. own objects that came behind H0 change -/
theorem SP.thenM (a : SP p G0 H0 G H) (b : StepM (fun x => x = r) G H G1 H1) (hp : PA p H0) (hr : H0 r = none) : SP p G0 H0 G1 H1 := by
  have rp : r ≠ p := hp.ne hr
  refine ⟨⟨a.m.g.trans b.g, fun x o hx e => b.h x o (fun z => ?_) (a.m.h x o hx e), fun x h => b.e x (a.m.e x h), b.i, fun x h1 h2 => b.s x (a.m.e x h1) (a.m.s x h1 h2)⟩, ?_⟩
  · subst z; rw [hr] at e; cases e
  · obtain ⟨i, j, h1, h2⟩ := a.a
    exact ⟨i, j, b.h p _ (fun z => rp z.symm) h1, h2⟩
theorem StepM.along {M : Addr → Prop} (e : Ex G G0) (e0 : Ex G0 H) (hM : ∀ a, M a → G0 a = none) (s : StepM M G H G1 H1) : StepM M G0 H (un G0 G1) H1 :=
  have k : Ex G0 H1 := fun a o z => s.h a o (fun m => by rw [hM a m] at z; cases z) (e0 a o z)
  ⟨un_l, s.h, s.e, un_ex k s.i, fun a h1 h2 => by unfold un; rw [h2]; exact s.s a h1 (ex_none e h2)⟩
theorem SP.along (x : Ex G G0) (e : PH p G0 H) (s : SP p G H G1 H1) : SP p G0 H (un G0 G1) H1 := ⟨s.m.along x e.e fun a h => by rw [h]; exact e.n, s.a⟩
theorem SP.un_r (x : Ex G G0) (e : PH p G0 H) (s : SP p G H G1 H1) : Ex G1 (un G0 G1) :=
  RT.un_r (H := H1) (fun a o z => s.m.h a o (fun m => by have := e.n; rw [m] at z; rw [this] at z; cases z) (e.e a o z)) s.m.i
end
/-! ### evaluations that may draw -/
def EDM (p : Addr) (te : TE) (σ : L2.St) (G : Hp) (R : Rel) : Prop := ∀ H, PH p G H → ∀ Q : VK, (∀ v G' H', SP p G H G' H' → R.r v G' → Q v H') → te σ H Q
def ETM (p : Addr) (tt : TT) (σ : L2.St) (G : Hp) (B : Bool → Prop) : Prop := ∀ H, PH p G H → ∀ Q : Bool → Hp → Prop, (∀ b G' H', SP p G H G' H' → B b → Q b H') → tt σ H Q
def EAM (p : Addr) (ta : TA) (σ : L2.St) (G : Hp) (Rs : List Rel) : Prop := ∀ H, PH p G H → ∀ Q : List V → Hp → Prop, (∀ vs G' H', SP p G H G' H' → RAll Rs vs G' → Q vs H') → ta σ H Q
/-- one of these -/
def exR {α : Type} (P : α → Prop) (f : α → PyData) : Rel := ⟨fun v G => ∃ x, P x ∧ Dx G v (f x), fun e ⟨x, h1, h2⟩ => ⟨x, h1, Dx.mono e h2⟩⟩
section
variable {p : Addr} {σ : L2.St} {G G' H : Hp} {ta tb tc te : TE} {t u : TT} {R R' S1 S2 S3 : Rel} {d e : PyData} {ds es : List PyData} {K : Fg} {tA tr : TA} {Rs : List Rel} {E : XK}
theorem EDM.of (h : ED te σ G R) : EDM p te σ G R := fun H e Q q => h H e.e Q fun v G1 H1 s r => q v G1 H1 (e.sp s) r
theorem EAM.of (h : EA tA σ G Rs) : EAM p tA σ G Rs := fun H e Q q => h H e.e Q fun v G1 H1 s r => q v G1 H1 (e.sp s) r
theorem ETM.of {b : Bool} (h : ET t σ G b) : ETM p t σ G (fun c => c = b) := fun H e Q q => h H e.e Q fun G1 H1 s => q b G1 H1 (e.sp s) rfl
theorem EDM.mono (x : Ex G G') (h : EDM p te σ G R) : EDM p te σ G' R := fun H e Q q => h H ⟨x.trans e.e, ex_none x e.n, e.a⟩ Q fun v G1 H1 s r => q v _ H1 (s.along x e) (R.mono (s.un_r x e) r)
theorem EAM.mono (x : Ex G G') (h : EAM p tA σ G Rs) : EAM p tA σ G' Rs := fun H e Q q => h H ⟨x.trans e.e, ex_none x e.n, e.a⟩ Q fun v G1 H1 s r => q v _ H1 (s.along x e) (r.mono (s.un_r x e))
theorem ETM.mono {B : Bool → Prop} (x : Ex G G') (h : ETM p t σ G B) : ETM p t σ G' B := fun H e Q q => h H ⟨x.trans e.e, ex_none x e.n, e.a⟩ Q fun v G1 H1 s r => q v _ H1 (s.along x e) r
theorem EDM.imp (h : EDM p te σ G R) (i : ∀ v G1, Ex G G1 → R.r v G1 → R'.r v G1) : EDM p te σ G R' := fun H e Q q => h H e Q fun v G1 H1 s r => q v G1 H1 s (i v G1 s.g r)
theorem edm_two (ha : EDM p ta σ G S1) (hb : EDM p tb σ G S2) (H : Hp) (e : PH p G H) {k : V → V → Hp → Prop} (q : ∀ x y G' H', SP p G H G' H' → S1.r x G' → S2.r y G' → k x y H') : ta σ H fun x H1 => tb σ H1 fun y H2 => k x y H2 :=
  ha H e _ fun x G1 H1 s1 r1 => (hb.mono s1.g) H1 (e.go s1) _ fun y G2 H2 s2 r2 => q x y G2 H2 (s1.trans s2) (S1.mono s2.g r1) r2
/-- an operation; what it comes to is told for its values -/
theorem edm_op {r : R2} (ha : EDM p ta σ G S1) (hb : EDM p tb σ G S2) (hr : ∀ x y G1, Ex G G1 → S1.r x G1 → S2.r y G1 → ED (tOp r (tC x) (tC y)) [] G1 R) : EDM p (tOp r ta tb) σ G R := fun H e Q q =>
  edm_two ha hb H e fun x y G1 H1 s r1 r2 => hr x y G1 s.g r1 r2 H1 s.i Q fun v G2 H2 s2 r3 => q v G2 H2 (s.step s2) r3
theorem eam_nil : EAM p tNil σ G [] := .of ea_nil
theorem eam_cons (h : EDM p te σ G R) (hr : EAM p tr σ G Rs) : EAM p (tCons te tr) σ G (R :: Rs) := fun H e Q q =>
  h H e _ fun x G1 H1 s1 r1 => (hr.mono s1.g) H1 (e.go s1) _ fun xs G2 H2 s2 r2 => q _ G2 H2 (s1.trans s2) (.cons (R.mono s2.g r1) r2)
def tVs (vs : List V) : TA := fun _ H Q => Q vs H
theorem edm_cb {r : List V → Hp → VK → Prop} (h : EAM p tA σ G Rs) (hr : ∀ vs G1, Ex G G1 → RAll Rs vs G1 → ED (tCB r (tVs vs)) [] G1 R) : EDM p (tCB r tA) σ G R := fun H e Q q =>
  h H e _ fun vs G1 H1 s1 r1 => hr vs G1 s1.g r1 H1 s1.i Q fun v G2 H2 s2 r2 => q v G2 H2 (s1.step s2) r2
theorem edm_cb1 {r : List V → Hp → VK → Prop} (h : EDM p te σ G S1) (hr : ∀ v G1, Ex G G1 → S1.r v G1 → ED (tCB r (tCons (tC v) tNil)) [] G1 R) : EDM p (tCB r (tCons te tNil)) σ G R :=
  edm_cb (eam_cons h eam_nil) fun vs G1 g ra => by cases ra with | cons h1 t => cases t; exact hr _ G1 g h1
theorem edm_cb2 {r : List V → Hp → VK → Prop} (h : EDM p ta σ G S1) (h' : EDM p tb σ G S2) (hr : ∀ v w G1, Ex G G1 → S1.r v G1 → S2.r w G1 → ED (tCB r (tCons (tC v) (tCons (tC w) tNil))) [] G1 R) : EDM p (tCB r (tCons ta (tCons tb tNil))) σ G R :=
  edm_cb (eam_cons h (eam_cons h' eam_nil)) fun vs G1 g ra => by cases ra with | cons h1 t => cases t with | cons h2 t => cases t; exact hr _ _ G1 g h1 h2
theorem edm_if {b : Bool} (h : ET t σ G b) (h1 : b = true → EDM p ta σ G R) (h2 : b = false → EDM p tb σ G R) : EDM p (tIf t ta tb) σ G R := fun H e Q q => h H e.e _ fun G1 H1 s1 => by
  have s1' := e.sp s1
  cases b with
  | true => exact ((h1 rfl).mono s1.g) H1 (e.go s1') Q fun v G2 H2 s2 r2 => q v G2 H2 (s1'.trans s2) r2
  | false => exact ((h2 rfl).mono s1.g) H1 (e.go s1') Q fun v G2 H2 s2 r2 => q v G2 H2 (s1'.trans s2) r2
/-- a tuple, a list of what is drawn -/
theorem edm_tup (h : EAM p tA σ G Rs) (hl : Rs.length ≤ 100000) (hr : ∀ vs G1, Ex G G1 → RAll Rs vs G1 → ∀ a, G1 a = some (.tup vs) → R.r (.ref a) G1) : EDM p (tTup tA) σ G R := fun H e Q q =>
  h H e _ fun vs G1 H1 s r => ⟨by rw [r.length]; exact sz_of hl, fun a ha => by
    have n := ex_none s.i ha
    have x : Ex G1 (upd G1 a (.tup vs)) := Ex.new n
    exact q _ _ _ (s.step ((Step.refl s.i).add ha)) (hr vs _ (s.g.trans x) (r.mono x) a upd_same)⟩
theorem edm_lst (h : EAM p tA σ G Rs) (hl : Rs.length ≤ 100000) (hr : ∀ vs G1, Ex G G1 → RAll Rs vs G1 → ∀ a, G1 a = some (.lst vs) → R.r (.ref a) G1) : EDM p (tLst tA) σ G R := fun H e Q q =>
  h H e _ fun vs G1 H1 s r => ⟨by rw [r.length]; exact sz_of hl, fun a ha => by
    have n := ex_none s.i ha
    have x : Ex G1 (upd G1 a (.lst vs)) := Ex.new n
    exact q _ _ _ (s.step ((Step.refl s.i).add ha)) (hr vs _ (s.g.trans x) (r.mono x) a upd_same)⟩
/-- xs[:k] -/
theorem edm_slTo (ha : EDM p ta σ G S1) (hb : EDM p tb σ G S2) (hr : ∀ x y G1, Ex G G1 → S1.r x G1 → S2.r y G1 → ED (tSl (rSlL K) (tC x) tNoPart (tPart (tC y))) [] G1 R) : EDM p (tSl (rSlL K) ta tNoPart (tPart tb)) σ G R := fun H e Q q =>
  edm_two ha hb H e fun x y G1 H1 s r1 r2 => hr x y G1 s.g r1 r2 H1 s.i Q fun v G2 H2 s2 r3 => q v G2 H2 (s.step s2) r3
theorem etm_test {B : Bool → Prop} (h : EDM p te σ G (exR B .bool)) : ETM p (tTest te) σ G B := fun H e Q q => h H e _ fun x G1 H1 s ⟨b, hb, r⟩ => ⟨b, Dx.bl_inv r, q b G1 H1 s hb⟩
/-! ### promises of defs that draw -/
def refsTo (p : Addr) : Rel := refR p
def MSp {α : Type} (P : α → Prop) (A : α → List Rel) (B : α → Rel) : Sp := fun vs H Q _ => ∃ a p G, P a ∧ PH p G H ∧ RAll (refR p :: A a) vs G ∧ ∀ v G' H', SP p G H G' H' → (B a).r v G' → Q v H'
theorem edm_call {α : Type} {P : α → Prop} {A : α → List Rel} {B : α → Rel} (a : α) (h : EAM p tA σ G (refR p :: A a)) (hp : P a) (hR : B a = R := by rfl) : EDM p (tCall (MSp P A B) [] E tA) σ G R := fun H e Q q =>
  h H e _ fun vs G1 H1 s r => by
    show MSp P A B (vs ++ []) H1 Q E
    rw [List.append_nil]
    subst hR
    exact ⟨a, p, G1, hp, e.go s, r, fun v G2 H2 s2 r2 => q v G2 H2 (s.trans s2) r2⟩
/-- .. where what it is asked is drawn, too -/
theorem edm_callE {α : Type} {P : α → Prop} {A : α → List Rel} {B : α → Rel} (h : EAM p tA σ G Rs) (hp : ∀ vs G1, Ex G G1 → RAll Rs vs G1 → ∃ a, P a ∧ RAll (refR p :: A a) vs G1 ∧ ∀ v G2, Ex G1 G2 → (B a).r v G2 → R.r v G2) : EDM p (tCall (MSp P A B) [] E tA) σ G R := fun H e Q q =>
  h H e _ fun vs G1 H1 s r => by
    show MSp P A B (vs ++ []) H1 Q E
    rw [List.append_nil]
    obtain ⟨a, h1, h2, h3⟩ := hp vs G1 s.g r
    exact ⟨a, p, G1, h1, e.go s, h2, fun v G2 H2 s2 r2 => q v G2 H2 (s.trans s2) (h3 v G2 s2.g r2)⟩
theorem ed_ref {i : Nat} (h : σ[i]? = some (some (.ref p))) : ED (tVar i) σ G (refR p) := ed_var h rfl
/-! ### statements -/
variable {D : Ends} {ts tw : TS} {k : Nat}
theorem kp_asg (h : EDM p te σ G R) (e : PH p G H) (q : ∀ v G' H', SP p G H G' H' → R.r v G' → D.nx (σ.set k (some v)) H') : tAsg te (gName k) D σ H := h H e _ q
theorem kp_asgS (h : EDM p te σ G R) (e : PH p G H) (q : ∀ v G' H', SP p G H G' H' → R.r v G' → tw D (σ.set k (some v)) H') : tSeq (tAsg te (gName k)) tw D σ H := h H e _ q
theorem kp_ret (h : EDM p te σ G R) (e : PH p G H) (q : ∀ v G' H', SP p G H G' H' → R.r v G' → D.rt v H') : tRet te D σ H := h H e _ q
theorem kp_if {B : Bool → Prop} (h : ETM p t σ G B) (e : PH p G H) (q : ∀ b G' H', SP p G H G' H' → B b → if b = true then ts D σ H' else tw D σ H') : tIfS t ts tw D σ H := h H e _ q
/-- x.append(..), x an own list that is not known -/
theorem kp_app {i : Nat} {r : Addr} {vs : List V} (e : PH p G H) (hσ : σ[i]? = some (some (.ref r))) (hr : H r = some (.lst vs)) (hg : G r = none) (rp : r ≠ p) (hl : vs.length < sizeLine) (hv : EDM p te σ G R)
    (q : ∀ y G1 H1, SP p G H G1 H1 → G1 r = none → H1 r = some (.lst vs) → R.r y G1 → D.nx σ (upd H1 r (.lst (vs ++ [y])))) : tDrop (tBM K "list" rAppend (tVar i) (tCons te tNil)) D σ H := by
  refine ⟨.ref r, hσ, .inl ⟨rfl, vs, SqL.of hr⟩, ?_⟩
  refine hv H e _ fun y G1 H1 s rr => ?_
  have h1 := s.h rp hr
  have n := s.s hr hg
  exact ⟨r, vs, y, rfl, rfl, h1, hl, q y G1 H1 s n h1 rr⟩
theorem k_bindL {g : TG} (h : te σ H fun v H1 => tFor (iList K (tC v)) g ts D σ H1) : tFor (iList K te) g ts D σ H := h
theorem k_bindR {g : TG} (h : te σ H fun v H1 => tFor (iRng1 (tCons (tC v) tNil)) g ts D σ H1) : tFor (iRng1 (tCons te tNil)) g ts D σ H := h
end
section
variable {P : Program} {w : World} {K : Fg} {mg : Str → Option Value} {base : Heap} {x : Str} {st : Stmt} {N ps : List Str} {k : Nat}
theorem calleeM {α : Type} {Pa : α → Prop} {A : α → List Rel} {B : α → Rel} (D : DefAt K mg x st) (S : FnScope N ps (defScope st)) (hb : ∀ (kV doc pm : Value) (an : Option Addr) (cdv ct : Value) (us : List Value), us.length = ps.length → bindArgs (PySem.W.fnOf x x (defArgs st) (defBody st) (defScope st) .none kV doc pm an cdv ct) ⟨us, []⟩ = pure (ps.zip us))
    (hl : ∀ a, (A a).length + 1 = ps.length)
    (body : ∀ (f : Addr) (cdv : Value) (Ar : Around) (outer : List Env) (s : Shared) (H0 : Hp) (E : XK), Room k (Ar.deeper (envOfC x (defScope st) s.heap.objs.size f cdv)) →
      ∃ t, PSs (cxOf CX0 P w K mg base N x (defScope st) f cdv Ar outer s H0 E).nox (defBody st) t ∧ ∀ a p vs G H (D : Ends), Pa a → RAll (A a) vs G → PH p G H → (∀ v G' H', SP p G H G' H' → (B a).r v G' → D.rt v H') → t D (start N (.ref p :: vs)) H) : Callee P w K mg base CX0 (k + 1) x ps (MSp Pa A B) :=
  callee_sp D S hb (fun vs H Q E h => by obtain ⟨a, p, G, _, _, h2, _⟩ := h; rw [h2.length, ← hl a]; rfl) fun f cdv Ar outer s H vs Q E hr h => by
    obtain ⟨t, h1, h2⟩ := body f cdv Ar outer s H E hr
    obtain ⟨a, p, G, pa, e, r, q⟩ := h
    cases r with
    | cons r0 r =>
      obtain rfl : _ = V.ref p := r0
      exact ⟨t, h1, h2 a p _ G H _ pa r e q⟩
end
/-! ### comprehensions that draw -/
section
variable {p : Addr} {σ : L2.St} {G : Hp} {te : TE} {α : Type}
theorem edm_lcX {wi : TI} {k : Nat} {tt : TT} {xs : List α} {Rx : α → Rel} {R : Rel} (Inv : Nat → List PyData → Prop) (h : EI wi σ G (xs.map Rx)) (hz : xs.length ≤ 90000) (h0 : Inv 0 [])
    (ht : ∀ i x, xs[i]? = some x → ∀ v G1, Ex G G1 → (Rx x).r v G1 → ∃ B : Bool → Prop, ETM p tt ((wipe σ [k]).set k (some v)) G1 B ∧ (B false → ∀ ds, Inv i ds → Inv (i + 1) ds) ∧ (B true → ∃ R', EDM p te ((wipe σ [k]).set k (some v)) G1 R' ∧ ∀ y G2, R'.r y G2 → ∃ d, Dx G2 y d ∧ ∀ ds, Inv i ds → Inv (i + 1) (ds ++ [d])))
    (hi : ∀ i ds, Inv i ds → ds.length ≤ i) (hR : ∀ v G1 ds, Inv xs.length ds → Dx G1 v (.list ds) → R.r v G1) :
    EDM p (tLc wi (gName k) tt te [k]) σ G R := fun H e Q q => h H e.e _ fun J G1 H1 s1 w D hD => by
  have hHD : H D = none := ex_none s1.h hD
  have Dp : D ≠ p := e.a.ne hHD
  let Pv : Nat → Hp → Prop := fun i H' => ∃ G' acc ds, SP p G H G' H' ∧ Ex G1 G' ∧ H' D = some (.lst acc) ∧ G' D = none ∧ DxA G' acc ds ∧ Inv i ds
  refine ⟨fun i m H' => m = xs.length - i ∧ i ≤ xs.length ∧ Pv i H', ⟨xs.length, by simp, Nat.zero_le _, G1, [], [], (e.sp s1).step ((Step.refl s1.i).new hD), Ex.refl _, upd_same, ex_none s1.i hD, .nil, h0⟩, ?_⟩
  rintro i m H' ⟨rfl, hi', G', acc, ds, s2, g2, hacc, hGD, hdx, hinv⟩
  by_cases hlt : i < xs.length
  · refine .inr ⟨w.go i H' (by simpa using hlt) (g2.trans s2.i), fun H3 => Pv (i + 1) H3, fun H3 hp => ⟨xs.length - (i + 1), by omega, rfl, hlt, hp⟩, fun v H3 hy => ?_⟩
    have hgi : xs[i]? = some xs[i] := List.getElem?_eq_getElem hlt
    obtain ⟨G3, s3, hr⟩ := w.yld i (Rx xs[i]) H' v H3 (by rw [List.getElem?_map, hgi] <;> rfl) hy G' g2 s2.i
    obtain ⟨B, h2, h3, h4⟩ := ht i xs[i] hgi v G3 (s2.g.trans s3.g) hr
    have e3 : PH p G3 H3 := (e.go s2).st s3
    refine (gt_name (v := v) (k := k) (σ := wipe σ [k]) (G := G3)) H3 s3.i _ ⟨by rw [wipe_set (by simp), wipe_wipe], ?_⟩
    refine h2 H3 e3 _ fun b G4 H4 s4 hb => ?_
    have hacc4 := s4.h Dp (s3.h _ _ hacc)
    have hG3 : G3 D = none := s3.s D (by rw [hacc]; intro z; cases z) hGD
    have hG4 := s4.s (s3.h _ _ hacc) hG3
    cases b with
    | false => exact ⟨G4, acc, ds, (s2.step s3).trans s4, g2.trans (s3.g.trans s4.g), hacc4, hG4, hdx.mono (s3.g.trans s4.g), h3 hb ds hinv⟩
    | true =>
      obtain ⟨R', h5, h6⟩ := h4 hb
      refine (h5.mono s4.g) H4 (e3.go s4) _ fun y G5 H5 s5 r5 => ?_
      obtain ⟨d, rd, hinv'⟩ := h6 y G5 r5
      have hacc5 := s5.h Dp hacc4
      have hG5 := s5.s hacc4 hG4
      have hlen := hi i ds hinv
      exact ⟨acc, hacc5, by rw [hdx.length]; exact sz_lt (by omega), G5, acc ++ [y], ds ++ [d], (((s2.step s3).trans s4).trans s5).mut e.a hHD hG5, g2.trans (s3.g.trans (s4.g.trans s5.g)), upd_same, hG5, (hdx.mono (s3.g.trans (s4.g.trans s5.g))).append (.cons rd .nil), hinv' ds hinv⟩
  · have : i = xs.length := by omega
    subst this
    refine .inl ⟨by have := w.stop H' (g2.trans s2.i); simpa using this, q _ _ _ (s2.pub hHD hGD hacc) (hR _ _ ds hinv (.lst upd_same (hdx.mono (Ex.new hGD))))⟩
end
end RT
end
section
set_option maxRecDepth 100000
set_option maxHeartbeats 4000000
/-! RTW27: the fewest gives by the law; lists of things. -/
namespace RT
open PySem PySem.Spec PyProof.Rows L2
open Evl (Ex Ex.refl Ex.trans Ex.new Ex.mut)
/-- a list of things -/
def lstR (Rs : List Rel) : Rel := ⟨fun v G => ∃ a xs, v = .ref a ∧ G a = some (.lst xs) ∧ RAll Rs xs G, fun e ⟨a, xs, h1, h2, h3⟩ => ⟨a, xs, h1, e _ _ h2, h3.mono e⟩⟩
theorem RAll.of_dx {G : Hp} : ∀ {ds : List PyData} {vs : List V}, DxA G vs ds → RAll (ds.map dt) vs G
  | _, _, .nil => .nil
  | _, _, .cons h t => .cons h (RAll.of_dx t)
theorem RAll.got {G : Hp} : ∀ {Rs : List Rel} {vs : List V} {i : Nat} {v : V}, RAll Rs vs G → vs[i]? = some v → ∃ R, Rs[i]? = some R ∧ R.r v G
  | _, _, _, _, .nil, e => by simp at e
  | _, _, 0, _, .cons r _, e => by simp at e; subst e; exact ⟨_, rfl, r⟩
  | _, _, i + 1, _, .cons _ t, e => by
    obtain ⟨R, h1, h2⟩ := RAll.got (i := i) t (by simpa using e)
    exact ⟨R, by simpa using h1, h2⟩
section
variable {σ : L2.St} {G : Hp} {ta tb te tl : TE} {tA : TA} {Rs Ss : List Rel} {ds : List PyData} {K : Fg}
theorem ed_lstR (h : EA tA σ G Rs) (hl : Rs.length ≤ 100000) : ED (tLst tA) σ G (lstR Rs) := fun H e Q q =>
  h H e _ fun vs G1 H1 s r => ⟨by rw [r.length]; exact sz_of hl, fun p hp => q _ _ _ (s.add hp) ⟨p, vs, rfl, upd_same, r.mono (Ex.new (ex_none s.i hp))⟩⟩
theorem ed_lstOf (h : ED te σ G (dt (.list ds))) : ED te σ G (lstR (ds.map dt)) := h.imp fun v G1 r => by
  obtain ⟨a, xs, rfl, ea, hx⟩ := Dx.list_inv r
  exact ⟨a, xs, rfl, ea, RAll.of_dx hx⟩
theorem ed_catR (ha : ED ta σ G (lstR Rs)) (hb : ED tb σ G (lstR Ss)) (hz : Rs.length + Ss.length ≤ 100000) : ED (tOp (rAddU K) ta tb) σ G (lstR (Rs ++ Ss)) := ed_op ha hb fun x y G1 _ h1 h2 => by
  obtain ⟨a, xs, rfl, ea, hx⟩ := h1
  obtain ⟨c, ys, rfl, ec, hy⟩ := h2
  intro H e Q q
  refine .inr (.inl ⟨a, c, xs, ys, rfl, rfl, e _ _ ea, e _ _ ec, by rw [hx.length, hy.length]; exact sz_of hz, fun p hp => ?_⟩)
  exact q _ _ _ ((Step.refl e).add hp) ⟨p, _, rfl, upd_same, (RAll.append hx hy).mono (Ex.new (ex_none e hp))⟩
theorem ei_listR (h : ED tl σ G (lstR Rs)) : EI (iList K tl) σ G Rs := fun H e R q => h H e _ fun v G1 H1 s r => by
  obtain ⟨a, xs, rfl, ea, hx⟩ := r
  refine ⟨a, rfl, ⟨xs, SqL.of (s.i _ _ ea)⟩, q _ G1 H1 s ⟨fun i H hi e => ?_, fun H e => ?_, fun i R H x H' hR hy G2 g2 e2 => ?_⟩⟩
  · exact ⟨xs, _, SqL.of (e _ _ ea), List.getElem?_eq_getElem (by rw [hx.length]; exact hi)⟩
  · exact ⟨xs, SqL.of (e _ _ ea), by rw [hx.length]; simp⟩
  · obtain ⟨rfl, hy⟩ := hy
    obtain ⟨R', h1, h2⟩ := hx.got (hy xs (SqL.of (e2 _ _ (g2 _ _ ea))))
    rw [h1] at hR
    cases hR
    exact ⟨G2, .refl e2, R.mono g2 h2⟩
end
section
variable {P : Program} {w : World} {K : Fg} {mg : Str → Option Value} {base : Heap} {C : Addr}
theorem c__law_gives (T : Txt K mg) : Callee P w K mg base CX0 2 "_law_gives" ["_law_edges_here", "_law_goal"] (FSp (fun a : Bk × Nat => BOk a.1 ∧ a.2 < 2 ^ a.1.n ∧ a.1.holdP a.2 = true) (fun a => [dt (.list ((edgesP a.1).map fun q => edgeD a.1 q.1 q.2)), dt (dM a.1 a.2)]) (fun a => givesT a.1 a.2)) := by
  have c__law_least := c__law_least (P := P) (w := w) (base := base) T
  refine callee T.d__law_gives sc__law_gives (fun _ _ _ _ _ _ us hl => match us, hl with | [_, _], _ => rfl) (fun _ => rfl) fun f cdv Ar outer s H0 E hr => ?_
  obtain ⟨hu0, hu, hu64, hu65⟩ := room0 hr
  refine ⟨_, (pss_one (ps_ret (pe_cl c__law_least hr pass0 (pa_cons (pe_lc (own := [("_law_one_here", 2), ("_law_step", 3), ("_law_later", 4), ("_law_cost_here", 5)]) rfl sc__law_gives.nd (pi_listK K (pv 0)) (blkOk_by (own := [("_law_one_here", 2), ("_law_step", 3), ("_law_later", 4), ("_law_cost_here", 5)]) (N := N__law_gives) (sc := defScope s__law_gives) (by decide +kernel)) (fun _ _ _ _ _ => (pg_tupK K (n := 4) (pgs_cons (pg_name (i := 2) sc__law_gives.nd rfl (Or.inl rfl)) (pgs_cons (pg_name (i := 3) sc__law_gives.nd rfl (Or.inl rfl)) (pgs_cons (pg_name (i := 4) sc__law_gives.nd rfl (Or.inl rfl)) (pgs_cons (pg_name (i := 5) sc__law_gives.nd rfl (Or.inl rfl)) pgs_nil)))))) (fun _ _ _ _ _ => pts_nil) (fun _ _ _ _ _ => (pe_tup (pa_cons (pv 2) (pa_cons (pv 3) (pa_cons (pv 4) (pa_cons (pe_callTy call_intU (by rfl) T.f_int (by decide +kernel) (pa_cons (pe_cmpR (op_eqK K hu64) (pe_ix (ix_seqK K) (pv 3) pe_int (fun _ _ => rfl)) pe_str (nomark _)) pa_nil)) pa_nil))))))) (pa_cons (pv 1) (pa_cons pe_bl pa_nil)))))), fun a vs G H D hP hA e q => ?_⟩
  obtain ⟨b, g⟩ := a
  obtain ⟨ok, hg, hgh⟩ := hP
  have ok : BOk b := ok
  obtain ⟨v, x, rfl, h1, h2⟩ := hA.two
  dsimp only at h1 h2 hg hgh
  refine k_ret (R := givesT b g) (ed_call (b, g) (ea_cons (ed_lc1 (xs := edgesP b) (Rx := fun q => dt (edgeD b q.1 q.2)) (f := gedgeD b) (ei_listM (ed_var (by rfl) h1)) (by have := edgesP_le ok; omega) fun q hq y G1 g1 ry => ?_) (ea_cons (ed_var (by rfl) h2) (ea_cons ed_bl ea_nil))) ⟨ok, hg, hgh⟩) e q
  obtain ⟨c, x1, x2, x3, x4, rfl, ec, y1, y2, y3, y4⟩ := dx_quad ry
  refine ⟨_, gt_tup4 ec, by rw [wipe_set (by simp), wipe_set (by simp), wipe_set (by simp), wipe_set (by simp), wipe_wipe], ?_⟩
  obtain ⟨rest, hd⟩ := q.2.dx b
  have y2' : Dx G1 x2 (.tuple (.str q.2.s :: rest)) := by rw [← hd]; exact y2
  refine ed_tup (ead_cons (ed_var (by rfl) y1) (ead_cons (ed_var (by rfl) y2) (ead_cons (ed_var (by rfl) y3) (ead_cons (ED.eq (ed_intB (ed_eqS (x := q.2.s) (y := "give") (ed_ixT (ed_var (by rfl) y2') ed_int at0) ed_str q.2.sw (by decide +kernel))) ?_) ead_nil)))) (by simp)
  have := q.2.sg
  rw [← this]
  congr 1
  by_cases h : q.2.s = "give" <;> simp [h]
end
end RT
end
section
set_option maxRecDepth 100000
set_option maxHeartbeats 4000000
/-! RTW28: odd values; how they are shown. -/
namespace RT
open PySem PySem.Spec PyProof.Rows L2
open Evl (Ex Ex.refl Ex.trans Ex.new Ex.mut)
/-! ### texts that can be compared -/
theorem sok_iff {a : Str} : PyData.strOk a = true ↔ ∀ c ∈ a.cps.toList, c < 0x110000 := by
  unfold PyData.strOk
  rw [← Array.all_toList, List.all_eq_true]
  exact ⟨fun h c hc => of_decide_eq_true (h c hc), fun h c hc => decide_eq_true (h c hc)⟩
theorem sok_app {a b : Str} (ha : PyData.strOk a = true) (hb : PyData.strOk b = true) : PyData.strOk (a ++ b) = true := by
  rw [sok_iff] at ha hb ⊢
  intro c hc
  have e : (a ++ b).cps.toList = a.cps.toList ++ b.cps.toList := by
    show (a.cps ++ b.cps).toList = _
    simp
  rw [e] at hc
  rcases List.mem_append.mp hc with h | h
  · exact ha c h
  · exact hb c h
theorem sok_join : ∀ {ts : List Str}, (∀ t ∈ ts, PyData.strOk t = true) → PyData.strOk (Str.join ", " ts) = true
  | [], _ => by decide +kernel
  | [x], h => h x List.mem_cons_self
  | x :: y :: r, h => by
    show PyData.strOk (x ++ ", " ++ Str.join ", " (y :: r)) = true
    exact sok_app (sok_app (h x List.mem_cons_self) (by decide +kernel)) (sok_join fun t ht => h t (List.mem_cons_of_mem _ ht))
theorem sok_from : ∀ {ts : List Str} {k : Nat} {acc : Str}, PyData.strOk acc = true → (∀ t ∈ ts, PyData.strOk t = true) → PyData.strOk (textFrom k acc ts) = true
  | [], _, _, h, _ => h
  | t :: ts, k, acc, h, h2 => by
    show PyData.strOk (textFrom (k + 1) (acc ++ (if k > 0 then ", " else "" : String) ++ t) ts) = true
    refine sok_from (sok_app (sok_app h ?_) (h2 t List.mem_cons_self)) fun u hu => h2 u (List.mem_cons_of_mem _ hu)
    split <;> decide +kernel
theorem sok_list {ts : List Str} (h : ∀ t ∈ ts, PyData.strOk t = true) : PyData.strOk (listText ts) = true := sok_app (sok_from (by decide +kernel) h) (by decide +kernel)
theorem sok_tuple {ts : List Str} (h : ∀ t ∈ ts, PyData.strOk t = true) : PyData.strOk (tupleText ts) = true := by
  unfold tupleText
  refine sok_app (sok_app (by decide +kernel) (sok_join h)) ?_
  split <;> decide +kernel
theorem sok_fold {q : Nat} : ∀ {l : List Nat} {acc : Array Nat}, (∀ c ∈ acc.toList, c < 0x110000) → (∀ c ∈ l, ∀ d ∈ Builtin.Str.reprChar q c, d < 0x110000) → ∀ c ∈ (l.foldl (fun out c => out ++ (Builtin.Str.reprChar q c).toArray) acc).toList, c < 0x110000
  | [], _, h, _ => h
  | x :: l, acc, h, h2 => by
    rw [List.foldl_cons]
    refine sok_fold (fun c hc => ?_) fun c hc => h2 c (List.mem_cons_of_mem _ hc)
    rw [Array.toList_append] at hc
    rcases List.mem_append.mp hc with z | z
    · exact h c z
    · exact h2 x List.mem_cons_self c (by simpa using z)
theorem word_cps {s : Str} (h : wordS s = true) : ∀ c ∈ s.cps.toList, c ∈ ("abcdefghijklmnopqrstuvwxyz" : Str).cps.toList := by
  unfold wordS at h
  simp only [Bool.and_eq_true, List.all_eq_true, decide_eq_true_eq] at h
  exact h.2
theorem sok_repr {s : Str} (h : wordS s = true) : PyData.strOk (reprText s) = true := by
  have hc := word_cps h
  have k : ∀ q, q = 34 ∨ q = 39 → ∀ c ∈ ("abcdefghijklmnopqrstuvwxyz" : Str).cps.toList, ∀ d ∈ Builtin.Str.reprChar q c, d < 0x110000 := by
    rintro q (rfl | rfl) <;> decide +kernel
  have hq : reprQuote s = 34 ∨ reprQuote s = 39 := by unfold reprQuote; split <;> simp
  rw [sok_iff]
  unfold reprText
  intro c hcm
  have hcm : c ∈ ((s.cps.foldl (fun out c => out ++ (Builtin.Str.reprChar (reprQuote s) c).toArray) #[reprQuote s]).push (reprQuote s)).toList := hcm
  rw [Array.toList_push] at hcm
  have hql : reprQuote s < 0x110000 := by rcases hq with e | e <;> rw [e] <;> decide
  rcases List.mem_append.mp hcm with z | z
  · rw [← Array.foldl_toList] at z
    refine sok_fold (q := reprQuote s) (acc := #[reprQuote s]) (fun c hc => ?_) (fun c hc' => k _ hq c (hc c hc')) c z
    have : c = reprQuote s := by simpa using hc
    rw [this]; exact hql
  · rw [List.mem_singleton.mp z]; exact hql
/-- data that is shown well -/
structure Good (d : PyData) : Prop where
  a : d.showable = true
  b : d.hasDict = false
  c : d.depth ≤ 8
  l : d.shown.length ≤ 100000
  s : PyData.strOk d.shown = true
inductive Leaf : PyData → Prop where
  | non : Leaf .none
  | zero : Leaf (.int 0)
  | one : Leaf (.int (-1))
  | tru : Leaf (.bool true)
  | wd {s : Str} : wordS s = true → Leaf (.str s)
  | nobody : Leaf (.str "nobody")
  | dig : Leaf (.str "1")
theorem word_len10 {s : Str} (h : wordS s = true) : (reprText s).length ≤ 82 := by
  have h1 := PySem.StrLaws.reprText_len s fun c hc => Nat.lt_trans ((show ∀ c ∈ ("abcdefghijklmnopqrstuvwxyz" : Str).cps.toList, c < 128 by decide +kernel) c (word_cps h c hc)) (by decide)
  have h2 := word_len h
  omega
theorem Leaf.good {d : PyData} (h : Leaf d) : d.showable = true ∧ d.hasDict = false ∧ d.depth = 0 ∧ d.shown.length ≤ 82 ∧ PyData.strOk d.shown = true := by
  cases h with
  | non => exact ⟨rfl, rfl, rfl, by decide +kernel, by decide +kernel⟩
  | zero => exact ⟨by decide +kernel, rfl, rfl, by decide +kernel, by decide +kernel⟩
  | one => exact ⟨by decide +kernel, rfl, rfl, by decide +kernel, by decide +kernel⟩
  | tru => exact ⟨rfl, rfl, rfl, by decide +kernel, by decide +kernel⟩
  | wd h => exact ⟨rfl, rfl, rfl, word_len10 h, sok_repr h⟩
  | nobody => exact ⟨rfl, rfl, rfl, by decide +kernel, by decide +kernel⟩
  | dig => exact ⟨rfl, rfl, rfl, by decide +kernel, by decide +kernel⟩
theorem leaves : ∀ {ds : List PyData}, (∀ d ∈ ds, Leaf d) → PyData.showableAll ds = true ∧ PyData.hasDictAll ds = false ∧ PyData.depthAll ds = 0 ∧ ((PyData.shownAll ds).map (·.length)).sum ≤ 82 * ds.length ∧ (PyData.shownAll ds).length = ds.length ∧ ∀ t ∈ PyData.shownAll ds, PyData.strOk t = true
  | [], _ => ⟨rfl, rfl, rfl, by simp [PyData.shownAll], rfl, by simp [PyData.shownAll]⟩
  | d :: ds, h => by
    obtain ⟨h1, h2, h3, h4, h5⟩ := (h d List.mem_cons_self).good
    obtain ⟨k1, k2, k3, k4, k5, k6⟩ := leaves fun e he => h e (List.mem_cons_of_mem _ he)
    refine ⟨by rw [PyData.showableAll, h1, k1]; rfl, by rw [PyData.hasDictAll, h2, k2]; rfl, by rw [PyData.depthAll, h3, k3]; rfl, ?_, by rw [PyData.shownAll, List.length_cons, List.length_cons, k5], ?_⟩
    · rw [PyData.shownAll, List.map_cons, List.sum_cons, List.length_cons]; omega
    · rw [PyData.shownAll]
      intro t ht
      rcases List.mem_cons.mp ht with z | z
      · rw [z]; exact h5
      · exact k6 t z
theorem Good.leaf {d : PyData} (h : Leaf d) : Good d := let ⟨h1, h2, h3, h4, h5⟩ := h.good; ⟨h1, h2, by omega, by omega, h5⟩
theorem Good.list {ds : List PyData} (h : ∀ d ∈ ds, Leaf d) (hl : ds.length ≤ 10) : Good (.list ds) := by
  obtain ⟨k1, k2, k3, k4, k5, k6⟩ := leaves h
  refine ⟨by rw [PyData.showable]; exact k1, by rw [PyData.hasDict]; exact k2, by rw [PyData.depth, k3]; decide, ?_, by rw [PyData.shown]; exact sok_list k6⟩
  rw [PyData.shown]
  have := listText_len_le (PyData.shownAll ds)
  omega
theorem Good.tuple {ds : List PyData} (h : ∀ d ∈ ds, Leaf d) (hl : ds.length ≤ 10) : Good (.tuple ds) := by
  obtain ⟨k1, k2, k3, k4, k5, k6⟩ := leaves h
  refine ⟨by rw [PyData.showable]; exact k1, by rw [PyData.hasDict]; exact k2, by rw [PyData.depth, k3]; decide, ?_, by rw [PyData.shown]; exact sok_tuple k6⟩
  rw [PyData.shown]
  have := tupleText_len_le (PyData.shownAll ds)
  omega
/-- what is told of a thing -/
inductive Shows : Rel → Str → Prop where
  | dat {d : PyData} : Good d → Shows (dt d) d.shown
  | emp : Shows (dkR []) (PyData.dict []).shown
theorem Shows.sok {R : Rel} {s : Str} (h : Shows R s) : PyData.strOk s = true := by
  cases h with
  | dat g => exact g.s
  | emp => decide +kernel
theorem ed_repr {σ : L2.St} {G : Hp} {te : TE} {R : Rel} {s : Str} {K : Fg} (h : ED te σ G R) (hs : Shows R s) : ED (tCB (rReprD K) (tCons te tNil)) σ G (dt (.str s)) := ed_cb1 h fun v G1 _ r H e Q q => by
  cases hs with
  | dat g => exact ⟨v, _, rfl, .inl ⟨(Dx.mono e r).dp, g.a, g.b, g.c, g.l⟩, q _ G1 H (.refl e) (.str _)⟩
  | emp =>
    obtain ⟨a, ws, rfl, ea, hk⟩ := r
    cases hk
    exact ⟨_, _, rfl, .inr ⟨rfl, a, rfl, e _ _ ea⟩, q _ G1 H (.refl e) (.str _)⟩
/-! ### odd builds -/
inductive OV where
  | non | zero | nam | lst | nobody | dup | tnon | dct | rev | bad (m : Nat)
def OV.gv (b : Bk) : OV → GV
  | .non => .bad (.ot "NoneType" (dt .none))
  | .zero => .bad (.ot "int" (dt (.int 0)))
  | .nam => .bad (.ot "str" (dt (.str (b.nm 0))))
  | .lst => .bad (.ot "list" (dt (.list [.str (b.nm 0)])))
  | .nobody => .bad (.tp [some "nobody"])
  | .dup => .bad (.tp [some (b.nm 0), some (b.nm 0)])
  | .tnon => .bad (.tp [none])
  | .dct => .bad (.ot "dict" (dkR []))
  | .rev => .bad (.tp [some (b.nm 1), some (b.nm 0)])
  | .bad m => .gd m
def OV.sh (b : Bk) : OV → PyData
  | .non => .none
  | .zero => .int 0
  | .nam => .str (b.nm 0)
  | .lst => .list [.str (b.nm 0)]
  | .nobody => .tuple [.str "nobody"]
  | .dup => .tuple [.str (b.nm 0), .str (b.nm 0)]
  | .tnon => .tuple [.none]
  | .dct => .dict []
  | .rev => .tuple [.str (b.nm 1), .str (b.nm 0)]
  | .bad m => dM b m
def odd8 : List OV := [.non, .zero, .nam, .lst, .nobody, .dup, .tnon, .dct]
def oddL (b : Bk) : List OV := odd8 ++ if 1 < b.n then [.rev] else []
def oddA (b : Bk) : List OV := oddL b ++ (badM b).map .bad
/-- a book as the law draws it -/
structure LOk (b : Bk) : Prop where
  ok : BOk b
  no : ("nobody" : Str) ∉ b.nms
section
variable {b : Bk}
theorem n1' (ok : BOk b) : 0 < b.n := ok.n1
theorem oddA_cases {o : OV} (h : o ∈ oddA b) : o ∈ odd8 ∨ (o = .rev ∧ 1 < b.n) ∨ ∃ m, o = .bad m ∧ m < 2 ^ b.n ∧ b.holdP m = false := by
  unfold oddA oddL at h
  rcases List.mem_append.mp h with h | h
  · rcases List.mem_append.mp h with h | h
    · exact .inl h
    · split at h
      · exact .inr (.inl ⟨List.mem_singleton.mp h, by assumption⟩)
      · cases h
  · obtain ⟨m, hm, rfl⟩ := List.mem_map.mp h
    unfold badM at hm
    have := List.mem_filter.mp (List.mem_of_mem_take hm)
    exact .inr (.inr ⟨m, rfl, mem_subsM.mp this.1, by simpa using this.2⟩)
theorem OV.shows (ok : BOk b) {o : OV} (h : o ∈ oddA b) : Shows ((o.gv b).R b) (o.sh b).shown := by
  have w0 := nm_word ok (n1' ok)
  have one : ∀ {d : PyData}, Leaf d → ∀ e ∈ [d], Leaf e := fun hd e he => by rw [List.mem_singleton.mp he]; exact hd
  have two : ∀ {d d' : PyData}, Leaf d → Leaf d' → ∀ e ∈ [d, d'], Leaf e := fun hd hd' e he => by
    rcases List.mem_cons.mp he with z | z
    · rw [z]; exact hd
    · rw [List.mem_singleton.mp z]; exact hd'
  rcases oddA_cases h with h | ⟨rfl, h1⟩ | ⟨m, rfl, h1, h2⟩
  · simp only [odd8, List.mem_cons, List.not_mem_nil, or_false] at h
    rcases h with rfl | rfl | rfl | rfl | rfl | rfl | rfl | rfl
    · exact .dat (.leaf .non)
    · exact .dat (.leaf .zero)
    · exact .dat (.leaf (.wd w0))
    · exact .dat (.list (one (.wd w0)) (by simp))
    · exact .dat (.tuple (one .nobody) (by decide))
    · exact .dat (.tuple (two (.wd w0) (.wd w0)) (by simp))
    · exact .dat (.tuple (one .non) (by decide))
    · exact .emp
  · exact .dat (.tuple (two (.wd (nm_word ok h1)) (.wd w0)) (by simp))
  · have g : Good (dM b m) := .tuple (fun d hd => by
      obtain ⟨s, hs, rfl⟩ := List.mem_map.mp hd
      obtain ⟨i, hi, rfl⟩ := List.mem_map.mp hs
      exact .wd (nm_word ok (List.mem_range.mp (List.mem_filter.mp hi).1))) (by rw [List.length_map]; have := bld_len5 (b := b) ok m; omega)
    exact .dat g
theorem rev_not (ok : BOk b) (h1 : 1 < b.n) : isB b [some (b.nm 1), some (b.nm 0)] = false := by
  unfold isB
  rw [Bool.and_eq_false_iff]
  right
  rw [decide_eq_false_iff_not]
  intro e
  have e2 : ordB b [some (b.nm 1), some (b.nm 0)] = [b.nm 1, b.nm 0] := by
    generalize ordB b [some (b.nm 1), some (b.nm 0)] = l at e
    match l, e with
    | [x, y], e => simp at e; rw [e.1, e.2]
    | [], e => simp at e
    | [x], e => simp at e
    | x :: y :: z :: r, e => simp at e
  unfold ordB at e2
  rw [nms_eq, List.filter_map] at e2
  have hp : ((List.range b.n).filter ((fun s => decide (some s ∈ [some (b.nm 1), some (b.nm 0)])) ∘ b.nm)).Pairwise (· < ·) := List.Pairwise.sublist List.filter_sublist List.pairwise_lt_range
  have hr : ∀ i ∈ ((List.range b.n).filter ((fun s => decide (some s ∈ [some (b.nm 1), some (b.nm 0)])) ∘ b.nm)), i < b.n := fun i hi => List.mem_range.mp (List.mem_filter.mp hi).1
  generalize ((List.range b.n).filter ((fun s => decide (some s ∈ [some (b.nm 1), some (b.nm 0)])) ∘ b.nm)) = l at e2 hp hr
  match l, e2 with
  | [i, j], e2 =>
    simp only [List.map_cons, List.map_nil, List.cons.injEq, and_true] at e2
    have hi := nm_inj ok (hr i (by simp)) h1 e2.1
    have hj := nm_inj ok (hr j (by simp)) (n1' ok) e2.2
    simp at hp
    omega
  | [], e2 => simp at e2
  | [x], e2 => simp at e2
  | x :: y :: z :: r, e2 => simp at e2
theorem OV.ok (lk : LOk b) {o : OV} (h : o ∈ oddA b) (CB : Addr) : (o.gv b).ok b ∧ (o.gv b).out b CB = .exc CB "build" ((o.gv b).R b) := by
  have ok := lk.ok
  have w8 : ∀ {s : Str}, wordS s = true → s.length ≤ 80000 := fun h => Nat.le_trans (word_len h) (by decide)
  have w0 := w8 (nm_word ok (n1' ok))
  have ty : ∀ (d : PyData) (T : String), tyD d = T → ∀ v G, (dt d).r v G → (tyR T).r v G := fun d T hT v G r => by rw [← hT]; exact Dx.ty r
  rcases oddA_cases h with h | ⟨rfl, h1⟩ | ⟨m, rfl, h1, h2⟩
  · simp only [odd8, List.mem_cons, List.not_mem_nil, or_false] at h
    rcases h with rfl | rfl | rfl | rfl | rfl | rfl | rfl | rfl
    · exact ⟨⟨⟨by decide, by decide, ty _ _ rfl⟩, rfl⟩, rfl⟩
    · exact ⟨⟨⟨by decide, by decide, ty _ _ rfl⟩, rfl⟩, rfl⟩
    · exact ⟨⟨⟨by decide, by decide, ty _ _ rfl⟩, rfl⟩, rfl⟩
    · exact ⟨⟨⟨by decide, by decide, ty _ _ rfl⟩, rfl⟩, rfl⟩
    · refine ⟨⟨⟨by simp, fun s hs => ?_⟩, ?_⟩, rfl⟩
      · have : s = "nobody" := by simpa using hs
        rw [this]; decide +kernel
      · show isB b [some "nobody"] = false
        unfold isB skB
        have : inB b (some "nobody") = false := by
          show (wordS "nobody" && decide (("nobody" : Str) ∈ b.nms)) = false
          rw [decide_eq_false lk.no, Bool.and_false]
        rw [List.all_cons, this]; rfl
    · refine ⟨⟨⟨by simp, fun s hs => ?_⟩, ?_⟩, rfl⟩
      · have : s = b.nm 0 := by simpa using hs
        rw [this]; exact w0
      · show isB b [some (b.nm 0), some (b.nm 0)] = false
        unfold isB skB
        have : decide ([some (b.nm 0), some (b.nm 0)].Nodup) = false := decide_eq_false (by simp)
        rw [this, Bool.and_false]; rfl
    · refine ⟨⟨⟨by simp, fun s hs => by simp at hs⟩, ?_⟩, rfl⟩
      show isB b [none] = false
      unfold isB skB
      rw [List.all_cons, show inB b none = false from rfl]; rfl
    · refine ⟨⟨⟨by decide, by decide, fun v G ⟨a, ws, h1, h2, _⟩ => ?_⟩, rfl⟩, rfl⟩
      rw [h1]; exact .dK h2
  · refine ⟨⟨⟨by simp, fun s hs => ?_⟩, rev_not ok h1⟩, rfl⟩
    have : s = b.nm 1 ∨ s = b.nm 0 := by simpa using hs
    rcases this with e | e
    · rw [e]; exact w8 (nm_word ok h1)
    · rw [e]; exact w0
  · refine ⟨h1, ?_⟩
    show (if b.holdP m = true then _ else _) = _
    rw [h2]; rfl
end
section
variable {P : Program} {w : World} {K : Fg} {mg : Str → Option Value} {base : Heap} {C : Addr}
theorem c__law_odd_builds (T : Txt K mg) : Callee P w K mg base CX0 2 "_law_odd_builds" ["_law_book_here"] (FSp BOk (fun b => [lawR b]) (fun b => lstR ((oddL b).map fun o => (o.gv b).R b))) := by
  have c__law_names := c__law_names (P := P) (w := w) (base := base) T
  refine callee T.d__law_odd_builds sc__law_odd_builds (fun _ _ _ _ _ _ us hl => match us, hl with | [_], _ => rfl) (fun _ => rfl) fun f cdv Ar outer s H0 E hr => ?_
  obtain ⟨hu0, hu, hu64, hu65⟩ := room0 hr
  refine ⟨_, (pss_cons (ps_set (i := 1) sc__law_odd_builds.nd rfl (Or.inl rfl) (pe_cl c__law_names hr pass0 (pa_cons (pv 0) pa_nil))) (pss_cons (ps_set (i := 2) sc__law_odd_builds.nd rfl (Or.inl rfl) (pe_lst (pa_cons pe_non (pa_cons pe_int (pa_cons (pe_ix (ix_seqK K) (pv 1) pe_int (fun _ _ => rfl)) (pa_cons (pe_callTy (call_listU K) (by rfl) T.f_list (by decide +kernel) (pa_cons (pe_slice (sl_listK K) (pv 1) po_none (po_some pe_int)) pa_nil)) (pa_cons (pe_tup (pa_cons pe_str pa_nil)) (pa_cons (pe_tup (pa_cons (pe_ix (ix_seqK K) (pv 1) pe_int (fun _ _ => rfl)) (pa_cons (pe_ix (ix_seqK K) (pv 1) pe_int (fun _ _ => rfl)) pa_nil))) (pa_cons (pe_tup (pa_cons pe_non pa_nil)) (pa_cons pe_dnewK pa_nil)))))))))) (pss_one (ps_ret (pe_op (op_addU K) (pv 2) (pe_op op_mulU (pe_lst (pa_cons (pe_callTy (call_tupleU K) (by rfl) T.f_tuple (by decide +kernel) (pa_cons (pe_revL (pe_slice (sl_listK K) (pv 1) po_none (po_some pe_int))) pa_nil)) pa_nil)) (pe_callTy call_intU (by rfl) T.f_int (by decide +kernel) (pa_cons (pe_cmpR op_gt1 (pe_callB (call_lenU K) (by rfl) T.f_len (by decide +kernel) (pa_cons (pv 1) pa_nil)) pe_int (nomark _)) pa_nil)))))))), fun b vs G H D ok hA e q => ?_⟩
  have ok : BOk b := ok
  obtain ⟨v, rfl, h1⟩ := hA.one
  have n0 := n1' ok
  refine k_asgS (R := dt (.list (b.nms.map .str))) (ed_call b (ea_cons (ed_var (by rfl) h1) ea_nil) ok) e fun nv G1 H1 s1 r1 => ?_
  have nv0 : ∀ {σ : L2.St} {G2}, σ[1]? = some (some nv) → Ex G1 G2 → ED (tVar 1) σ G2 (dt (.list (b.nms.map .str))) := fun hσ g => ed_var hσ (Dx.mono g r1)
  have i0 : atI (b.nms.map PyData.str) 0 = some (.str (b.nm 0)) := at_nat (j := 0) (by rw [List.getElem?_map, nm_get n0]; rfl)
  have cut : ∀ k : Nat, cutD (b.nms.map PyData.str) none (some (k : Int)) = (b.nms.take k).map PyData.str := fun k => by rw [cut_to, List.map_take]
  have t1 : (b.nms.take 1) = [b.nm 0] := by
    have h0 := nm_get n0
    cases hl : b.nms with
    | nil => rw [hl] at h0; cases h0
    | cons x l => rw [hl] at h0; simp at h0; simp [h0]
  refine k_asgS (R := lstR (odd8.map fun o => (o.gv b).R b)) (ed_lstR (ea_cons ed_non (ea_cons ed_int (ea_cons (ed_ixL (nv0 (by rfl) (Ex.refl _)) ed_int i0) (ea_cons (ED.eq (ed_listL (ed_slice (nv0 (by rfl) (Ex.refl _)) eo_none (eo_some (ed_int (i := ((1 : Nat) : Int)))))) (show _ = PyData.list [.str (b.nm 0)] by rw [cut, t1]; rfl)) (ea_cons (ED.eq (ed_tup (ead_cons ed_str ead_nil) (by simp)) (show _ = PyData.tuple ([some ("nobody" : Str)].map od) from rfl)) (ea_cons (ED.eq (ed_tup (ead_cons (ed_ixL (nv0 (by rfl) (Ex.refl _)) ed_int i0) (ead_cons (ed_ixL (nv0 (by rfl) (Ex.refl _)) ed_int i0) ead_nil)) (by simp)) (show _ = PyData.tuple ([some (b.nm 0), some (b.nm 0)].map od) from rfl)) (ea_cons (ED.eq (ed_tup (ead_cons ed_non ead_nil) (by simp)) (show _ = PyData.tuple ([none].map od) from rfl)) (ea_cons ed_dnew ea_nil)))))))) (by simp [odd8])) s1.i fun fv G2 H2 s2 r2 => ?_
  have s12 := s1.trans s2
  refine k_ret (R := lstR ((oddL b).map fun o => (o.gv b).R b)) (ED.is (ed_catR (Rs := odd8.map fun o => (o.gv b).R b) (Ss := (if 1 < b.n then [PyData.tuple [.str (b.nm 1), .str (b.nm 0)]] else []).map dt) (ed_var (by rfl) r2) (ed_lstOf (ED.eq (ed_rep (ed_lst (ead_cons (ed_tupL (ed_revL (ed_slice (nv0 (by rfl) s2.g) eo_none (eo_some (ed_int (i := ((2 : Nat) : Int))))))) ead_nil) (by simp)) (ed_intB (ed_gt (ed_lenL (nv0 (by rfl) s2.g)) ed_int)) (by split <;> decide) (by split <;> simp)) ?_)) ?_) ?_) s2.i fun v G3 H3 s3 r => q v G3 H3 (s12.trans s3) r
  · rw [cut, List.length_map, nms_len]
    by_cases h : 1 < b.n
    · have h0 := nm_get n0
      have h1' := nm_get h
      have t2 : b.nms.take 2 = [b.nm 0, b.nm 1] := by
        cases hl : b.nms with
        | nil => rw [hl] at h0; cases h0
        | cons x l =>
          cases l with
          | nil => rw [hl] at h1'; cases h1'
          | cons y l => rw [hl] at h0 h1'; simp at h0 h1'; simp [h0, h1']
      have hd : decide ((1 : Int) < (b.n : Int)) = true := decide_eq_true (by omega)
      rw [if_pos h, t2, hd]
      rfl
    · have hd : decide ((1 : Int) < (b.n : Int)) = false := decide_eq_false (by omega)
      rw [if_neg h, hd]
      rfl
  · rw [List.length_map, List.length_map]
    split <;> simp [odd8]
  · unfold oddL
    rw [List.map_append]
    congr 2
    split <;> rfl
end
end RT
end
section
set_option maxRecDepth 100000
set_option maxHeartbeats 4000000
/-! RTW29: the pool: made, taken from; one of; turned. -/
namespace RT
open PySem PySem.Spec PyProof.Rows L2
open Evl (Ex Ex.refl Ex.trans Ex.new Ex.mut)
/-- the script -/
def scrR (K : Fg) (ns : List Int) : Rel := ⟨fun v G => ∃ a, v = .ref a ∧ ∀ H, Ex G H → SqL K H a (ns.map V.int), fun e ⟨a, h1, h2⟩ => ⟨a, h1, fun H x => h2 H (e.trans x)⟩⟩
section
variable {σ : L2.St} {G : Hp} {ta tb te : TE} {K : Fg} {ns : List Int} {i c : Int}
theorem ed_lenScr (h : ED te σ G (scrR K ns)) : ED (tCB (rLenU K) (tCons te tNil)) σ G (dt (.int ns.length)) := ed_cb1 h fun v G1 _ ⟨a, hv, hs⟩ H e Q q => by
  subst hv
  refine .inl ⟨a, _, rfl, .inl (hs H e), ?_⟩
  rw [List.length_map]
  exact q _ G1 H (.refl e) (.int _)
theorem ed_ixScr (ha : ED ta σ G (scrR K ns)) (hb : ED tb σ G (dt (.int i))) (h : atI (ns.map V.int) i = some (.int c)) : ED (tOp (rIx K) ta tb) σ G (dt (.int c)) := ed_op ha hb fun x y G1 _ ⟨a, hv, hs⟩ r2 => by
  subst hv
  rw [Dx.int_inv r2]
  intro H e Q q
  exact .inl ⟨a, _, i, .int c, rfl, rfl, hs H e, h, q _ G1 H (.refl e) (.int _)⟩
end
theorem SP.forget {p l : Addr} {o : HO} {G H G1 H1 : Hp} (hg : G l = none) (s : SP p (upd G l o) H G1 H1) : SP p G H (wo G1 l) H1 where
  m := {
    g := fun a u e => by
      have ha : a ≠ l := fun z => by subst z; rw [hg] at e; cases e
      rw [wo_ne ha]
      exact s.m.g a u (by rw [upd_ne ha]; exact e)
    h := s.m.h
    e := s.m.e
    i := fun a u e => by
      by_cases ha : a = l
      · subst ha; rw [wo_same] at e; cases e
      · rw [wo_ne ha] at e; exact s.m.i a u e
    s := fun a h1 h2 => by
      by_cases ha : a = l
      · subst ha; exact wo_same
      · rw [wo_ne ha]
        exact s.m.s a h1 (by rw [upd_ne ha]; exact h2) }
  a := s.a
def PoolSp (K : Fg) : Sp := fun vs H Q _ => ∃ (ns : List Int) (k : Nat) (G : Hp), ns.length ≤ 63 ∧ k ≤ 3 ∧ Ex G H ∧ RAll [scrR K ns, dt (.int (k : Int))] vs G ∧ ∀ p G' H', Step G H G' H' → H p = none → G' p = none → PA p H' → Q (.ref p) H'
theorem k_retL {σ : L2.St} {G H : Hp} {D : Ends} {ta : TA} {ds : List PyData} (h : EAD ta σ G ds) (hl : ds.length ≤ 100000) (e : Ex G H) (q : ∀ p vs G' H', Step G H G' H' → H' p = none → DxA G' vs ds → D.rt (.ref p) (upd H' p (.lst vs))) : tRet (tLst ta) D σ H := h H e _ fun vs G1 H1 s r => ⟨by rw [r.length, List.length_map]; exact sz_of hl, fun p hp => q p vs G1 H1 s hp (RAll.dx r)⟩
theorem natI {i : Int} {n : Nat} (h0 : 0 ≤ i) (hn : i < n) : ∃ k : Nat, k < n ∧ i = (k : Int) := ⟨i.toNat, by omega, by omega⟩
section
variable {P : Program} {w : World} {K : Fg} {mg : Str → Option Value} {base : Heap} {C : Addr}
theorem c__law_pool (T : Txt K mg) : Callee P w K mg base CX0 1 "_law_pool" ["_law_script", "_law_k"] (PoolSp K) := by
  refine callee_sp T.d__law_pool sc__law_pool (fun _ _ _ _ _ _ us hl => match us, hl with | [_, _], _ => rfl) (fun vs H Q E h => by obtain ⟨_, _, _, _, _, _, h2, _⟩ := h; exact h2.length) fun f cdv Ar outer s H vs Q E hr h => ?_
  obtain ⟨hu0, hu, hu64, hu65⟩ := room0 hr
  refine ⟨_, (pss_cons (ps_set (i := 2) sc__law_pool.nd rfl (Or.inl rfl) pe_int) (pss_cons (ps_if (pt_cmpR (op_ltU K hu0) (pv 1) (pe_callB (call_lenU K) (by rfl) T.f_len (by decide +kernel) (pa_cons (pv 0) pa_nil)) (nomark _)) (pss_one (ps_set (i := 2) sc__law_pool.nd rfl (Or.inl rfl) (pe_ix (ix_seqK K) (pv 0) (pv 1) (fun _ _ => rfl)))) pss_nil) (pss_cons (ps_set (i := 3) sc__law_pool.nd rfl (Or.inl rfl) (pe_callB call_maxU (by rfl) T.f_max (by decide +kernel) (pa_cons (pe_callTy call_intU (by rfl) T.f_int (by decide +kernel) (pa_cons (pv 2) pa_nil)) (pa_cons (pe_callTy call_intU (by rfl) T.f_int (by decide +kernel) (pa_cons (pe_op op_sub1 (pe_un un_neg1 pe_int) (pv 2)) pa_nil)) pa_nil)))) (pss_cons (ps_set (i := 4) sc__law_pool.nd rfl (Or.inl rfl) (pe_op op_mod1 (pe_callTy call_intU (by rfl) T.f_int (by decide +kernel) (pa_cons (pe_op op_mulU (pe_op (op_addU K) (pe_op (op_addU K) (pe_op (op_addU K) (pe_op op_mod1 (pe_callTy call_intU (by rfl) T.f_int (by decide +kernel) (pa_cons (pv 3) pa_nil)) pe_int) (pe_op op_mulU (pe_op op_mulU pe_int (pv 1)) (pv 1))) (pe_op op_mulU pe_int (pv 1))) pe_int) pe_int) pa_nil)) pe_int)) (pss_one (ps_ret (pe_lst (pa_cons (pe_op op_mulU (pv 3) (pe_callTy call_intU (by rfl) T.f_int (by decide +kernel) (pa_cons (pe_cmpR op_ge1 (pv 3) (pe_op op_pow1 pe_int pe_int) (nomark _)) pa_nil))) (pa_cons (pv 4) pa_nil))))))))), ?_⟩
  obtain ⟨ns, k, G, hl, hk, e, hA, q⟩ := h
  obtain ⟨v, x, rfl, h1, h2⟩ := hA.two
  refine k_asgS (R := dt (.int 0)) ed_int e fun cv G1 H1 s1 r1 => ?_
  cases Dx.int_inv r1
  have kx : ∀ {σ : L2.St} {G2}, σ[1]? = some (some x) → Ex G G2 → ED (tVar 1) σ G2 (dt (.int (k : Int))) := fun hσ g => ed_var hσ (Dx.mono g h2)
  have rest : ∀ (c : Int) G2 H2, Step G H G2 H2 → ∀ tw : TS, (∀ (c : Int) G2 H2, Step G H G2 H2 → tw { nx := fun _ H' => Q .non H', rt := Q } [some v, some x, some (.int c), none, none] H2) → tw { nx := fun _ H' => Q .non H', rt := Q } [some v, some x, some (.int c), none, none] H2 := fun c G2 H2 s2 tw h => h c G2 H2 s2
  have main : ∀ (c : Int) G2 H2, Step G H G2 H2 → (tSeq (tAsg (tCB rMax2 (tCons (tCB rInt1 (tCons (tVar 2) tNil)) (tCons (tCB rInt1 (tCons (tOp rSubI (tUn rNeg (tC (.int 1))) (tVar 2)) tNil)) tNil))) (gName 3)) (tSeq (tAsg (tOp rModN (tCB rInt1 (tCons (tOp rMulU (tOp (rAddU K) (tOp (rAddU K) (tOp (rAddU K) (tOp rModN (tCB rInt1 (tCons (tVar 3) tNil)) (tC (.int 2147483629))) (tOp rMulU (tOp rMulU (tC (.int 7919)) (tVar 1)) (tVar 1))) (tOp rMulU (tC (.int 31)) (tVar 1))) (tC (.int 17))) (tC (.int 48271))) tNil)) (tC (.int 2147483647))) (gName 4)) (tRet (tLst (tCons (tOp rMulU (tVar 3) (tCB rInt1 (tCons (tOp rGe (tVar 3) (tOp rPow (tC (.int 10)) (tC (.int 18)))) tNil))) (tCons (tVar 4) tNil)))))) { nx := fun _ H' => Q .non H', rt := Q } ([some v, some x, some (.int c), none, none] : L2.St) H2 := fun c G2 H2 s2 => by
    refine k_asgS (R := dt (.int (if -1 - c > c then -1 - c else c))) (ed_max (ed_intI (ed_var (by rfl) (.int c))) (ed_intI (ed_subI (ed_neg ed_int) (ed_var (by rfl) (.int c))))) s2.i fun bv G3 H3 s3 r3 => ?_
    cases Dx.int_inv r3
    generalize hB : (if -1 - c > c then -1 - c else c) = B
    have hB0 : 0 ≤ B := by rw [← hB]; split <;> omega
    have s23 := s2.trans s3
    have mk : ∀ (a b : Int), -(2 ^ 64) < b → b < 2 ^ 64 → CMul a b := fun a b h1 h2 => .inr ⟨h1, h2⟩
    refine k_asgS (R := dt (.int (((B.fmod 2147483629 + 7919 * (k : Int) * (k : Int) + 31 * (k : Int) + 17) * 48271).fmod 2147483647))) (ed_mod (ed_intI (ed_mul (ed_add (ed_add (ed_add (ed_mod (ed_intI (ed_var (by rfl) (.int B))) ed_int (by decide)) (ed_mul (ed_mul ed_int (kx (by rfl) s23.g) (mk _ _ (by omega) (by omega))) (kx (by rfl) s23.g) (mk _ _ (by omega) (by omega)))) (ed_mul ed_int (kx (by rfl) s23.g) (mk _ _ (by omega) (by omega)))) ed_int) ed_int (mk _ _ (by decide) (by decide)))) ed_int (by decide)) s3.i fun mv G4 H4 s4 r4 => ?_
    cases Dx.int_inv r4
    generalize hM : ((B.fmod 2147483629 + 7919 * (k : Int) * (k : Int) + 31 * (k : Int) + 17) * 48271).fmod 2147483647 = M
    have hM0 : 0 ≤ M := by rw [← hM]; exact Int.fmod_nonneg_of_pos _ (by decide)
    have hM1 : M < 2147483647 := by rw [← hM]; exact Int.fmod_lt_of_pos _ (by decide)
    have s24 := s23.trans s4
    refine k_retL (ds := [.int (B * (if decide ((10 : Int) ^ (18 : Int).toNat ≤ B) = true then 1 else 0)), .int M]) (ead_cons (ed_mul (ed_var (by rfl) (.int B)) (ed_intB (ed_ge (ed_var (by rfl) (.int B)) (ed_pow ed_int ed_int ⟨by decide, by decide, by decide⟩))) (mk _ _ (by split <;> decide) (by split <;> decide))) (ead_cons (ed_var (by rfl) (.int M)) ead_nil)) (by simp) s4.i fun p ws G5 H5 s5 hp r5 => ?_
    have s25 := s24.trans s5
    refine q p G5 _ (s25.new hp) (ex_none s25.h hp) (ex_none s25.i hp) ?_
    cases r5 with | cons y1 t =>
    cases t with | cons y2 t =>
    cases t
    cases Dx.int_inv y1
    cases Dx.int_inv y2
    refine ⟨_, M, upd_same, ?_, hM0, hM1⟩
    split <;> simp [hB0]
  refine k_if (D := { nx := _, rt := _ }) (b := decide ((k : Int) < (ns.length : Int))) (et_test (ed_lt (kx (by rfl) s1.g) (ed_lenScr (ed_var (by rfl) ((scrR K ns).mono s1.g h1))))) s1.i (fun hb G2 H2 s2 => ?_) fun hb G2 H2 s2 => ?_
  · have hb := of_decide_eq_true hb
    have hlt : k < ns.length := by omega
    refine k_asg (R := dt (.int ns[k])) (ed_ixScr (ed_var (by rfl) ((scrR K ns).mono (s1.g.trans s2.g) h1)) (kx (by rfl) (s1.g.trans s2.g)) (at_nat (by rw [List.getElem?_map, List.getElem?_eq_getElem hlt]; rfl))) s2.i fun cv G3 H3 s3 r3 => ?_
    cases Dx.int_inv r3
    exact main _ G3 H3 ((s1.trans s2).trans s3)
  · exact main 0 G2 H2 (s1.trans s2)
theorem c__law_take (T : Txt K mg) : Callee P w K mg base CX0 1 "_law_take" ["_law_pool_here", "_law_bound"] (MSp (fun n : Nat => 1 ≤ n ∧ n < 1073741824) (fun n => [dt (.int (n : Int))]) (fun n => exR (fun k : Nat => k < n) (fun k => .int (k : Int)))) := by
  refine calleeM T.d__law_take sc__law_take (fun _ _ _ _ _ _ us hl => match us, hl with | [_, _], _ => rfl) (fun _ => rfl) fun f cdv Ar outer s H0 E hr => ?_
  obtain ⟨hu0, hu, hu64, hu65⟩ := room0 hr
  refine ⟨_, (pss_cons (ps_if (pt_cmpR op_gt1 (pe_ix (ix_seqK K) (pv 0) pe_int (fun _ _ => rfl)) pe_int (nomark _)) (pss_cons (ps_set (i := 2) sc__law_take.nd rfl (Or.inl rfl) (pe_op op_mod1 (pe_callTy call_intU (by rfl) T.f_int (by decide +kernel) (pa_cons (pe_ix (ix_seqK K) (pv 0) pe_int (fun _ _ => rfl)) pa_nil)) (pv 1))) (pss_cons (ps_asg (pe_op op_fdiv1 (pe_ix (ix_seqK K) (pv 0) pe_int (fun _ _ => rfl)) (pv 1)) (pg_sub (pv 0) pe_int set_list)) (pss_one (ps_ret (pv 2))))) pss_nil) (pss_cons (ps_asg (pe_op op_mod1 (pe_callTy call_intU (by rfl) T.f_int (by decide +kernel) (pa_cons (pe_op (op_addU K) (pe_op op_mulU (pe_ix (ix_seqK K) (pv 0) pe_int (fun _ _ => rfl)) pe_int) pe_int) pa_nil)) pe_int) (pg_sub (pv 0) pe_int set_list)) (pss_one (ps_ret (pe_op op_mod1 (pe_callTy call_intU (by rfl) T.f_int (by decide +kernel) (pa_cons (pe_op op_fdiv1 (pe_op op_mod1 (pe_callTy call_intU (by rfl) T.f_int (by decide +kernel) (pa_cons (pe_op op_mulU (pe_ix (ix_seqK K) (pv 0) pe_int (fun _ _ => rfl)) (pe_ix (ix_seqK K) (pv 0) pe_int (fun _ _ => rfl))) pa_nil)) pe_int) pe_int) pa_nil)) (pv 1)))))), fun n p vs G H D hP hA e q => ?_⟩
  obtain ⟨x, rfl, h1⟩ := hA.one
  obtain ⟨hn1, hn2⟩ := hP
  have hn1 : 1 ≤ n := hn1
  have hn2 : n < 1073741824 := hn2
  obtain ⟨i, j, hp, hi, hj, hj2⟩ := e.a
  have gup : ∀ {G' : Hp} {o : HO}, G' p = none → Ex G' (upd G' p o) := fun h => Ex.new h
  have pk : ∀ {σ : L2.St} {G' : Hp} {i j : Int}, σ[0]? = some (some (.ref p)) → G' p = some (.lst [.int i, .int j]) → ED (tVar 0) σ G' (dt (.list [.int i, .int j])) := fun hσ h => ed_var hσ (.lst h (.cons (.int _) (.cons (.int _) .nil)))
  have nx : ∀ {σ : L2.St} {G'}, σ[1]? = some (some x) → Ex G G' → ED (tVar 1) σ G' (dt (.int (n : Int))) := fun hσ g => ed_var hσ (Dx.mono g h1)
  have np := e.n
  refine k_if (D := { D with nx := _ }) (b := decide ((0 : Int) < i)) (et_test (ed_gt (ed_ixL (pk (by rfl) (upd_same (H := G))) ed_int at0) ed_int)) (ex_while e.e hp) (fun hb G1 H1 s1 => ?_) fun hb G1 H1 s1 => ?_
  · have p1 : G1 p = some (.lst [.int i, .int j]) := s1.g _ _ upd_same
    have g1 : Ex G G1 := (gup np).trans s1.g
    refine k_asgS (R := dt (.int (i.fmod n))) (ed_mod (ed_intI (ed_ixL (pk (by rfl) p1) ed_int at0)) (nx (by rfl) g1) (by omega)) s1.i fun rv G2 H2 s2 r2 => ?_
    cases Dx.int_inv r2
    refine (ed_fdiv (ed_ixL (pk (by rfl) (s2.g _ _ p1)) ed_int at0) (nx (by rfl) (g1.trans s2.g)) ⟨by omega, by omega⟩) H2 s2.i _ fun dv G3 H3 s3 r3 => ?_
    cases Dx.int_inv r3
    have st := ((s1.trans s2).trans s3)
    have s' := Step.forget np st
    refine ⟨.ref p, rfl, p, [.int i, .int j], 0, 0, rfl, rfl, s'.h _ _ hp, rfl, ?_⟩
    have hf0 : 0 ≤ i.fmod n := Int.fmod_nonneg_of_pos _ (by omega)
    obtain ⟨k, hk, ek⟩ := natI (n := n) hf0 (Int.fmod_lt_of_pos _ (by omega))
    refine ⟨_, rfl, q _ (wo G3 p) _ ⟨s'.m.put rfl wo_same, i.fdiv n, j, upd_same, Int.fdiv_nonneg hi (by omega), hj, hj2⟩ ⟨k, hk, ?_⟩⟩
    rw [ek]
    exact .int _
  · have p1 : G1 p = some (.lst [.int i, .int j]) := s1.g _ _ upd_same
    refine (ed_mod (ed_intI (ed_add (ed_mul (ed_ixL (pk (σ := [some (.ref p), some x, none]) (by rfl) p1) (ed_int (i := 1)) at1) (ed_int (i := 39373)) (.inr ⟨by decide, by decide⟩)) (ed_int (i := 7)))) (ed_int (i := 2147483647)) (by decide)) H1 s1.i _ fun mv G2 H2 s2 r2 => ?_
    cases Dx.int_inv r2
    have s' := Step.forget np (s1.trans s2)
    refine ⟨.ref p, rfl, p, [.int i, .int j], 1, 1, rfl, rfl, s'.h _ _ hp, rfl, ?_⟩
    generalize hM : (j * 39373 + 7).fmod 2147483647 = M
    have hM0 : 0 ≤ M := by rw [← hM]; exact Int.fmod_nonneg_of_pos _ (by decide)
    have hM1 : M < 2147483647 := by rw [← hM]; exact Int.fmod_lt_of_pos _ (by decide)
    have S1 : SP p G H (wo G2 p) (upd H2 p (.lst [.int i, .int M])) := ⟨s'.m.put rfl wo_same, i, M, upd_same, hi, hM0, hM1⟩
    have p3 : (upd (wo G2 p) p (.lst [.int i, .int M])) p = some (.lst [.int i, .int M]) := upd_same
    have g3 : Ex G (upd (wo G2 p) p (.lst [.int i, .int M])) := S1.g.trans (gup wo_same)
    refine k_ret (R := dt (.int ((((M * M).fmod 2147483629).fdiv 32).fmod n))) (ed_mod (ed_intI (ed_fdiv (ed_mod (ed_intI (ed_mul (ed_ixL (pk (by rfl) p3) ed_int at1) (ed_ixL (pk (by rfl) p3) ed_int at1) (.inr ⟨by omega, by omega⟩))) ed_int (by decide)) ed_int ⟨by decide, by decide⟩)) (nx (by rfl) g3) (by omega)) (ex_while S1.i upd_same) fun v G4 H4 s4 r4 => ?_
    have s4' := Step.forget wo_same s4
    refine q v _ H4 (S1.step s4') ?_
    obtain ⟨k, hk, ek⟩ := natI (n := n) (i := (((M * M).fmod 2147483629).fdiv 32).fmod n) (Int.fmod_nonneg_of_pos _ (by omega)) (Int.fmod_lt_of_pos _ (by omega))
    cases Dx.int_inv r4
    refine ⟨k, hk, ?_⟩
    rw [ek]
    exact .int _
theorem c__law_one (T : Txt K mg) : Callee P w K mg base CX0 2 "_law_one" ["_law_pool_here", "_law_things"] (MSp (fun ds : List PyData => ds ≠ [] ∧ ds.length < 1073741824) (fun ds => [dt (.list ds)]) (fun ds => exR (fun d => d ∈ ds) (fun d => d))) := by
  have c__law_take := c__law_take (P := P) (w := w) (base := base) T
  refine calleeM T.d__law_one sc__law_one (fun _ _ _ _ _ _ us hl => match us, hl with | [_, _], _ => rfl) (fun _ => rfl) fun f cdv Ar outer s H0 E hr => ?_
  obtain ⟨hu0, hu, hu64, hu65⟩ := room0 hr
  refine ⟨_, (pss_one (ps_ret (pe_ix (ix_seqK K) (pv 1) (pe_cl c__law_take hr pass0 (pa_cons (pv 0) (pa_cons (pe_callB (call_lenU K) (by rfl) T.f_len (by decide +kernel) (pa_cons (pv 1) pa_nil)) pa_nil))) (fun _ _ => rfl)))), fun ds p vs G H D hP hA e q => ?_⟩
  obtain ⟨x, rfl, h1⟩ := hA.one
  obtain ⟨hn1, hn2⟩ := hP
  have hn1 : ds ≠ [] := hn1
  have hpos : 0 < ds.length := List.length_pos_iff.mpr hn1
  refine kp_ret (R := exR (fun d => d ∈ ds) (fun d => d)) (edm_op (S1 := dt (.list ds)) (S2 := exR (fun k : Nat => k < ds.length) (fun k => .int (k : Int))) (.of (ed_var (by rfl) h1)) (edm_call ds.length (eam_cons (.of (ed_ref (by rfl))) (eam_cons (.of (ed_lenL (ed_var (by rfl) h1))) eam_nil)) ⟨hpos, hn2⟩) fun v y G1 g r1 ⟨k, hk, r2⟩ => ?_) e q
  exact (ed_ixL (ed_c r1) (ed_c r2) (at_nat (List.getElem?_eq_getElem hk))).imp fun v G2 r => ⟨_, List.getElem_mem hk, r⟩
end
end RT
end
section
set_option maxRecDepth 100000
set_option maxHeartbeats 4000000
/-! RTW30: turned. -/
namespace RT
open PySem PySem.Spec PyProof.Rows L2
open Evl (Ex Ex.refl Ex.trans Ex.new Ex.mut)
theorem perm_out {α : Type} : ∀ {l : List α} {i : Nat} (h : i < l.length), (l[i] :: l.eraseIdx i).Perm l
  | [], _, h => by cases h
  | a :: l, 0, _ => .refl _
  | a :: l, i + 1, h => by
    have hi : i < l.length := by simpa using h
    have ih := perm_out (l := l) (i := i) hi
    exact (List.Perm.swap a l[i] (l.eraseIdx i)).trans (ih.cons a)
def takeR (n : Nat) : Rel := exR (fun k : Nat => k < n) (fun k => .int (k : Int))
abbrev TakeSp : Sp := MSp (fun n : Nat => 1 ≤ n ∧ n < 1073741824) (fun n => [dt (.int (n : Int))]) (fun n => exR (fun k : Nat => k < n) (fun k => .int (k : Int)))
theorem edm_take {p : Addr} {σ : L2.St} {G : Hp} {t1 t2 : TE} {E : XK} {n : Nat} (h1 : ED t1 σ G (refR p)) (h2 : ED t2 σ G (dt (.int (n : Int)))) (hn : 1 ≤ n) (hn2 : n < 1073741824 := by decide) : EDM p (tCall TakeSp [] E (tCons t1 (tCons t2 tNil))) σ G (takeR n) := edm_call n (eam_cons (.of h1) (eam_cons (.of h2) eam_nil)) ⟨hn, hn2⟩
abbrev OneSp : Sp := MSp (fun ds : List PyData => ds ≠ [] ∧ ds.length < 1073741824) (fun ds => [dt (.list ds)]) (fun ds => exR (fun d => d ∈ ds) (fun d => d))
def oneR (ds : List PyData) : Rel := exR (fun d => d ∈ ds) (fun d => d)
theorem edm_one {p : Addr} {σ : L2.St} {G : Hp} {t1 t2 : TE} {E : XK} {ds : List PyData} (h1 : ED t1 σ G (refR p)) (h2 : ED t2 σ G (dt (.list ds))) (hn : ds ≠ []) (hl : ds.length < 1073741824 := by decide) : EDM p (tCall OneSp [] E (tCons t1 (tCons t2 tNil))) σ G (oneR ds) := edm_call ds (eam_cons (.of h1) (eam_cons (.of h2) eam_nil)) ⟨hn, hl⟩
abbrev TurnSp : Sp := MSp (fun ds : List PyData => ds.length ≤ 5000 ∧ ∀ d ∈ ds, Sh 3 d) (fun ds => [dt (.list ds)]) (fun ds => exR (fun ds' : List PyData => ds'.Perm ds) .list)
def turnR (ds : List PyData) : Rel := exR (fun ds' : List PyData => ds'.Perm ds) .list
theorem edm_turn {p : Addr} {σ : L2.St} {G : Hp} {t1 t2 : TE} {E : XK} {ds : List PyData} (h1 : ED t1 σ G (refR p)) (h2 : ED t2 σ G (dt (.list ds))) (hl : ds.length ≤ 5000) (hs : ∀ d ∈ ds, Sh 3 d) : EDM p (tCall TurnSp [] E (tCons t1 (tCons t2 tNil))) σ G (turnR ds) := edm_call ds (eam_cons (.of h1) (eam_cons (.of h2) eam_nil)) ⟨hl, hs⟩
section
variable {P : Program} {w : World} {K : Fg} {mg : Str → Option Value} {base : Heap} {C : Addr}
theorem c__law_turned (T : Txt K mg) : Callee P w K mg base CX0 2 "_law_turned" ["_law_pool_here", "_law_things"] TurnSp := by
  have c__law_take := c__law_take (P := P) (w := w) (base := base) T
  refine calleeM T.d__law_turned sc__law_turned (fun _ _ _ _ _ _ us hl => match us, hl with | [_, _], _ => rfl) (fun _ => rfl) fun f cdv Ar outer s H0 E hr => ?_
  obtain ⟨hu0, hu, hu64, hu65⟩ := room0 hr
  refine ⟨_, (pss_cons (ps_par (i := 2) (j := 3) rfl sc__law_turned.nd rfl rfl (by decide) rfl rfl (pa_cons (pe_callTy (call_listU K) (by rfl) T.f_list (by decide +kernel) (pa_cons (pv 1) pa_nil)) (pa_cons (pe_lst pa_nil) pa_nil)) rfl) (pss_cons (ps_while PassesOwn.never (pt_cmpR (op_neK K hu64) (pv 2) (pe_lst pa_nil) (nomark _)) (pss_one (ps_expr (pe_bm PySem.F.plainAttrs_list PySem.F.slot_list_append PySem.F.type_list_append mt_append (pv 3) (pa_cons (pe_bm PySem.F.plainAttrs_list PySem.F.slot_list_pop PySem.F.type_list_pop mt_popAt (pv 2) (pa_cons (pe_cl c__law_take hr pass0 (pa_cons (pv 0) (pa_cons (pe_callB (call_lenU K) (by rfl) T.f_len (by decide +kernel) (pa_cons (pv 2) pa_nil)) pa_nil))) pa_nil)) pa_nil))))) (pss_one (ps_ret (pv 3))))), fun ds p vs G H D hP hA e q => ?_⟩
  obtain ⟨x, rfl, h1⟩ := hA.one
  obtain ⟨hlen, hsh⟩ := hP
  have hlen : ds.length ≤ 5000 := hlen
  have hsh : ∀ d ∈ ds, Sh 3 d := hsh
  obtain ⟨xa, xs, rfl, exa, hxs⟩ := Dx.list_inv h1
  refine ⟨.ref xa, rfl, xa, xs, rfl, .inl (SqL.of (e.e _ _ exa)), fun l hl => ⟨by show 0 ≤ sizeLine; exact Nat.zero_le _, fun fo hf => ⟨_, _, rfl, ?_⟩⟩⟩
  have lp : l ≠ p := e.a.ne hl
  have fl : fo ≠ l := fun z => by rw [z, upd_same] at hf; cases hf
  have hf0 : H fo = none := by rw [upd_ne fl] at hf; exact hf
  have fp : fo ≠ p := e.a.ne hf0
  have gl : G l = none := ex_none e.e hl
  have gf : G fo = none := ex_none e.e hf0
  have S1 : SP p G H G (upd (upd H l (.lst xs)) fo (.lst [])) := ((SP.refl e).mut e.a hl gl).mut e.a hf0 gf
  show tSeq (tWhile _ _) (tRet (tVar 3)) D ([some (.ref p), some (.ref xa), some (.ref l), some (.ref fo)] : L2.St) _
  refine k_whileM (D := { D with nx := tRet (tVar 3) D }) (fun m σ G' H' => σ = [some (.ref p), some (.ref xa), some (.ref l), some (.ref fo)] ∧ SP p G H G' H' ∧ G' l = none ∧ G' fo = none ∧ ∃ vs ws d1 d2, H' l = some (.lst vs) ∧ DxA G' vs d1 ∧ H' fo = some (.lst ws) ∧ DxA G' ws d2 ∧ (d2 ++ d1).Perm ds ∧ d1.length = m)
    ⟨ds.length, G, rfl, S1, gl, gf, xs, [], ds, [], by rw [upd_ne (Ne.symm fl), upd_same], hxs, upd_same, .nil, .refl _, rfl⟩ ?_
  rintro m σ G' H' ⟨rfl, sI, nl, nf, us, ws, d1, d2, hl', xl, hf', xf, hp, rfl⟩
  have eI := e.go sI
  have hd1 : ∀ d ∈ d1, d ∈ ds := fun d hd => hp.subset (List.mem_append_right _ hd)
  have hlen1 : d1.length ≤ 5000 := by have := hp.length_eq; rw [List.length_append] at this; omega
  have hlen2 : d2.length ≤ 5000 := by have := hp.length_eq; rw [List.length_append] at this; omega
  refine ⟨upd G' l (.lst us), !decide (d1 = []), ex_while sI.i hl', ET.eq (et_test (ed_ne (ed_var (by rfl) (.lst upd_same (xl.mono (Ex.new nl)))) (ed_lst ead_nil (by simp)) (Sh.list (k := 3) fun d hd => hsh d (hd1 d hd)).shaped rfl)) (by rw [eqv_nilL]), fun hb G1 H1 s1 => ?_, fun hb G1 H1 s1 => ?_⟩
  · have hne : d1 ≠ [] := by simpa using hb
    have hpos : 0 < d1.length := List.length_pos_iff.mpr hne
    have s1' := s1.forget nl
    have sJ := sI.step s1'
    have eJ := e.go sJ
    have l1 := s1'.h _ _ hl'
    have f1 := s1'.h _ _ hf'
    have nf1 := s1'.s fo (sm_none hf') nf
    have kl : Ex (wo G1 l) (upd (wo G1 l) l (.lst us)) := Ex.new wo_same
    refine ⟨.ref fo, rfl, .inl ⟨rfl, ws, SqL.of f1⟩, .ref l, rfl, .inl ⟨rfl, us, SqL.of l1⟩, ?_⟩
    have hPH : PH p (upd (wo G1 l) l (.lst us)) H1 := ⟨ex_while eJ.e l1, by rw [upd_ne (Ne.symm lp)]; exact eJ.n, eJ.a⟩
    refine (edm_take (n := d1.length) (ed_ref (by rfl)) (ed_lenL (ed_var (by rfl) (.lst upd_same (xl.mono (s1'.g.trans kl))))) hpos (by omega) : EDM p _ ([some (.ref p), some (.ref xa), some (.ref l), some (.ref fo)] : L2.St) _ _) H1 hPH _ fun y G2 H2 s2 ⟨k, hk, r2⟩ => ?_
    cases Dx.int_inv r2
    have s2' := s2.forget wo_same
    have l2 := s2'.h lp l1
    have f2 := s2'.h fp f1
    have nf2 := s2'.s f1 nf1
    have xl2 := xl.mono (s1'.g.trans s2'.g)
    have xf2 := xf.mono (s1'.g.trans s2'.g)
    obtain ⟨z, hz, rz⟩ := xl2.get (List.getElem?_eq_getElem hk)
    have sK := sJ.trans s2'
    refine ⟨l, us, (k : Int), k, z, rfl, rfl, l2, by omega, by omega, ?_, hz, ?_⟩
    · rw [xl2.length]
      have := PySem.seqIndex_of (k := (k : Int)) (n := d1.length) (by omega) (by omega)
      simpa using this
    · have f3 : (upd H2 l (.lst (us.eraseIdx k))) fo = some (.lst ws) := by rw [upd_ne fl]; exact f2
      refine ⟨fo, ws, z, rfl, rfl, f3, by rw [xf2.length]; exact sz_lt (by omega), (d1.eraseIdx k).length, wo G2 l, ?_, rfl, (sK.mut e.a hl wo_same).mut e.a hf0 nf2, wo_same, nf2, us.eraseIdx k, ws ++ [z], d1.eraseIdx k, d2 ++ [d1[k]], ?_, xl2.eraseIdx k, upd_same, xf2.append (.cons rz .nil), ?_, rfl⟩
      · rw [List.length_eraseIdx_of_lt hk]; omega
      · rw [upd_ne (Ne.symm fl), upd_same]
      · rw [List.append_assoc]
        exact ((perm_out hk).append_left d2).trans hp
  · have he : d1 = [] := by simpa using hb
    subst he
    have s1' := s1.forget nl
    have sJ := (sI.step s1').pub hf0 (s1'.s fo (sm_none hf') nf) (s1'.h _ _ hf')
    rw [List.append_nil] at hp
    refine k_ret (R := dt (.list d2)) (ed_var (by rfl) (.lst upd_same (xf.mono (s1'.g.trans (Ex.new (s1'.s fo (sm_none hf') nf)))))) sJ.i fun v G6 H6 s6 r => q v G6 H6 (sJ.step s6) ⟨d2, hp, r⟩
end
end RT
end
section
set_option maxRecDepth 100000
set_option maxHeartbeats 4000000
/-! RTW31: a drawn tree. -/
namespace RT
open PySem PySem.Spec PyProof.Rows L2
open Evl (Ex Ex.refl Ex.trans Ex.new Ex.mut)
def namA : List Str := ["a", "b", "c", "d", "e", "f", "g"]
def namB : List Str := ["z", "ab", "abcdefgh", "a", "need", "skill", "all"]
def rowD (p : Str × Nat) : PyData := .tuple [.str p.1, .int (p.2 : Int)]
def pairD (p : Nat × Nat) : PyData := .tuple [.int (p.1 : Int), .int (p.2 : Int)]
def treeD (t : List (Str × Nat) × List (Nat × Nat)) : PyData := .list [.list (t.1.map rowD), .list (t.2.map pairD)]
structure TrOk (t : List (Str × Nat) × List (Nat × Nat)) : Prop where
  n1 : 1 ≤ t.1.length
  n5 : t.1.length ≤ 5
  wd : ∀ r ∈ t.1, wordS r.1 = true ∧ r.1 ≠ "nobody"
  nd : (t.1.map (·.1)).Nodup
  tr : ∀ r ∈ t.1, 1 ≤ r.2 ∧ r.2 ≤ 4
  ts : (t.1.map (·.2)).Pairwise (· ≤ ·)
  nl : t.2.length ≤ 3
  no : ∀ p ∈ t.2, 2 ≤ p.1 ∧ p.1 ≤ 4 ∧ p.2 ≤ 12
  nsd : (t.2.map (·.1)).Pairwise (· < ·)
theorem nam_ok {ns : List Str} (h : ns = namA ∨ ns = namB) : ns.length = 7 ∧ (∀ s ∈ ns, wordS s = true ∧ s ≠ "nobody") ∧ ns.Nodup := by
  rcases h with rfl | rfl
  · exact ⟨rfl, by decide +kernel, by decide +kernel⟩
  · exact ⟨rfl, by decide +kernel, by decide +kernel⟩
theorem ed_addN {σ : L2.St} {G : Hp} {ta tb : TE} {K : Fg} {i j : Nat} (ha : ED ta σ G (dt (.int (i : Int)))) (hb : ED tb σ G (dt (.int (j : Int)))) : ED (tOp (rAddU K) ta tb) σ G (dt (.int ((i + j : Nat) : Int))) := ED.eq (ed_add ha hb) (by simp)
/-- x = [], not known yet -/
theorem k_ownS {σ : L2.St} {H : Hp} {D : Ends} {tw : TS} {k : Nat} (q : ∀ r, H r = none → tw D (σ.set k (some (.ref r))) (upd H r (.lst []))) : tSeq (tAsg (tLst tNil) (gName k)) tw D σ H := ⟨Nat.zero_le _, fun r hr => q r hr⟩
theorem kp_iff {p : Addr} {t : TT} {σ : L2.St} {G H : Hp} {D : Ends} {ts tw : TS} {B : Bool → Prop} (h : ETM p t σ G B) (e : PH p G H) (q1 : ∀ G' H', SP p G H G' H' → B true → ts D σ H') (q2 : ∀ G' H', SP p G H G' H' → B false → tw D σ H') : tIfS t ts tw D σ H := h H e _ fun b G1 H1 s hb => by
  cases b with
  | true => exact q1 G1 H1 s hb
  | false => exact q2 G1 H1 s hb
/-- one of some small numbers -/
theorem one_nat {v : V} {G : Hp} {l : List Nat} (h : (oneR (l.map fun i : Nat => PyData.int (i : Int))).r v G) : ∃ i, i ∈ l ∧ v = .int (i : Int) := by
  obtain ⟨d, hd, r⟩ := h
  obtain ⟨i, hi, rfl⟩ := List.mem_map.mp hd
  exact ⟨i, hi, Dx.int_inv r⟩
section
variable {P : Program} {w : World} {K : Fg} {mg : Str → Option Value} {base : Heap} {C : Addr}
theorem c__law_tree (T : Txt K mg) : Callee P w K mg base CX0 3 "_law_tree" ["_law_pool_here", "_law_top"] (MSp (fun _ : Unit => True) (fun _ => [dt (.int ((5 : Nat) : Int))]) (fun _ => exR TrOk treeD)) := by
  have c__law_take := c__law_take (P := P) (w := w) (base := base) T
  have c__law_one := c__law_one (P := P) (w := w) (base := base) T
  refine calleeM T.d__law_tree sc__law_tree (fun _ _ _ _ _ _ us hl => match us, hl with | [_, _], _ => rfl) (fun _ => rfl) fun f cdv Ar outer s H0 E hr => ?_
  obtain ⟨hu0, hu, hu64, hu65⟩ := room0 hr
  refine ⟨_, (pss_cons (ps_set (i := 2) sc__law_tree.nd rfl (Or.inl rfl) (pe_cl c__law_one hr pass0 (pa_cons (pv 0) (pa_cons (pe_lst (pa_cons (pe_lst (pa_cons pe_str (pa_cons pe_str (pa_cons pe_str (pa_cons pe_str (pa_cons pe_str (pa_cons pe_str (pa_cons pe_str pa_nil)))))))) (pa_cons (pe_lst (pa_cons pe_str (pa_cons pe_str (pa_cons pe_str (pa_cons pe_str (pa_cons pe_str (pa_cons pe_str (pa_cons pe_str pa_nil)))))))) pa_nil))) pa_nil)))) (pss_cons (ps_par (i := 3) (j := 4) rfl sc__law_tree.nd rfl rfl (by decide) rfl rfl (pa_cons (pe_op (op_addU K) pe_int (pe_callTy call_intU (by rfl) T.f_int (by decide +kernel) (pa_cons (pe_cmpR (op_eqK K hu64) (pe_cl c__law_take hr pass0 (pa_cons (pv 0) (pa_cons pe_int pa_nil))) pe_int (nomark _)) pa_nil))) (pa_cons (pe_lst pa_nil) pa_nil)) rfl) (pss_cons (ps_for PassesOwn.never rfl (pi_listK K (pe_slice (sl_listK K) (pv 2) po_none (po_some (pe_op (op_addU K) pe_int (pe_cl c__law_take hr pass0 (pa_cons (pv 0) (pa_cons (pv 1) pa_nil))))))) (pg_name (i := 5) sc__law_tree.nd rfl (Or.inl rfl)) (pss_cons (ps_expr (pe_bm PySem.F.plainAttrs_list PySem.F.slot_list_append PySem.F.type_list_append mt_append (pv 4) (pa_cons (pe_tup (pa_cons (pv 5) (pa_cons (pv 3) pa_nil))) pa_nil))) (pss_one (ps_set (i := 3) sc__law_tree.nd rfl (Or.inl rfl) (pe_callB (call_minU K) (by rfl) T.f_min (by decide +kernel) (pa_cons pe_int (pa_cons (pe_op (op_addU K) (pe_callTy call_intU (by rfl) T.f_int (by decide +kernel) (pa_cons (pv 3) pa_nil)) (pe_cl c__law_one hr pass0 (pa_cons (pv 0) (pa_cons (pe_lst (pa_cons pe_int (pa_cons pe_int (pa_cons pe_int (pa_cons pe_int (pa_cons pe_int pa_nil)))))) pa_nil)))) pa_nil))))))) (pss_cons (ps_set (i := 6) sc__law_tree.nd rfl (Or.inl rfl) (pe_lst pa_nil)) (pss_cons (ps_for PassesOwn.never rfl (pi_listK K (pe_lst (pa_cons pe_int (pa_cons pe_int (pa_cons pe_int pa_nil))))) (pg_name (i := 3) sc__law_tree.nd rfl (Or.inl rfl)) (pss_one (ps_if (pt_cmpR op_gt1 (pe_cl c__law_take hr pass0 (pa_cons (pv 0) (pa_cons pe_int pa_nil))) pe_int (nomark _)) (pss_one (ps_expr (pe_bm PySem.F.plainAttrs_list PySem.F.slot_list_append PySem.F.type_list_append mt_append (pv 6) (pa_cons (pe_tup (pa_cons (pv 3) (pa_cons (pe_cl c__law_one hr pass0 (pa_cons (pv 0) (pa_cons (pe_lst (pa_cons pe_int (pa_cons pe_int (pa_cons pe_int (pa_cons pe_int (pa_cons pe_int (pa_cons pe_int (pa_cons pe_int pa_nil)))))))) pa_nil))) pa_nil))) pa_nil)))) pss_nil))) (pss_one (ps_ret (pe_lst (pa_cons (pv 4) (pa_cons (pv 6) pa_nil)))))))))), fun _ p vs G H D _ hA e q => ?_⟩
  obtain ⟨x, rfl, h1⟩ := hA.one
  have seven : ∀ {σ : L2.St} {G2 : Hp} {a b c d e' f' g : Str}, ED (tLst (tCons (tC (.str a)) (tCons (tC (.str b)) (tCons (tC (.str c)) (tCons (tC (.str d)) (tCons (tC (.str e')) (tCons (tC (.str f')) (tCons (tC (.str g)) tNil)))))))) σ G2 (dt (.list ([a, b, c, d, e', f', g].map .str))) := ed_lst (ead_cons ed_str (ead_cons ed_str (ead_cons ed_str (ead_cons ed_str (ead_cons ed_str (ead_cons ed_str (ead_cons ed_str ead_nil))))))) (by simp)
  refine kp_asgS (edm_one (ds := [.list (namA.map .str), .list (namB.map .str)]) (ed_ref (by rfl)) (ed_lst (ead_cons seven (ead_cons seven ead_nil)) (by simp)) (by simp)) e fun nv G1 H1 s1 r1 => ?_
  obtain ⟨ns, hns, rn⟩ : ∃ ns : List Str, (ns = namA ∨ ns = namB) ∧ Dx G1 nv (.list (ns.map .str)) := by
    obtain ⟨d, hd, r⟩ := r1
    rcases List.mem_cons.mp hd with z | z
    · subst z; exact ⟨namA, .inl rfl, r⟩
    · rw [List.mem_singleton.mp z] at r; exact ⟨namB, .inr rfl, r⟩
  obtain ⟨nl7, nw, nnd⟩ := nam_ok hns
  have e1 := e.go s1
  -- tier, rows
  have first : EDM p (tOp (rAddU K) (tC (.int 1)) (tCB rInt1 (tCons (tOp (rEqD K) (tCall TakeSp [] E0 (tCons (tVar 0) (tCons (tC (.int 6)) tNil))) (tC (.int 0))) tNil))) ([some (.ref p), some x, some nv, none, none, none, none] : L2.St) G1 (exR (fun t : Nat => 1 ≤ t ∧ t ≤ 2) (fun t => .int (t : Int))) := by
    refine edm_op (S1 := dt (.int ((1 : Nat) : Int))) (S2 := exR (fun i : Nat => i ≤ 1) (fun i => .int (i : Int))) (.of ed_int) (edm_cb1 (S1 := exR (fun _ : Bool => True) .bool) (edm_op (S1 := takeR 6) (S2 := dt (.int 0)) (edm_take (ed_ref (by rfl)) (ed_int (i := ((6 : Nat) : Int))) (by decide)) (.of ed_int) fun x y G2 g ⟨k, _, r1⟩ r2 => (ed_eqI (ed_c r1) (ed_c r2)).imp fun v G3 r => ⟨_, True.intro, r⟩) fun v G2 g ⟨b, _, r⟩ => (ed_intB (ed_c r)).imp fun v G3 r => ⟨if b = true then 1 else 0, by split <;> decide, by cases b <;> exact r⟩) fun x y G2 g r1 ⟨i, hi, r2⟩ => (ed_addN (ed_c r1) (ed_c r2)).imp fun v G3 r => ⟨1 + i, by omega, r⟩
  refine first H1 e1 _ fun tv G2 H2 s2 ⟨t0, ht0, rt0⟩ => ?_
  cases Dx.int_inv rt0
  refine ⟨Nat.zero_le _, fun r hr2 => ⟨_, _, rfl, ?_⟩⟩
  have s12 := s1.trans s2
  have e2 := e.go s12
  have rp : r ≠ p := e2.a.ne hr2
  have gr : G2 r = none := ex_none e2.e hr2
  have S3 : SP p G2 H2 G2 (upd H2 r (.lst [])) := (SP.refl e2).mut e2.a hr2 gr
  have e3 := e2.go S3
  -- the loop over the names
  have sl : EDM p (tSl (rSlL K) (tVar 2) tNoPart (tPart (tOp (rAddU K) (tC (.int 1)) (tCall TakeSp [] E0 (tCons (tVar 0) (tCons (tVar 1) tNil)))))) ([some (.ref p), some x, some nv, some (.int (t0 : Int)), some (.ref r), none, none] : L2.St) G2 (exR (fun k : Nat => 1 ≤ k ∧ k ≤ 5) (fun k => .list ((ns.take k).map .str))) :=
    edm_slTo (S1 := dt (.list (ns.map .str))) (S2 := exR (fun k : Nat => 1 ≤ k ∧ k ≤ 5) (fun k => .int (k : Int))) (.of (ed_var (by rfl) (Dx.mono s2.g rn))) (edm_op (S1 := dt (.int ((1 : Nat) : Int))) (S2 := takeR 5) (.of ed_int) (edm_take (ed_ref (by rfl)) (ed_var (by rfl) (Dx.mono s12.g h1)) (by decide)) fun x y G3 g r1 ⟨k, hk, r2⟩ => (ed_addN (ed_c r1) (ed_c r2)).imp fun v G4 r => ⟨1 + k, by omega, r⟩) fun x y G3 g r1 ⟨k, hk, r2⟩ => (ed_slice (ed_c r1) eo_none (eo_some (ed_c r2))).imp fun v G4 r => ⟨k, hk, by rw [cut_to, ← List.map_take] at r; exact r⟩
  dsimp only
  show tSeq (tFor _ _ _) _ D ([some (.ref p), some x, some nv, some (.int (t0 : Int)), some (.ref r), none, none] : L2.St) _
  refine k_bindL (D := { D with nx := _ }) ?_
  refine sl _ e3 _ fun lv G4 H4 s4 ⟨k, hk, rl⟩ => ?_
  have s34 := S3.trans s4
  have e4 := e2.go s34
  have hr4 : H4 r = some (.lst []) := s4.h rp upd_same
  have gr4 : G4 r = none := s4.s upd_same gr
  refine k_for (D := { D with nx := _ }) (xs := ns.take k) (Rx := fun s => dt (.str s)) (ei_listM (ed_c rl)) e4.e
    (fun j σ' G' H' => ∃ (t : Nat) (a5 : Option V), σ' = [some (.ref p), some x, some nv, some (.int (t : Int)), some (.ref r), a5, none] ∧ SP p G2 H2 G' H' ∧ G' r = none ∧ 1 ≤ t ∧ t ≤ 4 ∧ ∃ vs rows, H' r = some (.lst vs) ∧ DxA G' vs (rows.map rowD) ∧ rows.map (·.1) = (ns.take k).take j ∧ (∀ q ∈ rows, 1 ≤ q.2 ∧ q.2 ≤ t) ∧ (rows.map (·.2)).Pairwise (· ≤ ·))
    (fun G5 H5 s5 => ⟨t0, none, rfl, s34.step s5, s5.s r (sm_none hr4) gr4, ht0.1, by omega, [], [], s5.h _ _ hr4, .nil, rfl, fun _ z => (nomatch z), .nil⟩) (fun j σ' G' H' ⟨_, _, _, s, _⟩ => s.i) ?_ ?_
  · intro G5 g5 j nm u σ' G' H' G6 H6 hj hI g6 s6 ru
    obtain ⟨t, a5, rfl, sI, nr, ht1, ht4, vs, rows, hrr, xr, hnm, htr, hts⟩ := hI
    have eI := (e2.go sI).st s6
    have hr6 := s6.h _ _ hrr
    have nr6 := s6.s r (sm_none hrr) nr
    have hlr : rows.length ≤ 7 := by
      have := congrArg List.length hnm
      rw [List.length_map, List.length_take, List.length_take] at this; omega
    refine kp_app (D := { nx := _, rt := _, ct := _, bk := _ }) (σ := ([some (.ref p), some x, some nv, some (.int (t : Int)), some (.ref r), some u, none] : L2.St)) (R := dt (rowD (nm, t))) eI (by rfl) hr6 nr6 rp (by rw [xr.length, List.length_map]; exact sz_lt (by omega)) (.of (ed_tup (ead_cons (ed_var (by rfl) ru) (ead_cons (ed_var (by rfl) (.int (t : Int))) ead_nil)) (by simp))) fun y G7 H7 s7 n7 h7 ry => ?_
    have sJ : SP p G2 H2 G7 (upd H7 r (.lst (vs ++ [y]))) := ((sI.step s6).trans s7).mut e2.a hr2 n7
    have eJ := e2.go sJ
    refine kp_asg (D := { nx := _, rt := _, ct := _, bk := _ }) (R := exR (fun t' : Nat => t ≤ t' ∧ t' ≤ 4) (fun t' => .int (t' : Int))) (edm_cb2 (S1 := dt (.int 4)) (S2 := exR (fun c : Nat => t ≤ c) (fun c => .int (c : Int))) (.of ed_int) (edm_op (S1 := dt (.int (t : Int))) (S2 := oneR ([0, 0, 1, 1, 2].map fun i : Nat => PyData.int (i : Int))) (.of (ed_intI (ed_var (by rfl) (.int (t : Int))))) (edm_one (ed_ref (by rfl)) (ed_lst (ead_cons ed_int (ead_cons ed_int (ead_cons ed_int (ead_cons ed_int (ead_cons ed_int ead_nil))))) (by simp)) (by simp)) fun x y G8 g r1 r2 => ?_) fun v w G8 g r1 ⟨c, hc, r2⟩ => ?_) eJ fun tv G8 H8 s8 ⟨t', ht', rt'⟩ => ?_
    · obtain ⟨i, _, rfl⟩ := one_nat r2
      exact (ed_addN (ed_c r1) (ed_c (.int (i : Int)))).imp fun v G9 r => ⟨t + i, by omega, r⟩
    · refine (ed_min (ed_c r1) (ed_c r2)).imp fun v G9 r => ⟨if c < 4 then c else 4, by split <;> omega, ?_⟩
      have e9 : ((if c < 4 then c else 4 : Nat) : Int) = if (c : Int) < 4 then (c : Int) else 4 := by
        by_cases hc4 : c < 4
        · rw [if_pos hc4, if_pos (by omega)]
        · rw [if_neg hc4, if_neg (by omega)]; rfl
      show Dx G9 v (.int ((if c < 4 then c else 4 : Nat) : Int))
      rw [e9]; exact r
    · cases Dx.int_inv rt'
      refine ⟨G8, g6.trans (s6.g.trans (s7.g.trans s8.g)), t', some u, rfl, sJ.trans s8, s8.s upd_same n7, by omega, ht'.2, vs ++ [y], rows ++ [(nm, t)], s8.h rp upd_same, ?_, ?_, ?_, ?_⟩
      · rw [List.map_append]
        exact (xr.mono (s6.g.trans (s7.g.trans s8.g))).append (.cons (Dx.mono s8.g ry) .nil)
      · rw [List.map_append, hnm, List.take_succ, hj]; rfl
      · intro q hq
        rcases List.mem_append.mp hq with z | z
        · have := htr q z; omega
        · rw [List.mem_singleton.mp z]; exact ⟨ht1, ht'.1⟩
      · rw [List.map_append, List.pairwise_append]
        refine ⟨hts, List.pairwise_singleton _ _, fun a ha b hb => ?_⟩
        obtain ⟨q, hq, rfl⟩ := List.mem_map.mp ha
        have : b = t := by simpa using hb
        rw [this]; exact (htr q hq).2
  · rintro σ' G' H' ⟨t, a5, rfl, sI, nr, ht1, ht4, vs, rows, hrr, xr, hnm, htr, hts⟩ g'
    rw [List.take_length] at hnm
    have eI := e2.go sI
    refine k_ownS fun qa hqa => ?_
    have qp : qa ≠ p := eI.a.ne hqa
    have qr : qa ≠ r := fun z => by rw [z, hrr] at hqa; cases hqa
    have gq : G' qa = none := ex_none eI.e hqa
    have S5 : SP p G' H' G' (upd H' qa (.lst [])) := (SP.refl eI).mut eI.a hqa gq
    have e5 := eI.go S5
    show tSeq (tFor _ _ _) _ D ([some (.ref p), some x, some nv, some (.int (t : Int)), some (.ref r), a5, some (.ref qa)] : L2.St) _
    refine k_for (D := { D with nx := _ }) (xs := [2, 3, 4]) (Rx := fun i : Nat => dt (.int (i : Int))) (ei_listM (enc := fun i : Nat => .int (i : Int)) (ed_lst (ead_cons ed_int (ead_cons ed_int (ead_cons ed_int ead_nil))) (by simp))) e5.e
      (fun j σ'' G'' H'' => ∃ (a3 : Option V), σ'' = [some (.ref p), some x, some nv, a3, some (.ref r), a5, some (.ref qa)] ∧ SP p G' H' G'' H'' ∧ G'' qa = none ∧ ∃ vs needs, H'' qa = some (.lst vs) ∧ DxA G'' vs (needs.map pairD) ∧ needs.length ≤ j ∧ (∀ q ∈ needs, 2 ≤ q.1 ∧ q.1 < 2 + j ∧ q.2 ≤ 5) ∧ (needs.map (·.1)).Pairwise (· < ·))
      (fun G6 H6 s6 => ⟨_, rfl, S5.step s6, s6.s qa (by rw [upd_same]; intro z; cases z) gq, [], [], s6.h _ _ upd_same, .nil, Nat.le_refl _, fun _ z => (nomatch z), .nil⟩) (fun j σ' G' H' ⟨_, _, s, _⟩ => s.i) ?_ ?_
    · intro G6 g6 j ti u σ'' G'' H'' G7 H7 hj hJ g7 s7 ru
      obtain ⟨a3, rfl, sJ, nq, vs2, needs, hqq, xq, hnl, hno, hnp⟩ := hJ
      have hti : ti = 2 + j ∧ j < 3 := by
        match j, hj with
        | 0, hj => simp at hj; omega
        | 1, hj => simp at hj; omega
        | 2, hj => simp at hj; omega
        | n + 3, hj => simp at hj
      have eJ := (eI.go sJ).st s7
      have hq7 := s7.h _ _ hqq
      have nq7 := s7.s qa (sm_none hqq) nq
      show tIfS _ _ tNext _ ([some (.ref p), some x, some nv, some u, some (.ref r), a5, some (.ref qa)] : L2.St) H7
      refine kp_iff (D := { nx := _, rt := _, ct := _, bk := _ }) (σ := ([some (.ref p), some x, some nv, some u, some (.ref r), a5, some (.ref qa)] : L2.St)) (B := fun _ => True) (etm_test (edm_op (S1 := takeR 3) (S2 := dt (.int 0)) (edm_take (ed_ref (by rfl)) (ed_int (i := ((3 : Nat) : Int))) (by decide)) (.of ed_int) fun x y G8 g ⟨k, _, r1⟩ r2 => (ed_gt (ed_c r1) (ed_c r2)).imp fun v G9 r => ⟨_, True.intro, r⟩)) eJ (fun G8 H8 s8 _ => ?_) fun G8 H8 s8 _ => ?_
      · have hq8 := s8.h qp hq7
        have nq8 := s8.s hq7 nq7
        have e8 := eJ.go s8
        refine kp_app (D := { nx := _, rt := _, ct := _, bk := _ }) (σ := ([some (.ref p), some x, some nv, some u, some (.ref r), a5, some (.ref qa)] : L2.St)) (R := exR (fun c : Nat => c ≤ 5) (fun c => pairD (ti, c))) e8 (by rfl) hq8 nq8 qp (by rw [xq.length, List.length_map]; exact sz_lt (by omega)) (edm_tup (Rs := [dt (.int (ti : Int)), oneR ([0, 1, 1, 2, 2, 3, 5].map fun i : Nat => PyData.int (i : Int))]) (eam_cons (.of (ed_var (by rfl) (Dx.mono s8.g ru))) (eam_cons (edm_one (ed_ref (by rfl)) (ed_lst (ead_cons ed_int (ead_cons ed_int (ead_cons ed_int (ead_cons ed_int (ead_cons ed_int (ead_cons ed_int (ead_cons ed_int ead_nil))))))) (by simp)) (by simp)) eam_nil)) (by simp) fun ws G9 g ra a ha => ?_) fun y G9 H9 s9 n9 h9 ⟨c, hc, ry⟩ => ?_
        · obtain ⟨y1, y2, rfl, k1, k2⟩ := ra.two
          obtain ⟨i, hi, rfl⟩ := one_nat k2
          exact ⟨i, by simp at hi; omega, .tup ha (.cons k1 (.cons (.int _) .nil))⟩
        · refine ⟨G9, g7.trans (s7.g.trans (s8.g.trans s9.g)), _, rfl, (((sJ.step s7).trans s8).trans s9).mut eI.a hqa n9, n9, vs2 ++ [y], needs ++ [(ti, c)], upd_same, ?_, by simp; omega, ?_, ?_⟩
          · rw [List.map_append]
            exact (xq.mono (s7.g.trans (s8.g.trans s9.g))).append (.cons ry .nil)
          · intro q hq
            rcases List.mem_append.mp hq with z | z
            · have := hno q z; omega
            · rw [List.mem_singleton.mp z]; exact ⟨by omega, by omega, hc⟩
          · rw [List.map_append, List.pairwise_append]
            refine ⟨hnp, List.pairwise_singleton _ _, fun a ha b hb => ?_⟩
            obtain ⟨q, hq, rfl⟩ := List.mem_map.mp ha
            have : b = ti := by simpa using hb
            rw [this]; have := hno q hq; omega
      · refine ⟨G8, g7.trans (s7.g.trans s8.g), _, rfl, (sJ.step s7).trans s8, s8.s hq7 nq7, vs2, needs, s8.h qp hq7, xq.mono (s7.g.trans s8.g), by omega, fun q hq => by have := hno q hq; omega, hnp⟩
    · rintro σ'' G'' H'' ⟨a3, rfl, sJ, nq, vs2, needs, hqq, xq, hnl, hno, hnp⟩ _
      have hnl : needs.length ≤ 3 := hnl
      have hr7 : H'' r = some (.lst vs) := sJ.h rp hrr
      have nr7 : G'' r = none := sJ.s hrr nr
      have S6 : SP p G2 H2 (upd G'' r (.lst vs)) H'' := (sI.trans sJ).pub hr2 nr7 hr7
      have nq7 : (upd G'' r (.lst vs)) qa = none := by rw [upd_ne qr]; exact nq
      have gx1 : Ex G'' (upd G'' r (.lst vs)) := Ex.new nr7
      have hq2 : H2 qa = none := by
        cases z : H2 qa with
        | none => rfl
        | some o => rw [sI.h qp z] at hqa; cases hqa
      have S7 := S6.pub hq2 nq7 hqq
      have gx2 : Ex (upd G'' r (.lst vs)) (upd (upd G'' r (.lst vs)) qa (.lst vs2)) := Ex.new nq7
      have hrows : rows.length = min k 7 := by
        have := congrArg List.length hnm
        rw [List.length_map, List.length_take, nl7] at this; exact this
      refine k_ret (R := dt (treeD (rows, needs))) (ed_lst (ead_cons (ed_var (by rfl) (.lst (gx2 _ _ upd_same) (xr.mono (sJ.g.trans (gx1.trans gx2))))) (ead_cons (ed_var (by rfl) (.lst upd_same (xq.mono (gx1.trans gx2)))) ead_nil)) (by simp)) S7.i fun v G9 H9 s9 rv => q v G9 H9 ((s12.trans S7).step s9) ⟨(rows, needs), ?_, rv⟩
      have hmem : ∀ q ∈ rows, q.1 ∈ ns := fun q hq => by
        have : q.1 ∈ rows.map (·.1) := List.mem_map_of_mem hq
        rw [hnm] at this
        exact List.mem_of_mem_take this
      exact ⟨show 1 ≤ rows.length by omega, show rows.length ≤ 5 by omega, fun q hq => nw _ (hmem q hq), by show (rows.map (·.1)).Nodup; rw [hnm]; exact nnd.sublist (List.take_sublist _ _), fun q hq => by have := htr q hq; omega, hts, hnl, fun q hq => by have := hno q hq; simp at this; omega, hnp⟩
end
end RT
end
section
set_option maxRecDepth 100000
set_option maxHeartbeats 4000000
/-! RTW32: drawn wants. -/
namespace RT
open PySem PySem.Spec PyProof.Rows L2
open Evl (Ex Ex.refl Ex.trans Ex.new Ex.mut)
/-- a book of rows alone -/
def bk0 (rows : List (Str × Nat)) : Bk := ⟨rows, 0, [], [], [], [], [], none⟩
structure RwP (rows : List (Str × Nat)) : Prop where
  n1 : 1 ≤ rows.length
  n5 : rows.length ≤ 5
  wd : ∀ r ∈ rows, wordS r.1 = true
structure WsOk (n : Nat) (ws : List Wt) : Prop where
  l : ws.length ≤ 4
  o : ∀ w ∈ ws, WOk n w
theorem perm_map_inv {α β : Type} {f : α → β} {xs ys : List β} (h : xs.Perm ys) : ∀ l : List α, ys = l.map f → ∃ l' : List α, l'.Perm l ∧ xs = l'.map f := by
  induction h with
  | nil => intro l e; exact ⟨[], by cases l with | nil => exact .refl _ | cons a l => simp at e, rfl⟩
  | cons x h ih =>
    intro l e
    cases l with
    | nil => simp at e
    | cons a l =>
      rw [List.map_cons] at e
      injection e with e1 e2
      obtain ⟨l', h1, h2⟩ := ih l e2
      exact ⟨a :: l', h1.cons a, by rw [List.map_cons, ← h2, e1]⟩
  | swap x y r =>
    intro l e
    match l, e with
    | [], e => simp at e
    | [a], e => simp at e
    | a :: b :: l, e =>
      rw [List.map_cons, List.map_cons] at e
      injection e with e1 e2
      injection e2 with e2 e3
      exact ⟨b :: a :: l, List.Perm.swap a b l, by rw [List.map_cons, List.map_cons, ← e1, ← e2, ← e3]⟩
  | trans h1 h2 ih1 ih2 =>
    intro l e
    obtain ⟨l2, p2, e2⟩ := ih2 l e
    obtain ⟨l1, p1, e1⟩ := ih1 l2 e2
    exact ⟨l1, p1.trans p2, e1⟩
/-- the places beside one -/
def oth (n i : Nat) (dn : Bool) : List Nat := if dn = true then List.range i else List.range i ++ (List.range n).drop (i + 1)
theorem oth_ok {n i : Nat} {dn : Bool} (hi : i < n) : (∀ j ∈ oth n i dn, j < n ∧ j ≠ i) ∧ (oth n i dn).Nodup ∧ (oth n i dn).length ≤ n := by
  unfold oth
  split
  · exact ⟨fun j hj => by have := List.mem_range.mp hj; omega, List.nodup_range, by simp; omega⟩
  · refine ⟨fun j hj => ?_, ?_, by simp; omega⟩
    · rcases List.mem_append.mp hj with h | h
      · have := List.mem_range.mp h; omega
      · have := mem_dropR.mp h; omega
    · rw [List.nodup_append]
      refine ⟨List.nodup_range, List.nodup_range.sublist (List.drop_sublist _ _), fun a ha b hb => ?_⟩
      have h1 := List.mem_range.mp ha
      have h2 := mem_dropR.mp hb
      omega
section
variable {P : Program} {w : World} {K : Fg} {mg : Str → Option Value} {base : Heap} {C : Addr}
theorem c__law_rows (T : Txt K mg) : Callee P w K mg base CX0 3 "_law_rows" ["_law_pool_here", "_law_names_here", "_law_top", "_law_words", "_law_is_down"] (MSp (fun a : List (Str × Nat) × List WK × Bool => RwP a.1 ∧ (a.2.1 = [.all] ∨ a.2.1 = [.all, .any, .any, .count]))
    (fun a => [dt (.list ((bk0 a.1).nms.map .str)), dt (.int ((4 : Nat) : Int)), dt (.list ((a.2.1.map kS).map .str)), dt (.bool a.2.2)]) (fun a => exR (WsOk a.1.length) (fun ws => .list (ws.map (dWant (bk0 a.1)))))) := by
  have c__law_take := c__law_take (P := P) (w := w) (base := base) T
  have c__law_one := c__law_one (P := P) (w := w) (base := base) T
  have c__law_turned := c__law_turned (P := P) (w := w) (base := base) T
  refine calleeM T.d__law_rows sc__law_rows (fun _ _ _ _ _ _ us hl => match us, hl with | [_, _, _, _, _], _ => rfl) (fun _ => rfl) fun f cdv Ar outer s H0 E hr => ?_
  obtain ⟨hu0, hu, hu64, hu65⟩ := room0 hr
  refine ⟨_, (pss_cons (ps_set (i := 5) sc__law_rows.nd rfl (Or.inl rfl) (pe_lst pa_nil)) (pss_cons (ps_for PassesOwn.never rfl (pi_range1 (by rfl) T.f_range (pa_cons (pe_cl c__law_take hr pass0 (pa_cons (pv 0) (pa_cons (pe_op (op_addU K) (pv 2) pe_int) pa_nil))) pa_nil)) (pg_name (i := 6) sc__law_rows.nd rfl (Or.inl rfl)) (pss_cons (ps_set (i := 7) sc__law_rows.nd rfl (Or.inl rfl) (pe_cl c__law_take hr pass0 (pa_cons (pv 0) (pa_cons (pe_callB (call_lenU K) (by rfl) T.f_len (by decide +kernel) (pa_cons (pv 1) pa_nil)) pa_nil)))) (pss_cons (ps_set (i := 8) sc__law_rows.nd rfl (Or.inl rfl) (pe_ifExp (pt_truthK K (pv 4)) (pe_slice (sl_listK K) (pv 1) po_none (po_some (pv 7))) (pe_op (op_addU K) (pe_slice (sl_listK K) (pv 1) po_none (po_some (pv 7))) (pe_slice (sl_listK K) (pv 1) (po_some (pe_op (op_addU K) (pv 7) pe_int)) po_none)))) (pss_cons (ps_set (i := 9) sc__law_rows.nd rfl (Or.inl rfl) (pe_slice (sl_listK K) (pe_cl c__law_turned hr pass0 (pa_cons (pv 0) (pa_cons (pv 8) pa_nil))) po_none (po_some (pe_op (op_addU K) pe_int (pe_cl c__law_take hr pass0 (pa_cons (pv 0) (pa_cons pe_int pa_nil))))))) (pss_cons (ps_set (i := 10) sc__law_rows.nd rfl (Or.inl rfl) (pe_cl c__law_one hr pass0 (pa_cons (pv 0) (pa_cons (pv 3) pa_nil)))) (pss_one (ps_if (L2.PW.pt (pw_and (pt_cmpR (op_neK K hu64) (pv 9) (pe_lst pa_nil) (nomark _)) (pw_and1 (pt_cmpR (op_eqK K hu64) (pv 10) pe_str (nomark _))))) (pss_one (ps_expr (pe_bm PySem.F.plainAttrs_list PySem.F.slot_list_append PySem.F.type_list_append mt_append (pv 5) (pa_cons (pe_tup (pa_cons (pv 10) (pa_cons (pe_ix (ix_seqK K) (pv 1) (pv 7) (fun _ _ => rfl)) (pa_cons (pe_callTy (call_tupleU K) (by rfl) T.f_tuple (by decide +kernel) (pa_cons (pv 9) pa_nil)) (pa_cons (pe_op (op_addU K) pe_int (pe_cl c__law_take hr pass0 (pa_cons (pv 0) (pa_cons (pe_callB (call_lenU K) (by rfl) T.f_len (by decide +kernel) (pa_cons (pv 9) pa_nil)) pa_nil)))) pa_nil))))) pa_nil)))) (pss_one (ps_if (pt_cmpR (op_neK K hu64) (pv 9) (pe_lst pa_nil) (nomark _)) (pss_one (ps_expr (pe_bm PySem.F.plainAttrs_list PySem.F.slot_list_append PySem.F.type_list_append mt_append (pv 5) (pa_cons (pe_tup (pa_cons (pv 10) (pa_cons (pe_ix (ix_seqK K) (pv 1) (pv 7) (fun _ _ => rfl)) (pa_cons (pe_callTy (call_tupleU K) (by rfl) T.f_tuple (by decide +kernel) (pa_cons (pv 9) pa_nil)) pa_nil)))) pa_nil)))) pss_nil))))))))) (pss_one (ps_ret (pv 5))))), fun a p vs G H D hP hA e q => ?_⟩
  obtain ⟨rows, kinds, dn⟩ := a
  obtain ⟨hR, hK⟩ := hP
  have hR : RwP rows := hR
  have hK : kinds = [.all] ∨ kinds = [.all, .any, .any, .count] := hK
  obtain ⟨x1, x2, x3, x4, rfl, h1, h2, h3, h4⟩ := hA.four
  dsimp only at h1 h2 h3 h4 q
  generalize hb : bk0 rows = b at h1 q
  have hn : b.n = rows.length := by rw [← hb]; rfl
  have hrw : b.rows = rows := by rw [← hb]; rfl
  have n1 : 1 ≤ b.n := by rw [hn]; exact hR.n1
  have n5 : b.n ≤ 5 := by rw [hn]; exact hR.n5
  have hw : ∀ {i : Nat}, i < b.n → wordS (b.nm i) = true := fun {i} hi => hR.wd (b.nm i, b.tier i) (by rw [← hrw]; exact List.mem_of_getElem? (row_get hi))
  have k1 : kinds ≠ [] ∧ kinds.length ≤ 4 := by rcases hK with z | z <;> rw [z] <;> decide
  have kw : ∀ k : WK, wordS (kS k) = true := fun k => by
    cases k
    · show wordS ("all" : Str) = true
      decide +kernel
    · show wordS ("any" : Str) = true
      decide +kernel
    · show wordS ("count" : Str) = true
      decide +kernel
  have nms : ∀ {σ : L2.St} {G2}, σ[1]? = some (some x1) → Ex G G2 → ED (tVar 1) σ G2 (dt (.list (((List.range b.n).map b.nm).map .str))) := fun hσ g => ed_var hσ (by rw [← nms_eq]; exact Dx.mono g h1)
  refine k_ownS fun r hr0 => ?_
  have rp : r ≠ p := e.a.ne hr0
  have gr : G r = none := ex_none e.e hr0
  have S1 : SP p G H G (upd H r (.lst [])) := (SP.refl e).mut e.a hr0 gr
  have e1 := e.go S1
  show tSeq (tFor _ _ _) _ D ([some (.ref p), some x1, some x2, some x3, some x4, some (.ref r), none, none, none, none, none] : L2.St) _
  refine k_bindR (D := { nx := _, rt := _, ct := _, bk := _ }) ?_
  refine (edm_take (n := 5) (ed_ref (by rfl)) (ed_addN (i := 4) (j := 1) (ed_var (by rfl) h2) ed_int) (by decide)) _ e1 _ fun tv G2 H2 s2 ⟨kt, hkt, rt⟩ => ?_
  cases Dx.int_inv rt
  have s12 := S1.trans s2
  have hr2 : H2 r = some (.lst []) := s2.h rp upd_same
  have gr2 : G2 r = none := s2.s upd_same gr
  refine k_for (D := { D with nx := _ }) (xs := List.range kt) (Rx := fun i : Nat => dt (.int (i : Int))) (ei_range (ed_c (.int _)) (by omega)) s2.i
    (fun j σ' G' H' => ∃ a6 a7 a8 a9 a10, σ' = [some (.ref p), some x1, some x2, some x3, some x4, some (.ref r), a6, a7, a8, a9, a10] ∧ SP p G H G' H' ∧ G' r = none ∧ ∃ vs ws, H' r = some (.lst vs) ∧ DxA G' vs (ws.map (dWant b)) ∧ ws.length ≤ j ∧ ∀ w ∈ ws, WOk b.n w)
    (fun G3 H3 s3 => ⟨none, none, none, none, none, rfl, s12.step s3, s3.s r (sm_none hr2) gr2, [], [], s3.h _ _ hr2, .nil, Nat.le_refl _, fun _ z => (nomatch z)⟩) (fun j σ' G' H' ⟨_, _, _, _, _, _, s, _⟩ => s.i) ?_ ?_
  · intro G3 g3 j t u σ' G' H' G4 H4 hj hI g4 s4 ru
    obtain ⟨a6, a7, a8, a9, a10, rfl, sI, nr, vs, ws, hrr, xr, hwl, hwo⟩ := hI
    have hjt : j < kt := by have := (List.getElem?_eq_some_iff.mp hj).1; simpa using this
    have eI := (e.go sI).st s4
    have hr4 := s4.h _ _ hrr
    have nr4 := s4.s r (sm_none hrr) nr
    have g04 := sI.g.trans s4.g
    refine kp_asgS (σ := ([some (.ref p), some x1, some x2, some x3, some x4, some (.ref r), some u, a7, a8, a9, a10] : L2.St)) (edm_take (n := b.n) (ed_ref (by rfl)) (ED.eq (ed_lenL (nms (by rfl) g04)) (by simp)) n1 (by omega)) eI fun sv G5 H5 s5 ⟨i, hi, r5⟩ => ?_
    cases Dx.int_inv r5
    have e5 := eI.go s5
    have g05 := g04.trans s5.g
    have cutA : ∀ k : Nat, cutD (((List.range b.n).map b.nm).map PyData.str) none (some (k : Int)) = (((List.range b.n).take k).map b.nm).map PyData.str := fun k => by rw [cut_to, List.map_take, List.map_take]
    have cutB : ∀ k : Nat, cutD (((List.range b.n).map b.nm).map PyData.str) (some (k : Int)) none = (((List.range b.n).drop k).map b.nm).map PyData.str := fun k => by rw [cut_from, List.map_drop, List.map_drop]
    have tk : (List.range b.n).take i = List.range i := by rw [List.take_range, Nat.min_eq_left (by omega)]
    have iv : ∀ {σ : L2.St} {G2}, σ[7]? = some (some (.int (i : Int))) → ED (tVar 7) σ G2 (dt (.int (i : Int))) := fun hσ => ed_var hσ (.int _)
    refine k_asgS (R := dt (.list (((oth b.n i dn).map b.nm).map .str))) (σ := ([some (.ref p), some x1, some x2, some x3, some x4, some (.ref r), some u, some (.int (i : Int)), a8, a9, a10] : L2.St)) (ed_if (b := dn) (et_tb (ed_var (by rfl) (Dx.mono g05 h4))) (fun hb => ?_) fun hb => ?_) e5.e fun ov G6 H6 s6 r6 => ?_
    · refine ED.eq (ed_slice (nms (by rfl) g05) eo_none (eo_some (iv (by rfl)))) ?_
      rw [cutA, tk, hb]; rfl
    · refine ED.eq (ed_cat (ed_slice (nms (by rfl) g05) eo_none (eo_some (iv (by rfl)))) (ed_slice (nms (by rfl) g05) (eo_some (ed_addN (i := i) (j := 1) (iv (by rfl)) ed_int)) eo_none) (by rw [cutA, cutB]; simp; omega)) ?_
      rw [cutA, cutB, tk, hb, ← List.map_append, ← List.map_append]; rfl
    have e6 := e5.st s6
    obtain ⟨o1, o2, o3⟩ := oth_ok (dn := dn) hi
    refine kp_asgS (R := exR (fun l : List Nat => l.Nodup ∧ (∀ j ∈ l, j < b.n ∧ j ≠ i) ∧ l.length ≤ 3) (fun l => .list ((l.map b.nm).map .str))) (σ := ([some (.ref p), some x1, some x2, some x3, some x4, some (.ref r), some u, some (.int (i : Int)), some ov, a9, a10] : L2.St)) (edm_slTo (S1 := turnR (((oth b.n i dn).map b.nm).map .str)) (S2 := exR (fun k : Nat => k ≤ 3) (fun k => .int (k : Int))) (edm_turn (ed_ref (by rfl)) (ed_var (by rfl) r6) (by simp; omega) fun d hd => by
        obtain ⟨s, hs, rfl⟩ := List.mem_map.mp hd
        obtain ⟨j, hj, rfl⟩ := List.mem_map.mp hs
        exact (Sh.word (hw (o1 j hj).1)).mono (by decide)) (edm_op (S1 := dt (.int ((1 : Nat) : Int))) (S2 := takeR 3) (.of ed_int) (edm_take (ed_ref (by rfl)) (ed_int (i := ((3 : Nat) : Int))) (by decide)) fun v y G7 g r1 ⟨k, hk, r2⟩ => (ed_addN (ed_c r1) (ed_c r2)).imp fun v G8 r => ⟨1 + k, by omega, r⟩) fun v y G7 g ⟨ds, hp, r1⟩ ⟨k, hk, r2⟩ => ?_) e6 fun mv G7 H7 s7 ⟨l, ⟨hl1, hl2, hl3⟩, r7⟩ => ?_
    · obtain ⟨l, hl, rfl⟩ := perm_map_inv (f := fun j => PyData.str (b.nm j)) hp (oth b.n i dn) (by rw [List.map_map]; rfl)
      refine (ed_slice (ed_c r1) eo_none (eo_some (ed_c r2))).imp fun v G8 r => ⟨l.take k, ⟨(hl.nodup_iff.mpr o2).sublist (List.take_sublist _ _), fun j hj => o1 j (hl.subset (List.mem_of_mem_take hj)), by simp; omega⟩, ?_⟩
      rw [cut_to, ← List.map_take] at r
      show Dx G8 v (.list (((l.take k).map b.nm).map .str))
      rw [List.map_map]; exact r
    have e7 := e6.go s7
    refine kp_asgS (R := exR (fun _ : WK => True) (fun k => .str (kS k))) (σ := ([some (.ref p), some x1, some x2, some x3, some x4, some (.ref r), some u, some (.int (i : Int)), some ov, some mv, a10] : L2.St)) ((edm_one (ed_ref (by rfl)) (ed_var (by rfl) (Dx.mono (g05.trans (s6.g.trans s7.g)) h3)) (by simp [k1.1]) (by simp; omega)).imp fun v G8 _ ⟨d, hd, r⟩ => ?_) e7 fun wv G8 H8 s8 ⟨kd, _, r8⟩ => ?_
    · obtain ⟨s, hs, rfl⟩ := List.mem_map.mp hd
      obtain ⟨k, _, rfl⟩ := List.mem_map.mp hs
      exact ⟨k, True.intro, r⟩
    have e8 := e7.go s8
    have g48 := s5.g.trans (s6.g.trans (s7.g.trans s8.g))
    have g08 := g04.trans g48
    have hr8 := s8.h rp (s7.h rp (s6.h _ _ (s5.h rp hr4)))
    have nr8 := s8.s (s7.h rp (s6.h _ _ (s5.h rp hr4))) (s7.s (s6.h _ _ (s5.h rp hr4)) (s6.s r (sm_none (s5.h rp hr4)) (s5.s hr4 nr4)))
    have sJ : SP p G H G8 H8 := ((((sI.step s4).trans s5).step s6).trans s7).trans s8
    have r78 : Dx G8 mv (.list ((l.map b.nm).map .str)) := Dx.mono s8.g r7
    have shl : SeqAt.shaped (.list ((l.map b.nm).map PyData.str)) = true := (Sh.list (k := 0) fun d hd => by
      obtain ⟨s, hs, rfl⟩ := List.mem_map.mp hd
      obtain ⟨j, hj, rfl⟩ := List.mem_map.mp hs
      exact Sh.word (hw (hl2 j hj).1)).shaped
    have ne : ∀ {G9 : Hp} {H9 : Hp}, Ex G8 G9 → ET (tTest (tOp (rNeD K) (tVar 9) (tLst tNil))) ([some (.ref p), some x1, some x2, some x3, some x4, some (.ref r), some u, some (.int (i : Int)), some ov, some mv, some wv] : L2.St) G9 (!decide (l = [])) := fun g => ET.eq (et_test (ed_ne (ed_var (by rfl) (Dx.mono g r78)) (ed_lst ead_nil (by simp)) shl rfl)) (by rw [eqv_nilL]; simp)
    have nmi : atI (((List.range b.n).map b.nm).map PyData.str) (i : Int) = some (.str (b.nm i)) := at_nat (by rw [List.getElem?_map, List.getElem?_map, List.getElem?_range hi]; rfl)
    have fin : ∀ {G9 H9 : Hp} {y : V} {wt : Wt}, SP p G8 H8 G9 H9 → G9 r = none → Dx G9 y (dWant b wt) → WOk b.n wt → ∃ G10, Ex G3 G10 ∧ ∃ a6 a7 a8 a9 a10, ([some (.ref p), some x1, some x2, some x3, some x4, some (.ref r), some u, some (.int (i : Int)), some ov, some mv, some wv] : L2.St) = [some (.ref p), some x1, some x2, some x3, some x4, some (.ref r), a6, a7, a8, a9, a10] ∧ SP p G H G10 (upd H9 r (.lst (vs ++ [y]))) ∧ G10 r = none ∧ ∃ (vs' : List V) (ws' : List Wt), (upd H9 r (.lst (vs ++ [y]))) r = some (.lst vs') ∧ DxA G10 vs' (ws'.map (dWant b)) ∧ ws'.length ≤ j + 1 ∧ ∀ w ∈ ws', WOk b.n w := fun {G9 H9 y wt} s9 n9 ry ho =>
      ⟨G9, g4.trans (s4.g.trans (g48.trans s9.g)), _, _, _, _, _, rfl, (sJ.trans s9).mut e.a hr0 n9, n9, vs ++ [y], ws ++ [wt], upd_same, by rw [List.map_append]; exact (xr.mono (s4.g.trans (g48.trans s9.g))).append (.cons ry .nil), by simp; omega, fun w hw' => by
        rcases List.mem_append.mp hw' with z | z
        · exact hwo w z
        · rw [List.mem_singleton.mp z]; exact ho⟩
    have vsl : vs.length < sizeLine := by rw [xr.length, List.length_map]; exact sz_lt (by omega)
    refine k_if (D := { nx := _, rt := _, ct := _, bk := _ }) (b := !decide (l = []) && decide (kd = .count)) (et_and (ne (H9 := H8) (Ex.refl _)) fun _ => ET.eq (et_test (ed_eqS (x := kS kd) (y := "count") (ed_var (by rfl) r8) ed_str (kw kd) (by decide +kernel))) (by cases kd <;> decide)) e8.e (fun hb G9 H9 s9 => ?_) fun hb G9 H9 s9 => ?_
    · rw [Bool.and_eq_true] at hb
      have hne : l ≠ [] := by simpa using hb.1
      have hkd : kd = .count := of_decide_eq_true hb.2
      subst hkd
      have hlp : 0 < l.length := List.length_pos_iff.mpr hne
      have e9 := e8.st s9
      have hr9 := s9.h _ _ hr8
      have nr9 := s9.s r (sm_none hr8) nr8
      refine kp_app (D := { nx := _, rt := _, ct := _, bk := _ }) (R := exR (fun c : Nat => 1 ≤ c ∧ c ≤ l.length) (fun c => dWant b ⟨.count, i, l, c⟩)) e9 (by rfl) hr9 nr9 rp vsl (edm_tup (Rs := [dt (.str (kS .count)), dt (.str (b.nm i)), dt (.tuple ((l.map b.nm).map .str)), exR (fun c : Nat => 1 ≤ c ∧ c ≤ l.length) (fun c => .int (c : Int))]) (eam_cons (.of (ed_var (by rfl) (Dx.mono s9.g r8))) (eam_cons (.of (ed_ixL (nms (by rfl) (g08.trans s9.g)) (iv (by rfl)) nmi)) (eam_cons (.of (ed_tupL (ed_var (by rfl) (Dx.mono s9.g r78)))) (eam_cons (edm_op (S1 := dt (.int ((1 : Nat) : Int))) (S2 := takeR l.length) (.of ed_int) (edm_take (n := l.length) (ed_ref (by rfl)) (ED.eq (ed_lenL (ed_var (by rfl) (Dx.mono s9.g r78))) (by simp)) hlp (by omega)) fun v y G10 g r1 ⟨k, hk, r2⟩ => (ed_addN (ed_c r1) (ed_c r2)).imp fun v G11 r => ⟨1 + k, by omega, r⟩) eam_nil)))) (by simp) fun us G10 g ra a ha => ?_) fun y G10 H10 s10 n10 h10 ⟨c, hc, ry⟩ => ?_
      · obtain ⟨y1, y2, y3, y4, rfl, k1, k2, k3, c, hc, k4⟩ := ra.four
        exact ⟨c, hc, .tup ha (.cons k1 (.cons k2 (.cons k3 (.cons k4 .nil))))⟩
      · exact fin ((e8.sp s9).trans s10) n10 ry ⟨hi, hne, hl1, hl2, Nat.le_trans hl3 (by decide), fun _ => hc⟩
    · have e9 := e8.st s9
      have hr9 := s9.h _ _ hr8
      have nr9 := s9.s r (sm_none hr8) nr8
      refine k_if (D := { nx := _, rt := _, ct := _, bk := _ }) (b := !decide (l = [])) (ne (H9 := H9) s9.g) s9.i (fun hb2 G10 H10 s10 => ?_) fun hb2 G10 H10 s10 => ?_
      · have hne : l ≠ [] := by simpa using hb2
        have hkd : kd ≠ .count := fun z => by rw [hb2, z] at hb; cases hb
        have e10 := e9.st s10
        have hr10 := s10.h _ _ hr9
        have nr10 := s10.s r (sm_none hr9) nr9
        refine kp_app (D := { nx := _, rt := _, ct := _, bk := _ }) (R := dt (dWant b ⟨kd, i, l, 0⟩)) e10 (by rfl) hr10 nr10 rp vsl (.of (ED.eq (ed_tup (ead_cons (ed_var (by rfl) (Dx.mono (s9.g.trans s10.g) r8)) (ead_cons (ed_ixL (nms (by rfl) (g08.trans (s9.g.trans s10.g))) (iv (by rfl)) nmi) (ead_cons (ed_tupL (ed_var (by rfl) (Dx.mono (s9.g.trans s10.g) r78))) ead_nil))) (by simp)) (show _ = dWant b ⟨kd, i, l, 0⟩ by unfold dWant; rw [if_neg hkd]; rfl))) fun y G11 H11 s11 n11 h11 ry => ?_
        exact fin (((e8.sp s9).step s10).trans s11) n11 ry ⟨hi, hne, hl1, hl2, Nat.le_trans hl3 (by decide), fun z => absurd z hkd⟩
      · refine ⟨G10, g4.trans (s4.g.trans (g48.trans (s9.g.trans s10.g))), _, _, _, _, _, rfl, (sJ.step s9).step s10, s10.s r (sm_none hr9) nr9, vs, ws, s10.h _ _ hr9, xr.mono (s4.g.trans (g48.trans (s9.g.trans s10.g))), by omega, hwo⟩
  · rintro σ' G' H' ⟨a6, a7, a8, a9, a10, rfl, sI, nr, vs, ws, hrr, xr, hwl, hwo⟩ _
    rw [List.length_range] at hwl
    have sJ := sI.pub hr0 nr hrr
    refine k_ret (R := dt (.list (ws.map (dWant b)))) (ed_var (by rfl) (.lst upd_same (xr.mono (Ex.new nr)))) sJ.i fun v G9 H9 s9 rv => q v G9 H9 (sJ.step s9) ⟨ws, ⟨by omega, by rw [← hn]; exact hwo⟩, rv⟩
end
end RT
end
section
set_option maxRecDepth 100000
set_option maxHeartbeats 4000000
/-! RTW33: a dict of its own that grows; a drawn book. -/
namespace RT
open PySem PySem.Spec PyProof.Rows L2
open Evl (Ex Ex.refl Ex.trans Ex.new Ex.mut)
mutual
theorem Dx.woD {G : Hp} {x : Addr} {ws : List (Key × V)} (hx : G x = some (.dK ws)) : ∀ {v : V} {d : PyData}, Dx G v d → Dx (wo G x) v d
  | _, _, .non => .non
  | _, _, .bl b => .bl b
  | _, _, .int i => .int i
  | _, _, .str s => .str s
  | _, _, .lst (a := a) h t => .lst (by rw [wo_ne (fun z => by rw [z, hx] at h; cases h)]; exact h) (DxA.woD hx t)
  | _, _, .tup (a := a) h t => .tup (by rw [wo_ne (fun z => by rw [z, hx] at h; cases h)]; exact h) (DxA.woD hx t)
theorem DxA.woD {G : Hp} {x : Addr} {ws : List (Key × V)} (hx : G x = some (.dK ws)) : ∀ {vs : List V} {ds : List PyData}, DxA G vs ds → DxA (wo G x) vs ds
  | _, _, .nil => .nil
  | _, _, .cons h t => .cons (Dx.woD hx h) (DxA.woD hx t)
end
/-- a dict of its own, not known yet -/
structure BD (p d : Addr) (G0 H0 G H : Hp) (kvs : List (Key × PyData)) : Prop where
  s : SP p G0 H0 G H
  n : G d = none
  k : ∃ ws, H d = some (.dK ws) ∧ KDx G ws kvs
section
variable {p d : Addr} {G0 H0 G H G1 H1 : Hp} {kvs : List (Key × PyData)} {σ : L2.St} {D : Ends} {tv te tl : TE} {tw ts : TS} {ky : Key} {R S : Rel} {K : Fg}
theorem BD.go (b : BD p d G0 H0 G H kvs) (dp : d ≠ p) (s : SP p G H G1 H1) : BD p d G0 H0 G1 H1 kvs :=
  let ⟨ws, h1, h2⟩ := b.k
  ⟨b.s.trans s, s.s h1 b.n, ws, s.h dp h1, h2.mono s.g⟩
theorem BD.st (b : BD p d G0 H0 G H kvs) (s : Step G H G1 H1) : BD p d G0 H0 G1 H1 kvs :=
  let ⟨ws, h1, h2⟩ := b.k
  ⟨b.s.step s, s.s d (sm_none h1) b.n, ws, s.h _ _ h1, h2.mono s.g⟩
/-- d[k] = v, what is drawn -/
theorem kp_putB {i : Nat} {α : Type} {Pv : α → Prop} {f : α → PyData} (b : BD p d G0 H0 G H kvs) (e0 : PH p G0 H0) (h0 : H0 d = none) (hσ : σ[i]? = some (some (.ref d))) (hl : kvs.length ≤ 1000) (hv : EDM p tv σ G (exR Pv f))
    (q : ∀ x G1 H1, Pv x → Ex G G1 → BD p d G0 H0 G1 H1 (putG kvs ky (f x)) → D.nx σ H1) : sDPut (tVar i) (tC (kV ky)) tv D σ H :=
  hv H (e0.go b.s) _ fun v G1 H1 s1 ⟨x, hx, r⟩ => by
    have b1 := b.go (e0.a.ne h0) s1
    obtain ⟨ws, h1, h2⟩ := b1.k
    exact ⟨.ref d, hσ, d, _, rfl, DPut.k h1 (by rw [h2.length]; exact sz_lt (by omega)), q x G1 _ hx s1.g ⟨b1.s.mut e0.a h0 b1.n, b1.n, _, upd_same, h2.put r⟩⟩
/-- .. where the dict itself is read -/
theorem k_putB {i : Nat} {dd : PyData} (b : BD p d G0 H0 G H kvs) (e0 : PH p G0 H0) (h0 : H0 d = none) (hσ : σ[i]? = some (some (.ref d))) (hl : kvs.length ≤ 1000) (hv : ∀ Gk, Ex G Gk → (dkR kvs).r (.ref d) Gk → ED tv σ Gk (dt dd))
    (q : ∀ G1 H1, Ex G G1 → BD p d G0 H0 G1 H1 (putG kvs ky dd) → D.nx σ H1) : sDPut (tVar i) (tC (kV ky)) tv D σ H := by
  obtain ⟨ws, h1, h2⟩ := b.k
  have gx : Ex G (upd G d (.dK ws)) := Ex.new b.n
  refine (hv (upd G d (.dK ws)) gx ⟨d, ws, rfl, upd_same, h2.mono gx⟩) H (ex_while b.s.i h1) _ fun v G1 H1 s1 r => ?_
  have s1' := s1.forget b.n
  have b1 := b.st s1'
  have hd1 : G1 d = some (.dK ws) := s1.g _ _ upd_same
  have hh : H1 d = some (.dK ws) := s1'.h _ _ h1
  exact ⟨.ref d, hσ, d, _, rfl, DPut.k hh (by rw [h2.length]; exact sz_lt (by omega)), q (wo G1 d) _ s1'.g ⟨b1.s.mut e0.a h0 b1.n, b1.n, _, upd_same, (h2.mono s1'.g).put (Dx.woD hd1 r)⟩⟩
/-- a test that reads the dict -/
theorem k_ifB {c : Bool} {t : TT} (b : BD p d G0 H0 G H kvs) (h : ∀ Gk, Ex G Gk → (dkR kvs).r (.ref d) Gk → ET t σ Gk c) (q1 : c = true → ∀ G1 H1, Ex G G1 → BD p d G0 H0 G1 H1 kvs → ts D σ H1) (q2 : c = false → ∀ G1 H1, Ex G G1 → BD p d G0 H0 G1 H1 kvs → tw D σ H1) : tIfS t ts tw D σ H := by
  obtain ⟨ws, h1, h2⟩ := b.k
  have gx : Ex G (upd G d (.dK ws)) := Ex.new b.n
  refine k_if (h (upd G d (.dK ws)) gx ⟨d, ws, rfl, upd_same, h2.mono gx⟩) (ex_while b.s.i h1) (fun hc G1 H1 s1 => ?_) fun hc G1 H1 s1 => ?_
  · have s1' := s1.forget b.n
    exact q1 hc _ H1 s1'.g (b.st s1')
  · have s1' := s1.forget b.n
    exact q2 hc _ H1 s1'.g (b.st s1')
theorem edm_lcB {g : TG} {tt : TT} {vs : List Nat} (h : EDM p tl σ G S) (hk : ∀ v G1, Ex G G1 → S.r v G1 → EDM p (tLc (iList K (tC v)) g tt te vs) σ G1 R) : EDM p (tLc (iList K tl) g tt te vs) σ G R := fun H e Q q =>
  h H e (fun v H1 => tLc (iList K (tC v)) g tt te vs σ H1 Q) fun v G1 H1 s r => hk v G1 s.g r H1 (e.go s) Q fun v2 G2 H2 s2 r2 => q v2 G2 H2 (s.trans s2) r2
theorem exR_one {te : TE} {d : PyData} (h : EDM p te σ G (dt d)) : EDM p te σ G (exR (fun _ : Unit => True) (fun _ => d)) := h.imp fun v G1 _ r => ⟨(), True.intro, r⟩
end
/-- a drawn book -/
def bkAny : Rel := ⟨fun v G => ∃ b, LOk b ∧ (lawR b).r v G, fun e ⟨b, h1, h2⟩ => ⟨b, h1, (lawR b).mono e h2⟩⟩
theorem TrOk.rw {t : List (Str × Nat) × List (Nat × Nat)} (h : TrOk t) : RwP t.1 := ⟨h.n1, h.n5, fun r hr => (h.wd r hr).1⟩
def pairS (rows : List (Str × Nat)) (q : Nat × Nat) : PyData := .tuple [.str ((bk0 rows).nm q.1), .str ((bk0 rows).nm q.2)]
def numS (rows : List (Str × Nat)) (q : Nat × Nat) : PyData := .tuple [.str ((bk0 rows).nm q.1), .int (q.2 : Int)]
/-- bars so far -/
structure BrOk (n : Nat) (k : Nat) (bs : List (Nat × Nat)) : Prop where
  l : bs.length ≤ k
  o : ∀ p ∈ bs, p.1 < n ∧ p.2 < n ∧ p.1 ≠ p.2
  u : bs.Pairwise fun p q => p ≠ q ∧ p ≠ (q.2, q.1)
theorem eqv_pairS {b : Bk} (h : ∀ i j, i < b.n → j < b.n → b.nm i = b.nm j → i = j) {q r : Nat × Nat} (hq : q.1 < b.n ∧ q.2 < b.n) (hr : r.1 < b.n ∧ r.2 < b.n) : PyData.eqv (.tuple [.str (b.nm q.1), .str (b.nm q.2)]) (.tuple [.str (b.nm r.1), .str (b.nm r.2)]) = decide (q = r) := by
  rw [PyData.eqv]
  have := eqv_strs [b.nm q.1, b.nm q.2] [b.nm r.1, b.nm r.2]
  simp only [List.map_cons, List.map_nil] at this
  rw [this]
  refine decide_eq_decide.mpr ⟨fun e => ?_, fun e => by rw [e]⟩
  simp only [List.cons.injEq, and_true] at e
  exact Prod.ext (h _ _ hq.1 hr.1 e.1) (h _ _ hq.2 hr.2 e.2)
abbrev kv3 (a b c : PyData) : List (Key × PyData) := [(.inr "skills", a), (.inr "points", b), (.inr "needs", c)]
abbrev kv6 (a b c w x y : PyData) : List (Key × PyData) := kv3 a b c ++ [(.inr "wants", w), (.inr "bars", x), (.inr "gives", y)]
section
variable {a b c w x y z u x' y' : PyData}
theorem put4 : putG (kv3 a b c) (.inr "wants") w = kv3 a b c ++ [(.inr "wants", w)] := rfl
theorem put5 : putG (kv3 a b c ++ [(.inr "wants", w)]) (.inr "bars") x = kv3 a b c ++ [(.inr "wants", w), (.inr "bars", x)] := rfl
theorem put6 : putG (kv3 a b c ++ [(.inr "wants", w), (.inr "bars", x)]) (.inr "gives") y = kv6 a b c w x y := rfl
theorem put7 : putG (kv6 a b c w x y) (.inr "prices") z = kv6 a b c w x y ++ [(.inr "prices", z)] := rfl
theorem put8 : putG (kv6 a b c w x y ++ [(.inr "prices", z)]) (.inr "reset") u = kv6 a b c w x y ++ [(.inr "prices", z), (.inr "reset", u)] := rfl
theorem putBars : putG (kv6 a b c w x y) (.inr "bars") x' = kv6 a b c w x' y := rfl
theorem putGives : putG (kv6 a b c w x y) (.inr "gives") y' = kv6 a b c w x y' := rfl
theorem lookBars : lookG (kv6 a b c w x y) (.inr "bars") = some x := rfl
end
end RT
end
section
set_option maxRecDepth 100000
set_option maxHeartbeats 4000000
/-! RTW34: a drawn book, walked. -/
namespace RT
open PySem PySem.Spec PyProof.Rows L2
open Evl (Ex Ex.refl Ex.trans Ex.new Ex.mut)
theorem kp_putBS {p d : Addr} {G0 H0 G H : Hp} {kvs : List (Key × PyData)} {σ : L2.St} {D : Ends} {tv : TE} {tw : TS} {ky : Key} {i : Nat} {α : Type} {Pv : α → Prop} {f : α → PyData} (b : BD p d G0 H0 G H kvs) (e0 : PH p G0 H0) (h0 : H0 d = none) (hσ : σ[i]? = some (some (.ref d))) (hl : kvs.length ≤ 1000) (hv : EDM p tv σ G (exR Pv f))
    (q : ∀ x G1 H1, Pv x → Ex G G1 → BD p d G0 H0 G1 H1 (putG kvs ky (f x)) → tw D σ H1) : tSeq (sDPut (tVar i) (tC (kV ky)) tv) tw D σ H := kp_putB (D := { D with nx := tw D }) b e0 h0 hσ hl hv q
theorem k_asgAny {σ : L2.St} {H : Hp} {D : Ends} {te : TE} {tw : TS} {g : TG} (h : te σ H fun x H1 => g x σ H1 (tw D)) : tSeq (tAsg te g) tw D σ H := h
theorem ed_optLit {σ : L2.St} {G : Hp} {tA : TA} {l : List (Option Nat)} (h : EAD tA σ G (l.map encO)) (hl : l.length ≤ 1000) : ED (tLst tA) σ G (dt (.list (l.map encO))) := ed_lst h (by rw [List.length_map]; omega)
section
variable {P : Program} {w : World} {K : Fg} {mg : Str → Option Value} {base : Heap} {C : Addr}
theorem c__law_book (T : Txt K mg) : Callee P w K mg base CX0 4 "_law_book" ["_law_pool_here", "_law_top", "_law_sort"] (MSp (fun s : Nat => s ≤ 4) (fun s => [dt (.int ((5 : Nat) : Int)), dt (.int (s : Int))]) (fun _ => bkAny)) := by
  have c__law_take := c__law_take (P := P) (w := w) (base := base) T
  have c__law_one := c__law_one (P := P) (w := w) (base := base) T
  have c__law_turned := c__law_turned (P := P) (w := w) (base := base) T
  have c__law_tree := c__law_tree (P := P) (w := w) (base := base) T
  have c__law_rows := c__law_rows (P := P) (w := w) (base := base) T
  refine calleeM T.d__law_book sc__law_book (fun _ _ _ _ _ _ us hl => match us, hl with | [_, _, _], _ => rfl) (fun _ => rfl) fun f cdv Ar outer s H0 E hr => ?_
  obtain ⟨hu0, hu, hu64, hu65⟩ := room0 hr
  refine ⟨_, (pss_cons (ps_asg (pe_cl c__law_tree hr pass0 (pa_cons (pv 0) (pa_cons (pv 1) pa_nil))) (pg_unlK K (n := 2) (pgs_cons (pg_name (i := 3) sc__law_book.nd rfl (Or.inl rfl)) (pgs_cons (pg_name (i := 4) sc__law_book.nd rfl (Or.inl rfl)) pgs_nil)))) (pss_cons (ps_setLc (i := 5) (own := [("_law_row", 10)]) rfl sc__law_book.nd rfl rfl (sw_true rfl rfl rfl (by decide +kernel)) (pi_listK K (pv 3)) (blkOk_by (own := [("_law_row", 10)]) (N := N__law_book) (sc := defScope s__law_book) (by decide +kernel)) (fun _ _ _ _ _ => (pg_name (i := 10) sc__law_book.nd rfl (Or.inl rfl))) (fun _ _ _ _ _ => pts_nil) (fun _ _ _ _ _ => (pe_ix (ix_seqK K) (pv 10) pe_int (fun _ _ => rfl)))) (pss_cons (ps_set (i := 6) sc__law_book.nd rfl (Or.inl rfl) (pe_ifExp (pt_cmpR (op_eqK K hu64) (pv 2) pe_int (nomark _)) (pe_lst (pa_cons pe_str pa_nil)) (pe_lst (pa_cons pe_str (pa_cons pe_str (pa_cons pe_str (pa_cons pe_str pa_nil))))))) (pss_cons (ps_set (i := 7) sc__law_book.nd rfl (Or.inl rfl) (pe_disp (pps_cons pe_str (pv 3) (pps_cons pe_str (pe_cl c__law_one hr pass0 (pa_cons (pv 0) (pa_cons (pe_lst (pa_cons pe_int (pa_cons pe_int (pa_cons pe_int (pa_cons pe_int (pa_cons pe_int (pa_cons pe_int (pa_cons pe_int (pa_cons pe_int (pa_cons pe_int (pa_cons pe_int pa_nil))))))))))) pa_nil))) (pps_cons pe_str (pv 4) pps_nil))) (by rfl) (by rfl) (fun z => by cases z) (by decide))) (pss_cons (ps_dput hu (pv 7) pe_str (pe_ifExp (pt_cmpR (op_eqK K hu64) (pv 2) pe_int (nomark _)) (pe_lst pa_nil) (pe_cl c__law_rows hr pass0 (pa_cons (pv 0) (pa_cons (pv 5) (pa_cons pe_int (pa_cons (pv 6) (pa_cons (pe_cmpR (op_ltU K hu0) (pv 2) pe_int (nomark _)) pa_nil))))))) rfl) (pss_cons (ps_asg (pe_tup (pa_cons (pe_lst pa_nil) (pa_cons (pe_lst pa_nil) pa_nil))) (pg_tupK K (n := 2) (pgs_cons (pg_sub (pv 7) pe_str (set_dict hu)) (pgs_cons (pg_sub (pv 7) pe_str (set_dict hu)) pgs_nil)))) (pss_cons (ps_for PassesOwn.never rfl (pi_range1 (by rfl) T.f_range (pa_cons (pe_ifExp (L2.PW.pt (pw_and (pt_cmpR op_gt1 (pv 2) pe_int (nomark _)) (pw_and1 (pt_cmpR op_gt1 (pe_callB (call_lenU K) (by rfl) T.f_len (by decide +kernel) (pa_cons (pv 5) pa_nil)) pe_int (nomark _))))) (pe_cl c__law_take hr pass0 (pa_cons (pv 0) (pa_cons pe_int pa_nil))) pe_int) pa_nil)) (pg_name (i := 8) sc__law_book.nd rfl (Or.inl rfl)) (pss_cons (ps_set (i := 9) sc__law_book.nd rfl (Or.inl rfl) (pe_callTy (call_tupleU K) (by rfl) T.f_tuple (by decide +kernel) (pa_cons (pe_slice (sl_listK K) (pe_cl c__law_turned hr pass0 (pa_cons (pv 0) (pa_cons (pv 5) pa_nil))) po_none (po_some pe_int)) pa_nil))) (pss_one (ps_if (L2.PW.pt (pw_and (pt_cmpR (op_ninU K hu65) (pv 9) (pe_dget hu (pv 7) pe_str (fun _ _ => rfl)) (by rfl)) (pw_and1 (pt_cmpR (op_ninU K hu65) (pe_revT K (pv 9)) (pe_dget hu (pv 7) pe_str (fun _ _ => rfl)) (by rfl))))) (pss_one (ps_dput hu (pv 7) pe_str (pe_op (op_addU K) (pe_dget hu (pv 7) pe_str (fun _ _ => rfl)) (pe_lst (pa_cons (pv 9) pa_nil))) rfl)) pss_nil)))) (pss_cons (ps_if (pt_cmpR (op_eqK K hu64) (pv 2) pe_int (nomark _)) (pss_one (ps_dput hu (pv 7) pe_str (pe_lc (own := [("_law_name", 11)]) rfl sc__law_book.nd (pi_listK K (pe_slice (sl_listK K) (pe_cl c__law_turned hr pass0 (pa_cons (pv 0) (pa_cons (pv 5) pa_nil))) po_none (po_some (pe_op (op_addU K) pe_int (pe_cl c__law_take hr pass0 (pa_cons (pv 0) (pa_cons pe_int pa_nil))))))) (blkOk_by (own := [("_law_name", 11)]) (N := N__law_book) (sc := defScope s__law_book) (by decide +kernel)) (fun _ _ _ _ _ => (pg_name (i := 11) sc__law_book.nd rfl (Or.inl rfl))) (fun _ _ _ _ _ => pts_nil) (fun _ _ _ _ _ => (pe_tup (pa_cons (pv 11) (pa_cons (pe_op (op_addU K) pe_int (pe_cl c__law_take hr pass0 (pa_cons (pv 0) (pa_cons pe_int pa_nil)))) pa_nil))))) rfl)) pss_nil) (pss_cons (ps_dput hu (pv 7) pe_str (pe_lc (own := [("_law_name", 11)]) rfl sc__law_book.nd (pi_listK K (pv 5)) (blkOk_by (own := [("_law_name", 11)]) (N := N__law_book) (sc := defScope s__law_book) (by decide +kernel)) (fun _ _ _ _ _ => (pg_name (i := 11) sc__law_book.nd rfl (Or.inl rfl))) (fun _ _ _ _ _ => (pts_one (pt_cmpR (op_eqK K hu64) (pe_cl c__law_take hr pass0 (pa_cons (pv 0) (pa_cons pe_int pa_nil))) pe_int (nomark _)))) (fun _ _ _ _ _ => (pe_tup (pa_cons (pv 11) (pa_cons (pe_cl c__law_one hr pass0 (pa_cons (pv 0) (pa_cons (pe_lst (pa_cons pe_int (pa_cons pe_int (pa_cons pe_int (pa_cons pe_int (pa_cons pe_int (pa_cons pe_int pa_nil))))))) pa_nil))) pa_nil))))) rfl) (pss_cons (ps_dput hu (pv 7) pe_str (pe_cl c__law_one hr pass0 (pa_cons (pv 0) (pa_cons (pe_lst (pa_cons pe_non (pa_cons pe_non (pa_cons pe_int (pa_cons pe_int (pa_cons pe_int (pa_cons pe_int (pa_cons pe_int (pa_cons pe_int pa_nil))))))))) pa_nil))) rfl) (pss_one (ps_ret (pv 7))))))))))))), fun sort p vs G H D hs hA e q => ?_⟩
  have hs : sort ≤ 4 := hs
  obtain ⟨x1, x2, rfl, h1, h2⟩ := hA.two
  -- the tree
  refine (edm_call (R := exR TrOk treeD) () (eam_cons (.of (ed_ref (by rfl))) (eam_cons (.of (ed_var (by rfl) h1)) eam_nil)) True.intro) H e _ fun tv G1 H1 s1 ⟨⟨rows, needs⟩, ht, rt⟩ => ?_
  have ht : TrOk (rows, needs) := ht
  obtain ⟨ta, txs, rfl, eta, rtx⟩ := Dx.list_inv rt
  cases rtx with | cons rr rtx =>
  cases rtx with | cons rn rtx =>
  cases rtx
  rename_i rv av
  refine ⟨ta, _, rfl, SqL.of (s1.i _ _ eta), rfl, _, _, rfl, _, _, rfl, rfl, ?_⟩
  have e1 := e.go s1
  have hR := ht.rw
  generalize hb : bk0 rows = b
  have hn : b.n = rows.length := by rw [← hb]; rfl
  have hrw : b.rows = rows := by rw [← hb]; rfl
  have n1 : 1 ≤ b.n := by rw [hn]; exact hR.n1
  have n5 : b.n ≤ 5 := by rw [hn]; exact hR.n5
  have hw : ∀ {i : Nat}, i < b.n → wordS (b.nm i) = true := fun {i} hi => hR.wd (b.nm i, b.tier i) (by rw [← hrw]; exact List.mem_of_getElem? (row_get hi))
  have inj : ∀ i j, i < b.n → j < b.n → b.nm i = b.nm j → i = j := fun i j hi hj e => by
    have k1 := nm_get hi
    have k2 := nm_get hj
    rw [e] at k1
    have nd : b.nms.Nodup := by unfold Bk.nms; rw [hrw]; exact ht.nd
    exact (List.getElem?_inj (show i < b.nms.length by rw [nms_len]; exact hi) nd).mp (k1.trans k2.symm)
  have nd1 : SeqAt.shaped (.list []) = true := rfl
  refine k_asgS (R := dt (.list (((List.range b.n).map b.nm).map .str))) (σ := ([some (.ref p), some x1, some x2, some rv, some av, none, none, none, none, none, none, none] : L2.St)) (ED.eq (ed_lcN1 (xs := rows) (Rx := fun q => dt (rowD q)) (f := fun q => .str q.1) (ei_listM (ed_var (by rfl) rr)) (by have := hR.n5; omega) fun q hq y G2 g2 ry => ed_ixT (ed_var (by rfl) ry) ed_int at0) (by rw [← nms_eq]; unfold Bk.nms; rw [hrw, List.map_map]; rfl)) e1.e fun nv G2 H2 s2 rnm => ?_
  have e2 := e1.st s2
  have kd : ∃ kinds : List WK, (kinds = [.all] ∨ kinds = [.all, .any, .any, .count]) ∧ (if sort = 1 then kinds = [.all] else kinds = [.all, .any, .any, .count]) := by
    by_cases h : sort = 1
    · exact ⟨[.all], .inl rfl, by rw [if_pos h]⟩
    · exact ⟨[.all, .any, .any, .count], .inr rfl, by rw [if_neg h]⟩
  obtain ⟨kinds, hk1, hk2⟩ := kd
  have srt : ∀ {σ : L2.St} {G9}, σ[2]? = some (some x2) → Ex G G9 → ED (tVar 2) σ G9 (dt (.int (sort : Int))) := fun hσ g => ed_var hσ (Dx.mono g h2)
  have g12 := s1.g.trans s2.g
  refine k_asgS (R := dt (.list ((kinds.map kS).map .str))) (σ := ([some (.ref p), some x1, some x2, some rv, some av, some nv, none, none, none, none, none, none] : L2.St)) (ed_if (b := decide (sort = 1)) (ET.eq (et_test (ed_eqI (srt (by rfl) g12) (ed_int (i := ((1 : Nat) : Int))))) (decide_eq_decide.mpr ⟨fun h => by omega, fun h => by omega⟩)) (fun hc => ?_) fun hc => ?_) e2.e fun wv G3 H3 s3 rw3 => ?_
  · rw [if_pos (of_decide_eq_true hc)] at hk2
    rw [hk2]
    exact ed_lst (ead_cons ed_str ead_nil) (by simp)
  · rw [if_neg (of_decide_eq_false hc)] at hk2
    rw [hk2]
    exact ed_lst (ead_cons ed_str (ead_cons ed_str (ead_cons ed_str (ead_cons ed_str ead_nil)))) (by simp)
  have e3 := e2.st s3
  have g13 := g12.trans s3.g
  -- the dict
  refine fun d hd0 => ⟨rv, rfl, ?_⟩
  have dp : d ≠ p := e3.a.ne hd0
  have gd : G3 d = none := ex_none e3.e hd0
  have S4 : SP p G3 H3 G3 (upd H3 d (.dK [])) := (SP.refl e3).mut e3.a hd0 gd
  refine (edm_one (σ := ([some (.ref p), some x1, some x2, some rv, some av, some nv, some wv, none, none, none, none, none] : L2.St)) (ds := [0, 1, 2, 2, 3, 3, 4, 5, 7, 12].map fun i : Nat => PyData.int (i : Int)) (ed_ref (by rfl)) (ed_lst (ead_cons ed_int (ead_cons ed_int (ead_cons ed_int (ead_cons ed_int (ead_cons ed_int (ead_cons ed_int (ead_cons ed_int (ead_cons ed_int (ead_cons ed_int (ead_cons ed_int ead_nil)))))))))) (by simp)) (by simp)) _ (e3.go S4) _ fun pv G5 H5 s5 r5 => ?_
  obtain ⟨pts, hpts, rfl⟩ := one_nat r5
  have hpts : pts ≤ 12 := by simp at hpts; omega
  have hd5 : H5 d = some (.dK []) := s5.h dp upd_same
  have gd5 : G5 d = none := s5.s upd_same gd
  have g35 := s5.g
  refine ⟨av, rfl, hd5, [(.inr "skills", rv), (.inr "points", .int (pts : Int)), (.inr "needs", av)], rfl, by simp, ?_⟩
  have B5 : BD p d G3 H3 G5 (upd H5 d (.dK (mergeK [] [(.inr "skills", rv), (.inr "points", .int (pts : Int)), (.inr "needs", av)]))) (kv3 (.list (rows.map rowD)) (.int (pts : Int)) (.list (needs.map pairD))) :=
    ⟨(S4.trans s5).mut e3.a hd0 gd5, gd5, _, upd_same, .cons ⟨rfl, Dx.mono ((s2.g.trans s3.g).trans g35) rr⟩ (.cons ⟨rfl, .int _⟩ (.cons ⟨rfl, Dx.mono ((s2.g.trans s3.g).trans g35) rn⟩ .nil))⟩
  -- the wants
  have rowsC : ∀ {σ : L2.St} {G9}, σ[0]? = some (some (.ref p)) → σ[2]? = some (some x2) → σ[5]? = some (some nv) → σ[6]? = some (some wv) → Ex G3 G9 → EDM p (tCall (MSp (fun a : List (Str × Nat) × List WK × Bool => RwP a.1 ∧ (a.2.1 = [.all] ∨ a.2.1 = [.all, .any, .any, .count])) (fun a => [dt (.list ((bk0 a.1).nms.map .str)), dt (.int ((4 : Nat) : Int)), dt (.list ((a.2.1.map kS).map .str)), dt (.bool a.2.2)]) (fun a => exR (WsOk a.1.length) (fun ws => .list (ws.map (dWant (bk0 a.1)))))) [] E0 (tCons (tVar 0) (tCons (tVar 5) (tCons (tC (.int 4)) (tCons (tVar 6) (tCons (tOp (rLtU K) (tVar 2) (tC (.int 3))) tNil)))))) σ G9 (exR (WsOk b.n) (fun ws => .list (ws.map (dWant b)))) := fun {σ G9} k0 k2 k5 k6 g => by
    refine edm_call (rows, kinds, decide ((sort : Int) < 3)) (eam_cons (.of (ed_ref k0)) (eam_cons (.of (ed_var k5 (?_ : Dx G9 nv (.list ((bk0 rows).nms.map .str))))) (eam_cons (.of (ed_int (i := ((4 : Nat) : Int)))) (eam_cons (.of (ed_var k6 (Dx.mono g rw3))) (eam_cons (.of (ed_lt (srt k2 (g13.trans g)) ed_int)) eam_nil))))) ⟨hR, hk1⟩ ?_
    · rw [hb, nms_eq]; exact Dx.mono (s3.g.trans g) rnm
    · rw [hn, ← hb]
  dsimp only [gName]
  show tSeq (sDPut _ _ _) _ D ([some (.ref p), some x1, some x2, some rv, some av, some nv, some wv, some (.ref d), none, none, none, none] : L2.St) _
  refine kp_putBS (ky := .inr "wants") (Pv := WsOk b.n) (f := fun ws => .list (ws.map (dWant b))) B5 e3 hd0 (by rfl) (by simp) (edm_if (b := decide (sort = 0)) (ET.eq (et_test (ed_eqI (srt (by rfl) (g13.trans g35)) (ed_int (i := ((0 : Nat) : Int))))) (decide_eq_decide.mpr ⟨fun h => by omega, fun h => by omega⟩)) (fun _ => (EDM.of (ed_lst ead_nil (by simp))).imp fun v G9 _ r => ⟨[], ⟨by simp, fun _ z => (nomatch z)⟩, r⟩) fun _ => rowsC (by rfl) (by rfl) (by rfl) (by rfl) g35) fun wants G6 H6 hws g6 B6 => ?_
  rw [put4] at B6
  have e6 := e3.go B6.s
  -- bars, gives
  have two : ED (tTup (tCons (tLst tNil) (tCons (tLst tNil) tNil))) ([some (.ref p), some x1, some x2, some rv, some av, some nv, some wv, some (.ref d), none, none, none, none] : L2.St) G6 (dt (.tuple [.list [], .list []])) := ed_tup (ead_cons (ed_lst ead_nil (by simp)) (ead_cons (ed_lst ead_nil (by simp)) ead_nil)) (by simp)
  refine k_asgAny (two H6 e6.e _ fun ev G7 H7 s7 r7 => ?_)
  obtain ⟨ea, y1, y2, rfl, eea, ry1, ry2⟩ := dx_pair r7
  have B7 := B6.st s7
  obtain ⟨ws7, hd7, kd7⟩ := B7.k
  have B8 : BD p d G3 H3 G7 (upd H7 d (.dK (putK ws7 (.inr "bars") y1))) _ := ⟨B7.s.mut e3.a hd0 B7.n, B7.n, _, upd_same, kd7.put ry1⟩
  rw [put5] at B8
  refine ⟨ea, _, rfl, SqT.of (s7.i _ _ eea), rfl, _, _, rfl, .ref d, rfl, d, _, rfl, DPut.k (k := .inr "bars") hd7 (by rw [kd7.length]; exact sz_lt (by simp)), ?_⟩
  obtain ⟨ws8, hd8, kd8⟩ := B8.k
  have B9 : BD p d G3 H3 G7 _ _ := ⟨B8.s.mut e3.a hd0 B8.n, B8.n, _, upd_same (o := .dK (putK ws8 (.inr "gives") y2)), kd8.put ry2⟩
  rw [put6] at B9
  refine ⟨_, _, rfl, .ref d, rfl, d, _, rfl, DPut.k (k := .inr "gives") hd8 (by rw [kd8.length]; exact sz_lt (by simp)), rfl, ?_⟩
  have g37 : Ex G3 G7 := B9.s.g
  have nms : ∀ {σ : L2.St} {G9}, σ[5]? = some (some nv) → Ex G3 G9 → ED (tVar 5) σ G9 (dt (.list (((List.range b.n).map b.nm).map .str))) := fun hσ g => ed_var hσ (Dx.mono (s3.g.trans g) rnm)
  have shN : ∀ dd ∈ ((List.range b.n).map b.nm).map PyData.str, Sh 3 dd := fun dd hd => by
    obtain ⟨s, hs, rfl⟩ := List.mem_map.mp hd
    obtain ⟨j, hj, rfl⟩ := List.mem_map.mp hs
    exact (Sh.word (hw (List.mem_range.mp hj))).mono (by decide)
  have e9 := e3.go B9.s
  -- the loop of the bars
  show tSeq (tFor _ _ _) _ D ([some (.ref p), some x1, some x2, some rv, some av, some nv, some wv, some (.ref d), none, none, none, none] : L2.St) _
  refine k_bindR (D := { D with nx := _ }) ?_
  refine (edm_if (b := decide (1 < sort) && decide (1 < b.n)) (R := exR (fun k : Nat => k ≤ 2 ∧ (0 < k → 1 < b.n)) (fun k => .int (k : Int))) (et_and (ET.eq (et_test (ed_gt (srt (by rfl) (g13.trans g37)) (ed_int (i := ((1 : Nat) : Int))))) (dec_lt _ _)) fun _ => ET.eq (et_test (ed_gt (ed_lenL (nms (by rfl) g37)) (ed_int (i := ((1 : Nat) : Int))))) (by simp; omega)) (fun hc => ?_) fun _ => (EDM.of ed_int).imp fun v G9 _ r => ⟨0, ⟨by omega, fun z => by omega⟩, r⟩) _ e9 _ fun kv G10 H10 s10 ⟨kt, ⟨hkt, hkn⟩, rk⟩ => ?_
  · rw [Bool.and_eq_true] at hc
    have hc2 : 1 < b.n := of_decide_eq_true hc.2
    exact (edm_take (n := 3) (ed_ref (by rfl)) ed_int (by decide)).imp fun v G9 _ ⟨k, hk, r⟩ => ⟨k, ⟨by omega, fun _ => hc2⟩, r⟩
  cases Dx.int_inv rk
  have B10 := B9.go dp s10
  refine k_for (D := { D with nx := _ }) (xs := List.range kt) (Rx := fun i : Nat => dt (.int (i : Int))) (ei_range (ed_c (.int _)) (by omega)) s10.i
    (fun j σ' G' H' => ∃ a8 a9, σ' = [some (.ref p), some x1, some x2, some rv, some av, some nv, some wv, some (.ref d), a8, a9, none, none] ∧ ∃ bars, BrOk b.n j bars ∧ BD p d G3 H3 G' H' (kv6 (.list (rows.map rowD)) (.int (pts : Int)) (.list (needs.map pairD)) (.list (wants.map (dWant b))) (.list (bars.map fun q => .tuple [.str (b.nm q.1), .str (b.nm q.2)])) (.list [])))
    (fun G11 H11 s11 => ⟨none, none, rfl, [], ⟨Nat.le_refl _, fun _ z => (nomatch z), .nil⟩, B10.st s11⟩) (fun j σ' G' H' ⟨_, _, _, _, _, B⟩ => B.s.i) ?_ ?_
  · intro G11 g11 j t u σ' G' H' G12 H12 hj hI g12' s12 ru
    obtain ⟨a8, a9, rfl, bars, hbr, BI⟩ := hI
    have hjt : j < kt := by have := (List.getElem?_eq_some_iff.mp hj).1; simpa using this
    have hn2 : 1 < b.n := hkn (by omega)
    have BJ := BI.st s12
    have eJ := e3.go BJ.s
    refine kp_asgS (R := exR (fun q : Nat × Nat => q.1 < b.n ∧ q.2 < b.n ∧ q.1 ≠ q.2) (fun q => .tuple [.str (b.nm q.1), .str (b.nm q.2)])) (σ := ([some (.ref p), some x1, some x2, some rv, some av, some nv, some wv, some (.ref d), some u, a9, none, none] : L2.St)) (edm_cb1 (S1 := exR (fun q : Nat × Nat => q.1 < b.n ∧ q.2 < b.n ∧ q.1 ≠ q.2) (fun q => .list [.str (b.nm q.1), .str (b.nm q.2)])) (edm_slTo (S1 := turnR (((List.range b.n).map b.nm).map .str)) (S2 := dt (.int ((2 : Nat) : Int))) (edm_turn (ed_ref (by rfl)) (nms (by rfl) BJ.s.g) (by simp; omega) shN) (.of ed_int) fun v y G13 g ⟨ds, hp, r1⟩ r2 => ?_) fun v G13 g ⟨q, hq, r⟩ => (ed_tupL (ed_c r)).imp fun v G14 r => ⟨q, hq, r⟩) eJ fun qv G13 H13 s13 ⟨⟨i, k⟩, ⟨hi, hk, hik⟩, r13⟩ => ?_
    · obtain ⟨l, hl, rfl⟩ := perm_map_inv (f := fun j => PyData.str (b.nm j)) hp (List.range b.n) (by rw [List.map_map]; rfl)
      have hll := hl.length_eq
      rw [List.length_range] at hll
      have hnd := hl.nodup_iff.mpr List.nodup_range
      have hmem : ∀ j ∈ l, j < b.n := fun j hj => List.mem_range.mp (hl.subset hj)
      match l, hll, hnd, hmem, r1 with
      | [], hll, _, _, _ => simp at hll; omega
      | [a], hll, _, _, _ => simp at hll; omega
      | a :: c :: l, _, hnd, hmem, r1 =>
        refine (ed_slice (ed_c r1) eo_none (eo_some (ed_c r2))).imp fun v G14 r => ⟨(a, c), ⟨hmem a (by simp), hmem c (by simp), fun z => ?_⟩, ?_⟩
        · have z : a = c := z
          subst z
          simp at hnd
        · rw [cut_to] at r
          exact r
    dsimp only at hi hk hik r13
    have B13 := BJ.go dp s13
    have bw : ∀ {b' : Nat × Nat}, b' ∈ bars → b'.1 < b.n ∧ b'.2 < b.n := fun hb' => ⟨(hbr.o _ hb').1, (hbr.o _ hb').2.1⟩
    have anyEq : ∀ {r : Nat × Nat}, r.1 < b.n ∧ r.2 < b.n → (bars.map fun q : Nat × Nat => PyData.tuple [.str (b.nm q.1), .str (b.nm q.2)]).any (fun z => PyData.eqv z (.tuple [.str (b.nm r.1), .str (b.nm r.2)])) = decide (r ∈ bars) := fun {r} hr' => by
      rw [List.any_map, Bool.eq_iff_iff, List.any_eq_true, decide_eq_true_iff]
      constructor
      · rintro ⟨z, hz, h⟩
        have h : PyData.eqv (.tuple [.str (b.nm z.1), .str (b.nm z.2)]) (.tuple [.str (b.nm r.1), .str (b.nm r.2)]) = true := h
        rw [eqv_pairS inj (bw hz) hr'] at h
        rw [← of_decide_eq_true h]; exact hz
      · intro h
        refine ⟨r, h, ?_⟩
        show PyData.eqv (.tuple [.str (b.nm r.1), .str (b.nm r.2)]) (.tuple [.str (b.nm r.1), .str (b.nm r.2)]) = true
        rw [eqv_pairS inj hr' hr']; simp
    have shP : ∀ {r : Nat × Nat}, r.1 < b.n ∧ r.2 < b.n → Sh 1 (.tuple [.str (b.nm r.1), .str (b.nm r.2)]) := fun {r} hr' => Sh.tuple (k := 0) fun dd hd => by
      rcases List.mem_cons.mp hd with z | z
      · rw [z]; exact Sh.word (hw hr'.1)
      · rw [List.mem_singleton.mp z]; exact Sh.word (hw hr'.2)
    have shB : SeqAt.shaped (.list (bars.map fun q : Nat × Nat => PyData.tuple [.str (b.nm q.1), .str (b.nm q.2)])) = true := (Sh.list (k := 1) fun dd hd => by
      obtain ⟨r, hr', rfl⟩ := List.mem_map.mp hd
      exact shP (bw hr')).shaped
    have rd : ∀ {σ : L2.St} {Gk : Hp}, σ[7]? = some (some (.ref d)) → (dkR (kv6 (.list (rows.map rowD)) (.int (pts : Int)) (.list (needs.map pairD)) (.list (wants.map (dWant b))) (.list (bars.map fun q => .tuple [.str (b.nm q.1), .str (b.nm q.2)])) (.list []))).r (.ref d) Gk → ED (tDGet (tVar 7) (tC (.str "bars"))) σ Gk (dt (.list (bars.map fun q => .tuple [.str (b.nm q.1), .str (b.nm q.2)]))) := fun hσ r => ed_dget (k := .inr "bars") (ed_var hσ r) ed_str lookBars
    show tIfS _ _ tNext _ ([some (.ref p), some x1, some x2, some rv, some av, some nv, some wv, some (.ref d), some u, some qv, none, none] : L2.St) H13
    refine k_ifB (D := { nx := _, rt := _, ct := _, bk := _ }) (c := !decide ((i, k) ∈ bars) && !decide ((k, i) ∈ bars)) B13 (fun Gk gk rk' => et_and (ET.eq (et_test (ed_ninD (ed_var (by rfl) (Dx.mono gk r13)) (rd (by rfl) rk') (shP (r := (i, k)) ⟨hi, hk⟩).shaped shB)) (by rw [anyEq (r := (i, k)) ⟨hi, hk⟩])) fun _ => ET.eq (et_test (ed_ninD (ed_revT (ed_var (by rfl) (Dx.mono gk r13))) (rd (by rfl) rk') (shP (r := (k, i)) ⟨hk, hi⟩).shaped shB)) (by rw [anyEq (r := (k, i)) ⟨hk, hi⟩])) (fun hc G14 H14 g14 B14 => ?_) fun hc G14 H14 g14 B14 => ?_
    · refine k_putB (D := { nx := _, rt := _, ct := _, bk := _ }) (ky := .inr "bars") (dd := .list ((bars ++ [(i, k)]).map fun q => .tuple [.str (b.nm q.1), .str (b.nm q.2)])) B14 e3 hd0 (by rfl) (by simp) (fun Gk gk rk' => ED.eq (ed_cat (rd (by rfl) rk') (ed_lst (ead_cons (ed_var (by rfl) (Dx.mono (g14.trans gk) r13)) ead_nil) (by simp)) (by have := hbr.l; simp; omega)) (by rw [List.map_append]; rfl)) fun G15 H15 g15 B15 => ?_
      rw [putBars] at B15
      rw [Bool.and_eq_true] at hc
      have hc1 : (i, k) ∉ bars := by simpa using hc.1
      have hc2 : (k, i) ∉ bars := by simpa using hc.2
      refine ⟨G15, g12'.trans (s12.g.trans (s13.g.trans (g14.trans g15))), _, _, rfl, bars ++ [(i, k)], ⟨by have := hbr.l; simp; omega, fun r hr' => ?_, ?_⟩, B15⟩
      · rcases List.mem_append.mp hr' with z | z
        · exact hbr.o r z
        · rw [List.mem_singleton.mp z]; exact ⟨hi, hk, hik⟩
      · rw [List.pairwise_append]
        refine ⟨hbr.u, List.pairwise_singleton _ _, fun a ha c hc' => ?_⟩
        rw [List.mem_singleton.mp hc']
        exact ⟨fun z => hc1 (z ▸ ha), fun z => hc2 (z ▸ ha)⟩
    · exact ⟨G14, g12'.trans (s12.g.trans (s13.g.trans g14)), _, _, rfl, bars, ⟨by have := hbr.l; omega, hbr.o, hbr.u⟩, B14⟩
  · rintro σ' G' H' ⟨a8, a9, rfl, bars, hbr, BI⟩ _
    rw [List.length_range] at hbr
    have eI := e3.go BI.s
    have gI := BI.s.g
    -- the end: prices, reset
    have fin : ∀ (gives : List (Nat × Nat)) G' H', (gives.length ≤ 5 ∧ (∀ r ∈ gives, r.1 < b.n ∧ 1 ≤ r.2 ∧ r.2 ≤ 3) ∧ (gives.map (·.1)).Nodup) → BD p d G3 H3 G' H' (kv6 (.list (rows.map rowD)) (.int (pts : Int)) (.list (needs.map pairD)) (.list (wants.map (dWant b))) (.list (bars.map fun q => .tuple [.str (b.nm q.1), .str (b.nm q.2)])) (.list (gives.map fun q => .tuple [.str (b.nm q.1), .int (q.2 : Int)]))) →
        (tSeq (sDPut (tVar 7) (tC (.str "prices")) (tLc (iList K (tVar 5)) (gName 11) (tTest (tOp (rEqD K) (tCall TakeSp [] E0 (tCons (tVar 0) (tCons (tC (.int 2)) tNil))) (tC (.int 0)))) (tTup (tCons (tVar 11) (tCons (tCall OneSp [] E0 (tCons (tVar 0) (tCons (tLst (tCons (tC (.int 0)) (tCons (tC (.int 1)) (tCons (tC (.int 2)) (tCons (tC (.int 3)) (tCons (tC (.int 7)) (tCons (tC (.int 99)) tNil))))))) tNil))) tNil))) [11])) (tSeq (sDPut (tVar 7) (tC (.str "reset")) (tCall OneSp [] E0 (tCons (tVar 0) (tCons (tLst (tCons (tC .non) (tCons (tC .non) (tCons (tC (.int 0)) (tCons (tC (.int 1)) (tCons (tC (.int 2)) (tCons (tC (.int 4)) (tCons (tC (.int 9)) (tCons (tC (.int 99)) tNil))))))))) tNil)))) (tRet (tVar 7)))) D ([some (.ref p), some x1, some x2, some rv, some av, some nv, some wv, some (.ref d), a8, a9, none, none] : L2.St) H' := fun gives G' H' hgv BI => by
      refine kp_putBS (ky := .inr "prices") (Pv := fun l : List (Nat × Nat) => l.length ≤ 5 ∧ (∀ r ∈ l, r.1 < b.n ∧ r.2 ≤ 99) ∧ (l.map (·.1)).Nodup) (f := fun l => .list (l.map fun q => .tuple [.str (b.nm q.1), .int (q.2 : Int)])) BI e3 hd0 (by rfl) (by simp) (edm_lcX (xs := List.range b.n) (Rx := fun i => dt (.str (b.nm i))) (fun i ds => ∃ l : List (Nat × Nat), ds = (l.map fun q => PyData.tuple [.str (b.nm q.1), .int (q.2 : Int)]) ∧ l.length ≤ i ∧ (∀ r ∈ l, r.1 < i ∧ r.2 ≤ 99) ∧ (l.map (·.1)).Nodup) ?_ (by simp; omega) ⟨[], rfl, Nat.le_refl _, fun _ z => (nomatch z), List.nodup_nil⟩ (fun i x hx v Gv gv rv' => ?_) (fun i ds ⟨l, h1, h2, _⟩ => by rw [h1, List.length_map]; exact h2) fun v Gv ds ⟨l, h1, h2, h3, h4⟩ r => ?_) fun prices G15 H15 hpr g15 B15 => ?_
      · have := ei_list (K := K) (nms (σ := ([some (.ref p), some x1, some x2, some rv, some av, some nv, some wv, some (.ref d), a8, a9, none, none] : L2.St)) (by rfl) BI.s.g)
        rw [List.map_map, List.map_map] at this
        exact this
      · have hxi : x = i ∧ i < b.n := by
          obtain ⟨h1, h2⟩ := List.getElem?_eq_some_iff.mp hx
          simp at h1 h2
          exact ⟨h2.symm, h1⟩
        obtain ⟨rfl, hxn⟩ := hxi
        refine ⟨fun _ => True, etm_test (edm_op (S1 := takeR 2) (S2 := dt (.int 0)) (edm_take (ed_ref (by rfl)) (ed_int (i := ((2 : Nat) : Int))) (by decide)) (.of ed_int) fun x y G9 g ⟨k, _, r1⟩ r2 => (ed_eqI (ed_c r1) (ed_c r2)).imp fun v G9 r => ⟨_, True.intro, r⟩), fun _ ds ⟨l, h1, h2, h3, h4⟩ => ⟨l, h1, by omega, fun r hr' => by have := h3 r hr'; omega, h4⟩, fun _ => ⟨exR (fun c : Nat => c ≤ 99) (fun c => .tuple [.str (b.nm x), .int (c : Int)]), edm_tup (Rs := [dt (.str (b.nm x)), oneR ([0, 1, 2, 3, 7, 99].map fun i : Nat => PyData.int (i : Int))]) (eam_cons (.of (ed_var (by rfl) rv')) (eam_cons (edm_one (ed_ref (by rfl)) (ed_lst (ead_cons ed_int (ead_cons ed_int (ead_cons ed_int (ead_cons ed_int (ead_cons ed_int (ead_cons ed_int ead_nil)))))) (by simp)) (by simp)) eam_nil)) (by simp) fun us G9 g ra a ha => ?_, fun y G9 ⟨c, hc, r⟩ => ⟨_, r, fun ds ⟨l, h1, h2, h3, h4⟩ => ⟨l ++ [(x, c)], by rw [h1, List.map_append]; rfl, by simp; omega, fun r hr' => ?_, ?_⟩⟩⟩⟩
        · obtain ⟨y1, y2, rfl, k1, k2⟩ := ra.two
          obtain ⟨c, hc, rfl⟩ := one_nat k2
          exact ⟨c, by simp at hc; omega, .tup ha (.cons k1 (.cons (.int _) .nil))⟩
        · rcases List.mem_append.mp hr' with z | z
          · have := h3 r z; omega
          · rw [List.mem_singleton.mp z]; exact ⟨by show x < x + 1; omega, hc⟩
        · rw [List.map_append, List.nodup_append]
          refine ⟨h4, by simp, fun a ha c' hc' => ?_⟩
          obtain ⟨r, hr', rfl⟩ := List.mem_map.mp ha
          have := (h3 r hr').1
          have : c' = x := by simpa using hc'
          omega
      · rw [List.length_range] at h2 h3
        exact ⟨l, ⟨by omega, h3, h4⟩, by rw [h1] at r; exact r⟩
      · rw [put7] at B15
        refine kp_putBS (ky := .inr "reset") (Pv := fun o : Option Nat => ∀ r, o = some r → r ≤ 99) (f := encO) B15 e3 hd0 (by rfl) (by simp) ((edm_one (ds := [none, none, some 0, some 1, some 2, some 4, some 9, some 99].map encO) (ed_ref (by rfl)) (ed_optLit (l := [none, none, some 0, some 1, some 2, some 4, some 9, some 99]) (ead_cons ed_non (ead_cons ed_non (ead_cons ed_int (ead_cons ed_int (ead_cons ed_int (ead_cons ed_int (ead_cons ed_int (ead_cons ed_int ead_nil)))))))) (by simp)) (by simp)).imp fun v G9 _ ⟨dd, hd, r⟩ => ?_) fun rst G16 H16 hrs g16 B16 => ?_
        · obtain ⟨o, ho, rfl⟩ := List.mem_map.mp hd
          refine ⟨o, fun z hz => ?_, r⟩
          subst hz
          simp at ho
          omega
        · rw [put8] at B16
          obtain ⟨ws16, hd16, kd16⟩ := B16.k
          have S17 := B16.s.pub hd0 B16.n hd16
          have gx : Ex G16 (upd G16 d (.dK ws16)) := Ex.new B16.n
          let bb : Bk := ⟨rows, pts, needs, wants, bars, gives, prices, rst⟩
          have hbn : bb.n = b.n := hn.symm
          have wO : ∀ {x : Wt}, WOk b.n x → WOk bb.n x := fun {x} h => by rw [hbn]; exact h
          have lk : LOk bb := ⟨⟨ht.n1, ht.n5, fun r hr' => (ht.wd r hr').1, ht.nd, ht.tr, ht.ts, hpts, ht.nl, ht.no, ht.nsd, Nat.le_trans hws.l (by decide), fun w hw' => wO (hws.o w hw'), by show bars.length ≤ 6; have := hbr.l; omega, fun r hr' => by rw [hbn]; exact hbr.o r hr', hbr.u, by show gives.length ≤ 12; omega, fun r hr' => by rw [hbn]; exact hgv.2.1 r hr', hgv.2.2, by show prices.length ≤ 12; omega, fun r hr' => by rw [hbn]; exact hpr.2.1 r hr', hpr.2.2, hrs⟩, fun z => by
            obtain ⟨r, hr', hz⟩ := List.mem_map.mp z
            exact (ht.wd r hr').2 hz⟩
          have enm : ∀ i, bb.nm i = b.nm i := fun i => by rw [← hb]; rfl
          have ekv : kv6 (.list (rows.map rowD)) (.int (pts : Int)) (.list (needs.map pairD)) (.list (wants.map (dWant b))) (.list (bars.map fun q => .tuple [.str (b.nm q.1), .str (b.nm q.2)])) (.list (gives.map fun q => .tuple [.str (b.nm q.1), .int (q.2 : Int)])) ++ [(.inr "prices", .list (prices.map fun q => .tuple [.str (b.nm q.1), .int (q.2 : Int)])), (.inr "reset", encO rst)] = prts bb := by
            have er : encO rst = dReset bb := by cases rst <;> rfl
            rw [er, ← hb]; rfl
          rw [ekv] at kd16
          refine k_ret (R := lawR bb) (ed_var (by rfl) ⟨d, ws16, rfl, upd_same, kd16.mono gx⟩) S17.i fun v G18 H18 s18 rr' => q v G18 H18 ?_ ⟨bb, lk, rr'⟩
          have S03 : SP p G H G3 H3 := ((s1.step s2).step s3)
          exact (S03.trans S17).step s18
    refine k_if (D := { D with nx := _ }) (b := decide (sort = 4)) (ET.eq (et_test (ed_eqI (srt (by rfl) (g13.trans gI)) (ed_int (i := ((4 : Nat) : Int))))) (decide_eq_decide.mpr ⟨fun h => by omega, fun h => by omega⟩)) eI.e (fun hc G14 H14 s14 => ?_) fun hc G14 H14 s14 => ?_
    · have B14 := BI.st s14
      refine kp_putB (D := { D with nx := _ }) (ky := .inr "gives") (Pv := fun l : List (Nat × Nat) => l.length ≤ 5 ∧ (∀ r ∈ l, r.1 < b.n ∧ 1 ≤ r.2 ∧ r.2 ≤ 3) ∧ (l.map (·.1)).Nodup) (f := fun l => .list (l.map fun q => .tuple [.str (b.nm q.1), .int (q.2 : Int)])) B14 e3 hd0 (by rfl) (by simp) (edm_lcB (S := exR (fun l : List Nat => l.Nodup ∧ (∀ j ∈ l, j < b.n) ∧ l.length ≤ 5) (fun l => .list (l.map fun j => .str (b.nm j)))) (edm_slTo (S1 := turnR (((List.range b.n).map b.nm).map .str)) (S2 := exR (fun k : Nat => k ≤ 2) (fun k => .int (k : Int))) (edm_turn (ed_ref (by rfl)) (nms (by rfl) B14.s.g) (by simp; omega) shN) (edm_op (S1 := dt (.int ((1 : Nat) : Int))) (S2 := takeR 2) (.of ed_int) (edm_take (ed_ref (by rfl)) (ed_int (i := ((2 : Nat) : Int))) (by decide)) fun v y G9 g r1 ⟨k, hk, r2⟩ => (ed_addN (ed_c r1) (ed_c r2)).imp fun v G9 r => ⟨1 + k, by omega, r⟩) fun v y G9 g ⟨ds, hp, r1⟩ ⟨k, hk, r2⟩ => ?_) fun v Gv gv ⟨l0, ⟨hl1, hl2, hl3⟩, rl⟩ => edm_lcX (xs := l0) (Rx := fun j => dt (.str (b.nm j))) (fun i ds => ∃ l : List (Nat × Nat), ds = (l.map fun q => PyData.tuple [.str (b.nm q.1), .int (q.2 : Int)]) ∧ l.map (·.1) = l0.take i ∧ ∀ r ∈ l, 1 ≤ r.2 ∧ r.2 ≤ 3) (ei_listM (ed_c rl)) (by omega) ⟨[], rfl, rfl, fun _ z => (nomatch z)⟩ (fun i x hx v' Gv' gv' rv' => ⟨fun c => c = true, .of et_yes, (fun z => by cases z), fun _ => ⟨exR (fun c : Nat => 1 ≤ c ∧ c ≤ 3) (fun c => .tuple [.str (b.nm x), .int (c : Int)]), edm_tup (Rs := [dt (.str (b.nm x)), exR (fun c : Nat => 1 ≤ c ∧ c ≤ 3) (fun c => .int (c : Int))]) (eam_cons (.of (ed_var (by rfl) rv')) (eam_cons (edm_op (S1 := dt (.int ((1 : Nat) : Int))) (S2 := takeR 3) (.of ed_int) (edm_take (ed_ref (by rfl)) (ed_int (i := ((3 : Nat) : Int))) (by decide)) fun v y G9 g r1 ⟨k, hk, r2⟩ => (ed_addN (ed_c r1) (ed_c r2)).imp fun v G9 r => ⟨1 + k, by omega, r⟩) eam_nil)) (by simp) fun us G9 g ra a ha => ?_, fun y G9 ⟨c, hc, r⟩ => ⟨_, r, fun ds ⟨l, h1, h2, h3⟩ => ⟨l ++ [(x, c)], by rw [h1, List.map_append]; rfl, by rw [List.map_append, h2, List.take_succ, hx]; rfl, fun r hr' => ?_⟩⟩⟩⟩) (fun i ds ⟨l, h1, h2, _⟩ => by
          have h9 := congrArg List.length h2
          rw [List.length_map, List.length_take] at h9
          rw [h1, List.length_map]; omega) fun v Gv ds ⟨l, h1, h2, h3⟩ r => ?_) fun gives G15 H15 hgv g15 B15 => ?_
      · obtain ⟨l, hl, rfl⟩ := perm_map_inv (f := fun j => PyData.str (b.nm j)) hp (List.range b.n) (by rw [List.map_map]; rfl)
        have hll := hl.length_eq
        rw [List.length_range] at hll
        refine (ed_slice (ed_c r1) eo_none (eo_some (ed_c r2))).imp fun v G14 r => ⟨l.take k, ⟨(hl.nodup_iff.mpr List.nodup_range).sublist (List.take_sublist _ _), fun j hj => List.mem_range.mp (hl.subset (List.mem_of_mem_take hj)), by simp; omega⟩, ?_⟩
        rw [cut_to, ← List.map_take] at r
        exact r
      · obtain ⟨y1, y2, rfl, k1, c, hc, k2⟩ := ra.two
        exact ⟨c, hc, .tup ha (.cons k1 (.cons k2 .nil))⟩
      · rcases List.mem_append.mp hr' with z | z
        · exact h3 r z
        · rw [List.mem_singleton.mp z]; exact hc
      · rw [List.take_length] at h2
        refine ⟨l, ⟨?_, fun r hr' => ⟨hl2 _ (by rw [← h2]; exact List.mem_map_of_mem hr'), h3 r hr'⟩, by rw [h2]; exact hl1⟩, by rw [h1] at r; exact r⟩
        have h9 := congrArg List.length h2
        rw [List.length_map] at h9
        omega
      · rw [putGives] at B15
        exact fin gives G15 H15 hgv B15
    · exact fin [] G14 H14 ⟨by simp, fun _ z => (nomatch z), List.nodup_nil⟩ (BI.st s14)
theorem c__law_small (T : Txt K mg) : Callee P w K mg base CX0 5 "_law_small" ["_law_pool_here", "_law_sort"] (MSp (fun s : Nat => s ≤ 4) (fun s => [dt (.int (s : Int))]) (fun _ => bkAny)) := by
  have c__law_book := c__law_book (P := P) (w := w) (base := base) T
  refine calleeM T.d__law_small sc__law_small (fun _ _ _ _ _ _ us hl => match us, hl with | [_, _], _ => rfl) (fun _ => rfl) fun f cdv Ar outer s H0 E hr => ?_
  obtain ⟨hu0, hu, hu64, hu65⟩ := room0 hr
  refine ⟨_, (pss_one (ps_ret (pe_cl c__law_book hr pass0 (pa_cons (pv 0) (pa_cons pe_int (pa_cons (pv 1) pa_nil)))))), fun sort p vs G H D hs hA e q => ?_⟩
  obtain ⟨x1, rfl, h1⟩ := hA.one
  exact kp_ret (R := bkAny) (edm_call sort (eam_cons (.of (ed_ref (by rfl))) (eam_cons (.of (ed_int (i := ((5 : Nat) : Int)))) (eam_cons (.of (ed_var (by rfl) h1)) eam_nil))) hs) e q
theorem c__law_any_sort (T : Txt K mg) : Callee P w K mg base CX0 6 "_law_any_sort" ["_law_pool_here"] (MSp (fun _ : Unit => True) (fun _ => []) (fun _ => bkAny)) := by
  have c__law_small := c__law_small (P := P) (w := w) (base := base) T
  have c__law_one := c__law_one (P := P) (w := w) (base := base) T
  refine calleeM T.d__law_any_sort sc__law_any_sort (fun _ _ _ _ _ _ us hl => match us, hl with | [_], _ => rfl) (fun _ => rfl) fun f cdv Ar outer s H0 E hr => ?_
  obtain ⟨hu0, hu, hu64, hu65⟩ := room0 hr
  refine ⟨_, (pss_one (ps_ret (pe_cl c__law_small hr pass0 (pa_cons (pv 0) (pa_cons (pe_cl c__law_one hr pass0 (pa_cons (pv 0) (pa_cons (pe_lst (pa_cons pe_int (pa_cons pe_int (pa_cons pe_int (pa_cons pe_int (pa_cons pe_int (pa_cons pe_int pa_nil))))))) pa_nil))) pa_nil))))), fun _ p vs G H D _ hA e q => ?_⟩
  cases hA
  refine kp_ret (R := bkAny) (edm_callE (Rs := [refR p, oneR ([0, 1, 2, 3, 3, 4].map fun i : Nat => PyData.int (i : Int))]) (eam_cons (.of (ed_ref (by rfl))) (eam_cons (edm_one (ed_ref (by rfl)) (ed_lst (ead_cons ed_int (ead_cons ed_int (ead_cons ed_int (ead_cons ed_int (ead_cons ed_int (ead_cons ed_int ead_nil)))))) (by simp)) (by simp)) eam_nil)) fun vs G1 g ra => ?_) e q
  obtain ⟨y1, y2, rfl, k1, k2⟩ := ra.two
  obtain ⟨c, hc, rfl⟩ := one_nat k2
  exact ⟨c, by show c ≤ 4; simp at hc; omega, .cons k1 (.cons (.int _) .nil), fun v G2 _ r => r⟩
end
end RT
end
section
set_option maxRecDepth 100000
set_option maxHeartbeats 4000000
/-! RTJ1: plain books: the fewest gives by the formula. -/
namespace RT
open PySem
theorem cnt_range (S : Nat → Bool) : ∀ n, cnt S n = ((List.range n).filter S).length
  | 0 => rfl
  | n + 1 => by
    rw [List.range_succ, List.filter_append, List.length_append, ← cnt_range S n]
    simp only [cnt, List.filter_cons, List.filter_nil]
    split <;> rfl
theorem down_range {P : Nat → Bool} : ∀ n, (∀ i j, i ≤ j → j < n → P j = true → P i = true) → (List.range n).filter P = List.range ((List.range n).filter P).length
  | 0, _ => rfl
  | n + 1, h => by
    have ih := down_range n fun i j h1 h2 => h i j h1 (by omega)
    rw [List.range_succ, List.filter_append]
    by_cases hn : P n = true
    · have : (List.range n).filter P = List.range n := List.filter_eq_self.mpr fun i hi => h i n (by have := List.mem_range.mp hi; omega) (by omega) hn
      rw [this]
      simp only [List.filter_cons, List.filter_nil, hn, if_true]
      rw [List.length_append, List.length_range]
      exact (List.range_succ (n := n)).symm
    · simp only [List.filter_cons, List.filter_nil, hn, Bool.false_eq_true, if_false, List.append_nil]
      exact ih
section
variable {b : Bk}
theorem tier_mono (ok : BOk b) {i j : Nat} (hij : i ≤ j) (hj : j < b.n) : b.tier i ≤ b.tier j := by
  rcases Nat.lt_or_eq_of_le hij with h | h
  · have hp := ok.ts
    rw [List.pairwise_iff_getElem] at hp
    have := hp i j (by rw [List.length_map]; exact Nat.lt_trans h hj) (by rw [List.length_map]; exact hj) h
    rw [List.getElem_map, List.getElem_map] at this
    have e1 := row_get (b := b) (Nat.lt_trans h hj)
    have e2 := row_get (b := b) hj
    rw [List.getElem?_eq_getElem (show i < b.rows.length from Nat.lt_trans h hj)] at e1
    rw [List.getElem?_eq_getElem (show j < b.rows.length from hj)] at e2
    injection e1 with e1
    injection e2 with e2
    rw [e1, e2] at this
    exact this
  · rw [h]; exact Nat.le_refl _
theorem low_range (ok : BOk b) (i : Nat) : b.low i = List.range (b.low i).length := down_range b.n fun j k hjk hk h => by
  have h := of_decide_eq_true h
  have := tier_mono ok hjk hk
  exact decide_eq_true (by omega)
theorem lowB_le (ok : BOk b) (i : Nat) : (b.low i).length ≤ i := by
  by_cases hi : i < b.n
  · apply Classical.byContradiction
    intro h
    have : i ∈ b.low i := by rw [low_range ok]; exact List.mem_range.mpr (by omega)
    have := of_decide_eq_true (List.mem_filter.mp this).2
    omega
  · have h1 := List.length_filter_le (fun j => decide (b.tier j < b.tier i)) (List.range b.n)
    rw [List.length_range] at h1
    have : (b.low i).length ≤ b.n := h1
    omega
/-- a plain book, as the formula sees it -/
def plOf (b : Bk) (ok : BOk b) (pl : b.plainP = true) : Pl where
  n := b.n
  pts := b.pts
  need i := b.needOf (b.tier i)
  low i := (b.low i).length
  W i j := ∃ w ∈ b.wants, w.who = i ∧ j ∈ w.some
  low_le := lowB_le ok
  W_lt := fun i j ⟨w, hw, h1, h2⟩ => by
    unfold Bk.plainP Bk.downP at pl
    simp only [Bool.and_eq_true] at pl
    have := List.all_eq_true.mp (List.all_eq_true.mp pl.1.1.1 w hw) j h2
    rw [← h1]; exact of_decide_eq_true this
theorem pc_cnt {n m : Nat} (h : m < 2 ^ n) : pc m = cnt m.testBit n := by rw [cnt_range, pc_range h]
theorem plain_holds (ok : BOk b) (pl : b.plainP = true) {m : Nat} (hm : m < 2 ^ b.n) : b.holdP m = true ↔ (plOf b ok pl).holds m.testBit := by
  have hpl := pl
  unfold Bk.plainP at hpl
  simp only [Bool.and_eq_true, decide_eq_true_eq] at hpl
  obtain ⟨⟨⟨_, hbars⟩, hgives⟩, hall⟩ := hpl
  have hkind : ∀ w ∈ b.wants, w.kind = .all := fun w hw => of_decide_eq_true (List.all_eq_true.mp hall w hw)
  have hpts : b.ptsP m = b.pts := by unfold Bk.ptsP; rw [hgives]; rfl
  have hlow : ∀ i, pc (m &&& maskOf (b.low i)) = cnt m.testBit (b.low i).length := fun i => by
    rw [pc_and (low_nodup b i), cnt_range, ← low_range ok]
  have hask : ∀ i, i < b.n → (b.letP m i = true ↔ ((b.needOf (b.tier i) : Int) ≤ cnt m.testBit (b.low i).length ∧ ∀ j, (∃ w ∈ b.wants, w.who = i ∧ j ∈ w.some) → m.testBit j = true)) := fun i hi => by
    unfold Bk.letP Bk.ask
    rw [List.all_cons, Bool.and_eq_true, decide_eq_true_iff, hlow, List.all_map, List.all_filter, List.all_eq_true]
    refine and_congr ⟨fun h => by omega, fun h => by omega⟩ ⟨fun h j => ?_, fun h w hw => ?_⟩
    · rintro ⟨w, hw, h1, h2⟩
      have h3 := h w hw
      rw [decide_eq_true h1] at h3
      have h3 : decide (wMany w ≤ pc (m &&& maskOf w.some)) = true := by simpa using h3
      have h3 := of_decide_eq_true h3
      have hw' := ok.wo w hw
      rw [pc_and hw'.nd] at h3
      have h4 : wMany w = w.some.length := by unfold wMany; rw [hkind w hw]
      rw [h4] at h3
      have h5 : (w.some.filter m.testBit).length = w.some.length := Nat.le_antisymm (List.length_filter_le _ _) h3
      exact List.length_filter_eq_length_iff.mp h5 j h2
    · by_cases h1 : w.who = i
      · have hw' := ok.wo w hw
        have h4 : wMany w = w.some.length := by unfold wMany; rw [hkind w hw]
        have h5 : w.some.filter m.testBit = w.some := List.filter_eq_self.mpr fun j hj => h j ⟨w, hw, h1, hj⟩
        have : decide (wMany w ≤ pc (m &&& maskOf w.some)) = true := decide_eq_true (by rw [pc_and hw'.nd, h5, h4]; exact Nat.le_refl _)
        simp [this]
      · simp [h1]
  unfold Bk.holdP Pl.holds
  rw [hbars, hpts, List.any_nil, Bool.or_false, Bool.and_eq_true, pc_cnt hm, Bool.not_eq_true', decide_eq_false_iff_not, List.all_eq_true]
  refine and_congr ⟨fun h => ?_, fun h => ?_⟩ ⟨fun h i hi hs => ?_, fun h i hi => ?_⟩
  · show (cnt m.testBit b.n : Int) ≤ (b.pts : Int)
    omega
  · have h : (cnt m.testBit b.n : Int) ≤ (b.pts : Int) := h
    omega
  · exact (hask i hi).mp (h i (List.mem_filter.mpr ⟨List.mem_range.mpr hi, hs⟩))
  · obtain ⟨h1, h2⟩ := List.mem_filter.mp hi
    have h1 := List.mem_range.mp h1
    exact (hask i h1).mpr (h i h1 h2)
theorem free_iff (ok : BOk b) (pl : b.plainP = true) {m k : Nat} (hm : m < 2 ^ b.n) (hk : k < 2 ^ b.n) : b.freeP m k = true ↔ Free (plOf b ok pl) m k := by
  unfold Bk.freeP Free
  rw [Bool.or_eq_true, Bool.or_eq_true, Bool.or_eq_true, decide_eq_true_iff, decide_eq_true_iff, decide_eq_true_iff, or_assoc, or_assoc, pc_cnt hm, pc_cnt hk, List.any_eq_true]
  refine or_congr Iff.rfl (or_congr ⟨fun h => ?_, fun h => ?_⟩ (or_congr ⟨fun h => ?_, fun h => ?_⟩ ⟨?_, ?_⟩))
  · show (cnt m.testBit b.n : Int) < (b.pts : Int)
    omega
  · have h : (cnt m.testBit b.n : Int) < (b.pts : Int) := h
    omega
  · show (cnt k.testBit b.n : Int) < (b.pts : Int)
    omega
  · have h : (cnt k.testBit b.n : Int) < (b.pts : Int) := h
    omega
  · rintro ⟨x, hx, hkx⟩
    unfold Bk.loose at hx
    obtain ⟨h1, h2⟩ := List.mem_filter.mp hx
    obtain ⟨h3, h4⟩ := List.mem_filter.mp h1
    refine ⟨x, List.mem_range.mp h3, h4, by simpa using hkx, ?_⟩
    rw [← tb_del h4]
    exact (plain_holds ok pl (Nat.lt_of_le_of_lt (Nat.sub_le _ _) hm)).mp h2
  · rintro ⟨x, h1, h2, h3, h4⟩
    rw [← tb_del h2] at h4
    refine ⟨x, ?_, by simp [h3]⟩
    unfold Bk.loose
    exact List.mem_filter.mpr ⟨List.mem_filter.mpr ⟨List.mem_range.mpr h1, h2⟩, (plain_holds ok pl (Nat.lt_of_le_of_lt (Nat.sub_le _ _) hm)).mpr h4⟩
theorem way_in {H : Nat → Prop} (hH : ∀ m, H m ↔ m < 2 ^ b.n ∧ b.holdP m = true) {m k g c : Nat} (hm : m < 2 ^ b.n ∧ b.holdP m = true) (h : Way (EB b) m k g c) : Way (Stp b.n H) m k g c := by
  induction h with
  | refl => exact .refl _
  | snoc hw e ih =>
    have h1 := way_hold hm hw
    have h2 := way_hold hm (hw.snoc e)
    obtain ⟨i, hi, _, _, h5⟩ := e
    exact ih.snoc ⟨i, hi, (hH _).mpr h1, (hH _).mpr h2, h5⟩
theorem way_out {H : Nat → Prop} (hH : ∀ m, H m ↔ m < 2 ^ b.n ∧ b.holdP m = true) {m k g c : Nat} (h : Way (Stp b.n H) m k g c) : Way (EB b) m k g c := by
  induction h with
  | refl => exact .refl _
  | snoc hw e ih =>
    obtain ⟨i, hi, h3, h4, h5⟩ := e
    exact ih.snoc ⟨i, hi, ((hH _).mp h3).2, ((hH _).mp h4).2, h5⟩
/-- in plain books: what the formula tells -/
theorem plain_few (ok : BOk b) (pl : b.plainP = true) {m k : Nat} (hm : m < 2 ^ b.n ∧ b.holdP m = true) (hk : k < 2 ^ b.n ∧ b.holdP k = true) : b.dist m k = some (b.plainD m k) := by
  let H : Nat → Prop := fun m => m < 2 ^ b.n ∧ b.holdP m = true
  have hH : ∀ m, H m ↔ m < 2 ^ (plOf b ok pl).n ∧ (plOf b ok pl).holds m.testBit := fun m => ⟨fun h => ⟨h.1, (plain_holds ok pl h.1).mp h.2⟩, fun h => ⟨h.1, (plain_holds ok pl h.1).mpr h.2⟩⟩
  obtain ⟨d1, d2⟩ := plain_dist hH (a := m) (b := k) hm hk
  have edif : dif m.testBit k.testBit b.n = ((List.range b.n).filter fun i => m.testBit i && !k.testBit i).length := cnt_range _ _
  have conv : ∀ {c : Nat}, IsDist (Stp b.n H) m k (some c) → b.dist m k = some c := fun {c} h => by
    refine dist_eq ?_
    exact ⟨let ⟨j, hw⟩ := h.1; ⟨j, way_out (fun _ => Iff.rfl) hw⟩, fun j c' hw => h.2 j c' (way_in (fun _ => Iff.rfl) hm hw)⟩
  unfold Bk.plainD
  rw [← edif]
  by_cases hf : b.freeP m k = true
  · rw [if_pos hf]
    exact conv (d1 ((free_iff ok pl hm.1 hk.1).mp hf))
  · rw [if_neg hf]
    exact conv (d2 fun z => hf ((free_iff ok pl hm.1 hk.1).mpr z))
theorem plain_sp (ok : BOk b) (pl : b.plainP = true) {m k : Nat} (hm : m < 2 ^ b.n ∧ b.holdP m = true) (hk : k < 2 ^ b.n ∧ b.holdP k = true) : b.freeP m k = true ∨ b.loose m ≠ [] := by
  by_cases h0 : ∃ i, i < b.n ∧ m.testBit i = true
  · right
    obtain ⟨x, h1, h2, h3⟩ := last_loose ((plain_holds ok pl hm.1).mp hm.2) h0
    rw [← tb_del h2] at h3
    intro z
    have : x ∈ b.loose m := by
      unfold Bk.loose
      exact List.mem_filter.mpr ⟨List.mem_filter.mpr ⟨List.mem_range.mpr h1, h2⟩, (plain_holds ok pl (Nat.lt_of_le_of_lt (Nat.sub_le _ _) hm.1)).mpr h3⟩
    rw [z] at this
    cases this
  · left
    have hz : ∀ {m : Nat}, m < 2 ^ b.n → pc m = 0 → ∀ i, i < b.n → m.testBit i = false := fun {m} hm hp i hi => by
      rw [pc_range hm] at hp
      have := List.eq_nil_of_length_eq_zero hp
      cases ht : m.testBit i with
      | false => rfl
      | true =>
        have hi : i ∈ (List.range b.n).filter m.testBit := List.mem_filter.mpr ⟨List.mem_range.mpr hi, ht⟩
        rw [this] at hi
        cases hi
    have hm0 : pc m = 0 := by
      rw [pc_range hm.1]
      have : (List.range b.n).filter m.testBit = [] := List.filter_eq_nil_iff.mpr fun i hi z => h0 ⟨i, List.mem_range.mp hi, z⟩
      rw [this]; rfl
    unfold Bk.freeP
    rw [Bool.or_eq_true, Bool.or_eq_true]
    by_cases hp : 0 < b.pts
    · exact .inl (.inr (by rw [hm0, decide_eq_true hp]; rfl))
    · left; left
      have hkh := ((plain_holds ok pl hk.1).mp hk.2).1
      have hkh : (cnt k.testBit b.n : Int) ≤ (b.pts : Int) := hkh
      rw [← pc_cnt hk.1] at hkh
      have hk0 : pc k = 0 := by omega
      exact decide_eq_true (mask_eq hm.1 hk.1 fun i hi => by rw [hz hm.1 hm0 i hi, hz hk.1 hk0 i hi])
/-- the book without prices -/
def Bk.bare (b : Bk) : Bk := { b with prices := [] }
theorem bare_ok (ok : BOk b) : BOk b.bare := ⟨ok.n1, ok.n5, ok.wd, ok.nd, ok.tr, ok.ts, ok.pt, ok.nl, ok.no, ok.nsd, ok.wl, ok.wo, ok.bl, ok.bo, ok.bu, ok.gl, ok.go, ok.gn, Nat.zero_le _, fun _ z => (nomatch z), List.nodup_nil, ok.rs⟩
theorem hold0 (ok : BOk b) : b.holdP 0 = true := by
  unfold Bk.holdP
  have h1 : (List.range b.n).filter (Nat.testBit 0) = [] := List.filter_eq_nil_iff.mpr fun i _ => by simp
  have h2 : (b.bars.any fun p => decide (0 &&& (2 ^ p.1 + 2 ^ p.2) = 2 ^ p.1 + 2 ^ p.2)) = false := by
    rw [List.any_eq_false]
    intro p _
    have h3 := Nat.two_pow_pos p.1
    have h4 := Nat.two_pow_pos p.2
    rw [Nat.zero_and, decide_eq_true_iff]
    intro z
    omega
  rw [h1, h2, pc_zero]
  simp
theorem allM_ne (ok : BOk b) : allM b ≠ [] := fun z => by
  have : (0 : Nat) ∈ allM b := mem_allM.mpr ⟨Nat.two_pow_pos _, hold0 ok⟩
  rw [z] at this
  cases this
end
end RT
end
section
set_option maxRecDepth 100000
set_option maxHeartbeats 4000000
/-! RTW35: what fell. -/
namespace RT
open PySem PySem.Spec PyProof.Rows L2
open Evl (Ex Ex.refl Ex.trans Ex.new Ex.mut)
section
variable {X : Cx} {CX : CXT} {k j : Nat} {x : Str} {p pos : Pos} {e : Expr} {es : List Expr} {t : TA} {ps : List Str} {sp : Sp} {E : L2.St → XK}
theorem pe_clSD (c : Callee X.prog X.w X.K X.mg X.base CX k x ps sp) (hr : Room j X.A) (hx : ∀ σ, PassesAt CX X σ (E σ)) (ha : L2.PA X (e :: es) t) (hg : Gl X x := by rfl) (hkj : k ≤ j := by decide) (hdb : (x == ("__debug__" : Str)) = false := by decide)
    (he : starEach (e :: es) X.env = (false, eval e X.env) :: starEach es X.env := by rfl) (hpl : (backTo pos (starEach es X.env)).any (·.1) = false := by rfl) : PE X (.Call (.Name x p) (e :: es) [] pos) (tCallSD sp [] E t) := by
  obtain ⟨f, fd, F, hm, hk, hb⟩ := c.ex
  exact pe_callSD F (hr.mono hkj) hg hm hk hb .nil hx ha hdb he hpl
theorem call_reprK (K : Fg) (hg : Gd X.A) (hu : X.A.units + 64 < cLine) (hK : X.K = K := by rfl) : CallR X (.builtin "repr") (rReprD K) := by subst hK; exact call_reprD hg hu
end
theorem rep_at {K : Fg} {R : Rel} {s : Str} {v : V} {G H : Hp} {Q : VK} (hs : Shows R s) (r : R.r v G) (e : Ex G H) (q : Q (.str s) H) : rReprD K [v] H Q := by
  cases hs with
  | dat g => exact ⟨v, _, rfl, .inl ⟨(Dx.mono e r).dp, g.a, g.b, g.c, g.l⟩, q⟩
  | emp =>
    obtain ⟨a, ws, rfl, ea, hk⟩ := r
    cases hk
    exact ⟨_, _, rfl, .inr ⟨rfl, a, rfl, e _ _ ea⟩, q⟩
/-- return f(..), f may raise -/
theorem k_retSD {α : Type} {P : α → Prop} {A : α → List Rel} {B : α → Out} {σ : L2.St} {G H : Hp} {ta : TA} {D : Ends} {E : L2.St → XK} (a : α) (h : EA ta σ G (A a)) (hp : P a) (e : Ex G H) (q : ∀ G1 H1, Step G H G1 H1 → (B a).to G1 H1 D.rt (E σ)) : tRet (tCallSD (RSp P A B) [] E ta) D σ H :=
  h H e _ fun vs G1 H1 s r => ⟨a, G1, hp, s.i, by rw [List.append_nil]; exact r, q G1 H1 s⟩
/-- what is asked of the two errors beside ErrF -/
structure ErrX (K : Fg) (CB CN : Addr) : Prop where
  xb : XfC K CB
  xn : XfC K CN
  nb : PySem.W.findIn K (.ref CB) "build" = some none
  nn : PySem.W.findIn K (.ref CN) "value" = some none
  bb : PySem.W.exmOne K (.ref CB) (.ref CB) = some true
  nB : PySem.W.exmOne K (.ref CN) (.ref CB) = some false
  nN : PySem.W.exmOne K (.ref CN) (.ref CN) = some true
inductive FM where
  | gives | mv (v : MV)
def FM.d : FM → PyData
  | .gives => .str "gives"
  | .mv v => v.d
noncomputable def fellOut (CB CN : Addr) (b : Bk) (g h : GV) : FM → Out
  | .gives => fewOut CB b g h
  | .mv v => openOut CB CN b g h v
def FellSp (C CB CN : Addr) : Sp := fun vs H Q _ => ∃ (b : Bk) (g h : GV) (m : FM) (G : Hp) (R : Rel) (wd sh : Str), BOk b ∧ g.ok b ∧ h.ok b ∧ ((fellOut CB CN b g h m = .exc CB "build" R ∧ wd = "build") ∨ (fellOut CB CN b g h m = .exc CN "value" R ∧ wd = "number")) ∧ Shows R sh ∧ Ex G H ∧ RAll [bookR C b, g.R b, h.R b, dt m.d] vs G ∧
  ∀ v G' H', Step G H G' H' → Dx G' v (.list [.str wd, .str sh]) → Q v H'
theorem mv_gives (v : MV) : PyData.eqv v.d (.str "gives") = false := by
  cases v with
  | nat k => rfl
  | non => rfl
  | neg => rfl
  | tru => rfl
  | one => show PyData.eqv (.str "1") (.str "gives") = false; decide +kernel
theorem mv_sh (v : MV) : SeqAt.shaped v.d = true := by
  cases v with
  | nat k => rfl
  | non => rfl
  | neg => rfl
  | tru => rfl
  | one => show SeqAt.shaped (.str "1") = true; decide +kernel
section
variable {P : Program} {w : World} {K : Fg} {mg : Str → Option Value} {base : Heap} {C CC CB CN : Addr}
theorem c__law_fell (T : Txt K mg) (BF : BookF K C) (F : ChF K mg CC) (EB : ErrF P w K mg base "NoBuild" "build" CB) (EN : ErrF P w K mg base "NoNumber" "value" CN) (EX : ErrX K CB CN) : CalleeG P w K mg base CX0 10 "_law_fell" ["_law_made_here", "_law_one_here", "_law_other", "_law_many"] (FellSp C CB CN) := by
  have c_fewest_gives := c_fewest_gives (P := P) (w := w) (base := base) T BF F EB
  have c_is_open := c_is_open (P := P) (w := w) (base := base) T BF F EB EN
  obtain ⟨f, fd, F1, hm⟩ := T.d__law_fell
  refine ⟨f, fd, fnG_of F1 sc__law_fell (fun vs H Q E h => by obtain ⟨_, _, _, _, _, _, _, _, _, _, _, _, _, _, h2, _⟩ := h; exact h2.length) fun cdv A outer s H vs Q E hg hr h => ?_, hm, F1.kp, fun s us _ hl => ?_⟩
  · obtain ⟨hu0, hu, hu64, hu65⟩ := room0 hr
    have hgd : Gd (A.deeper (envOfC "_law_fell" (defScope s__law_fell) s.heap.objs.size f cdv)) := hg
    refine ⟨_, (pss_one (ps_try_asL (i := 4) (Wout := fun _ _ _ _ => False) rfl rfl sc__law_fell.nd rfl rfl takes_none5 (fun W pn xe tk _ => (pss_cons (ps_if (pt_cmpR (op_eqK K hu64) (pv 3) pe_str (nomark _)) (pss_one (ps_ret (pe_clSD (E := WE W) c_fewest_gives hr (fun σ => L2.passAt tk σ) (pa_cons (pv 0) (pa_cons (pv 1) (pa_cons (pv 2) pa_nil)))))) pss_nil) (pss_one (ps_ret (pe_clSD (E := WE W) c_is_open hr (fun σ => L2.passAt tk σ) (pa_cons (pv 0) (pa_cons (pv 1) (pa_cons (pv 2) (pa_cons (pv 3) pa_nil)))))))))
      (.cons ⟨rfl, by decide, .inl EB.gx⟩ (fun a o cls d pn hz hf => (pss_one (ps_ret (pe_lst (pa_cons pe_str (pa_cons (pe_callB (call_reprK K hgd hu64) (by rfl) T.f_repr (by decide +kernel) (pa_cons (pe_xf EX.xb EX.nb hz hf (pv 4)) pa_nil)) pa_nil))))))
        (.cons ⟨rfl, by decide, .inl EN.gx⟩ (fun a o cls d pn hz hf => (pss_one (ps_ret (pe_lst (pa_cons pe_str (pa_cons (pe_callB (call_reprK K hgd hu64) (by rfl) T.f_repr (by decide +kernel) (pa_cons (pe_xf EX.xn EX.nn hz hf (pv 4)) pa_nil)) pa_nil)))))) .nil)))), ?_⟩
    obtain ⟨b, g, h, m, G, R, wd, sh, ok, hgo, hho, hout, hsh, e, hA, q⟩ := h
    obtain ⟨v, x, y, z, rfl, h1, h2, h3, h4⟩ := hA.four
    -- the end of either clause
    have fin : ∀ {G' H' : Hp} {d : Addr} {u : V} {a : Addr} {CE : Addr} {fld : Str} {wx : Str} {D : Ends}, D.rt = Q → wd = wx → Step G H G' H' → H' d = some (.xd [(fld, u)]) → R.r u G' → tRet (tLst (tCons (tC (.str wx)) (tCons (tCB (rReprD K) (tCons (tXf a (.ref CE) (some d) CE fld (tVar 4)) tNil)) tNil))) (endAs 4 D) ([some v, some x, some y, some z, some (.ref a)] : L2.St) H' := fun {G' H' d u a CE fld wx D} hD hw s1 hd r => by
      refine ⟨.ref a, rfl, rfl, rfl, d, _, u, rfl, hd, by simp [List.lookup], ?_⟩
      dsimp only [tNil]
      refine rep_at hsh r s1.i ?_
      refine ⟨by show 2 ≤ sizeLine; decide, fun p hp => ?_⟩
      show D.rt (.ref p) _
      rw [hD]
      subst hw
      exact q _ _ _ (s1.add hp) (.lst upd_same (.cons (.str _) (.cons (.str _) .nil)))
    have caught : ∀ {C' : Addr} {fld : Str} {R' : Rel} {D : Ends} {σ : L2.St} {G1 H1 : Hp}, D.rt = Q → σ = [some v, some x, some y, some z, none] → Step G H G1 H1 → (C' = CB ∧ fld = "build" ∧ wd = "build" ∨ C' = CN ∧ fld = "value" ∧ wd = "number") → R' = R → (Out.exc C' fld R').to G1 H1 D.rt (WE (wAsL K 4 (fun _ _ _ _ => False) D [((.ref CB : Value), fun a cls d => tRet (tLst (tCons (tC (.str "build")) (tCons (tCB (rReprD K) (tCons (tXf a cls d CB "build" (tVar 4)) tNil)) tNil)))), ((.ref CN : Value), fun a cls d => tRet (tLst (tCons (tC (.str "number")) (tCons (tCB (rReprD K) (tCons (tXf a cls d CN "value" (tVar 4)) tNil)) tNil))))]) σ) := fun {C' fld R' D σ G1 H1} hD hσ s1 hc hR d u G2 H2 s2 hd ru => by
      subst hσ
      subst hR
      rcases hc with ⟨rfl, rfl, hw⟩ | ⟨rfl, rfl, hw⟩
      · exact ⟨true, EX.bb, fun _ a _ => fin hD hw (s1.trans s2) hd ru, fun z => by cases z⟩
      · exact ⟨false, EX.nB, (fun z => by cases z), fun _ => ⟨true, EX.nN, fun _ a _ => fin hD hw (s1.trans s2) hd ru, fun z => by cases z⟩⟩
    cases m with
    | gives =>
      have h4 : Dx G z (.str "gives") := h4
      refine k_if (D := { nx := _, rt := _ }) (b := true) (ET.eq (et_test (ed_eqS (x := "gives") (y := "gives") (ed_var (by rfl) h4) ed_str (by decide +kernel) (by decide +kernel))) (by decide)) e (fun _ G1 H1 s1 => ?_) fun z => by cases z
      refine k_retSD (D := { nx := _, rt := _ }) (b, g, h) (ea_cons (ed_var (by rfl) ((bookR C b).mono s1.g h1)) (ea_cons (ed_var (by rfl) ((g.R b).mono s1.g h2)) (ea_cons (ed_var (by rfl) ((h.R b).mono s1.g h3)) ea_nil))) ⟨ok, hgo, hho⟩ s1.i fun G2 H2 s2 => ?_
      show (fewOut CB b g h).to _ _ _ _
      rcases hout with ⟨ho, hw⟩ | ⟨ho, hw⟩
      · rw [show fewOut CB b g h = _ from ho]
        exact caught rfl rfl (s1.trans s2) (.inl ⟨rfl, rfl, hw⟩) rfl
      · rw [show fewOut CB b g h = _ from ho]
        exact caught rfl rfl (s1.trans s2) (.inr ⟨rfl, rfl, hw⟩) rfl
    | mv mv =>
      have h4 : Dx G z mv.d := h4
      refine k_if (D := { nx := _, rt := _ }) (b := false) (ET.eq (et_test (ed_eq (ed_var (by rfl) h4) ed_str (mv_sh mv) (by decide +kernel))) (mv_gives mv)) e (fun z => by cases z) fun _ G1 H1 s1 => ?_
      dsimp only [tNext]
      refine k_retSD (D := { nx := _, rt := _ }) (b, g, h, mv) (ea_cons (ed_var (by rfl) ((bookR C b).mono s1.g h1)) (ea_cons (ed_var (by rfl) ((g.R b).mono s1.g h2)) (ea_cons (ed_var (by rfl) ((h.R b).mono s1.g h3)) (ea_cons (ed_var (by rfl) (Dx.mono s1.g h4)) ea_nil)))) ⟨ok, hgo, hho⟩ s1.i fun G2 H2 s2 => ?_
      show (openOut CB CN b g h mv).to _ _ _ _
      rcases hout with ⟨ho, hw⟩ | ⟨ho, hw⟩
      · rw [show openOut CB CN b g h mv = _ from ho]
        exact caught rfl rfl (s1.trans s2) (.inl ⟨rfl, rfl, hw⟩) rfl
      · rw [show openOut CB CN b g h mv = _ from ho]
        exact caught rfl rfl (s1.trans s2) (.inr ⟨rfl, rfl, hw⟩) rfl
  · rw [List.append_nil] at hl ⊢
    exact F1.bindsA (fun _ _ _ _ _ _ us hl => match us, hl with | [_, _, _, _], _ => rfl) s us hl
end
end RT
end
section
set_option maxRecDepth 100000
set_option maxHeartbeats 4000000
/-! RTW36: what the law's last def needs. -/
namespace RT
open PySem PySem.Spec PyProof.Rows L2
open Evl (Ex Ex.refl Ex.trans Ex.new Ex.mut)
theorem passE0 {X : Cx} : Passes (L2.CX X.prog X.w) X E0 := fun _ _ _ _ _ _ _ ⟨_, _, _, _, _, _, _, _, _, _, _, _, h⟩ => h.elim
section
variable {σ : L2.St} {G H G' : Hp} {ta tb td ty te : TE} {tA : TA} {K : Fg} {b : Bk} {m g : Nat} {d : PyData} {R : Rel} {kvs : List (Key × PyData)} {C CB CN : Addr} {E : XK}
/-- the wanted number, looked up -/
theorem ed_few (h1 : ED td σ G (givesT b g)) (h2 : ED ty σ G (dt (dM b m))) (hm : m < 2 ^ b.n) (hh : b.holdP m = true) : ED (tDGet2 td ty (tC .non)) σ G (dt (encO (b.dist m g))) := fun H x Q q =>
  h1 H x _ fun v G1 H1 s1 ⟨p, kvs, hv, ep, hk⟩ => by
    subst hv
    refine ⟨p, rfl, .inr ⟨kvs, .inl (s1.i _ _ ep)⟩, ?_⟩
    refine (h2.mono s1.g) H1 s1.i _ fun y G2 H2 s2 r2 => ?_
    obtain ⟨c, rfl, ec⟩ := kM_dx r2
    refine ⟨_, DGet.t (s2.i _ _ (s2.g _ _ ep)) (s2.i _ _ ec), ?_⟩
    have hk := hk m hm hh
    have s12 := s1.trans s2
    rw [hk]
    cases hd : b.dist m g with
    | none => rw [hd] at q; exact q _ G2 H2 s12 .non
    | some c => rw [hd] at q; exact q _ G2 H2 s12 (.int _)
/-- the pairs of a dict, as a list -/
theorem ed_items (h : ED te σ G (dkR kvs)) : ED (LiI.tListItems te) σ G (dt (.list (kvs.map fun p => .tuple [kD p.1, p.2]))) := fun H e Q q => h H e _ fun v G1 H1 s ⟨a, ws, hv, ea, hk⟩ => by
  refine ⟨a, ws, hv, s.i _ _ ea, fun H2 p ts k hp ht hpt hl hts => ?_⟩
  let G2 : Hp := fun x => if H1 x = none then H2 x else G1 x
  have gn : ∀ {x : Addr}, H1 x = none → G2 x = H2 x := fun {x} z => if_pos z
  have go : ∀ {x : Addr}, H1 x ≠ none → G2 x = G1 x := fun {x} z => if_neg z
  have g12 : Ex G1 G2 := fun x o z => by
    have : H1 x ≠ none := by rw [s.i x o z]; intro w; cases w
    rw [go this]; exact z
  have S2 : Step G1 H1 G2 H2 := ⟨g12, k, fun x o z => by
    by_cases hx : H1 x = none
    · rw [gn hx] at z; exact z
    · rw [go hx] at z; exact k x o (s.i x o z), fun x h1 h2 => by rw [go h1]; exact h2⟩
  refine q (.ref p) G2 H2 (s.trans S2) (.lst (xs := ts.map V.ref) (by rw [gn hp]; exact hl) ?_)
  have conv : ∀ {ts : List Addr} {ws : List (Key × V)} {kvs : List (Key × PyData)}, (∀ t ∈ ts, H1 t = none) → Paired (fun (t : Addr) (q : Key × V) => H2 t = some (.tup [kV q.1, q.2])) ts ws → KDx G1 ws kvs → DxA G2 (ts.map V.ref) (kvs.map fun p => .tuple [kD p.1, p.2]) := by
    intro ts
    induction ts with
    | nil => intro ws kvs _ h1 h2; cases h1; cases h2; exact .nil
    | cons t ts ih =>
      intro ws kvs hn h1 h2
      cases h1 with | cons r1 t1 =>
      cases h2 with | cons r2 t2 =>
      obtain ⟨e1, e2⟩ := r2
      refine .cons (.tup (xs := _) (by rw [gn (hn t List.mem_cons_self)]; exact r1) (.cons ?_ (.cons (Dx.mono g12 e2) .nil))) (ih (fun x hx => hn x (List.mem_cons_of_mem _ hx)) t1 t2)
      rw [e1]; exact kD_dx _ _
  exact conv ht hts hk
theorem et_same {K : Fg} (ha : ED ta σ G (dt d)) (hb : ED tb σ G (dt d)) (hs : SeqAt.shaped d = true) : ET (tTest (tOp (rNeD K) ta tb)) σ G false := ET.eq (et_test (ed_ne ha hb hs hs)) (by rw [eqv_self d (SeqAt.canLay_of_shaped hs)]; rfl)
theorem k_noX {t : TT} {ts : TS} {D : Ends} (h : ET t σ G false) (e : Ex G H) (q : ∀ G' H', Step G H G' H' → D.nx σ H') : tIfS t ts tNext D σ H := k_no h e q
theorem sh_encO (o : Option Nat) : SeqAt.shaped (encO o) = true := by cases o <;> rfl
theorem ed_leO {o : Option Nat} {j : Nat} (h1 : ED ta σ G (dt (encO o))) (h2 : ED tb σ G (dt (.int (j : Int)))) : ED (tAndV (tOp rNotN ta (tC .non)) (tOp rLe ta tb)) σ G (dt (.bool (leO o j))) := by
  cases o with
  | none => exact ED.eq (ed_andV (a := false) (b := false) (ed_notNn (d := .none) h1) fun z => by cases z) rfl
  | some c => exact ED.eq (ed_andV (ed_notNn (d := .int (c : Int)) h1) fun _ => ed_le (i := (c : Int)) (j := (j : Int)) h1 h2) (by simp [isNn, leO])
theorem ed_fell {g h : GV} {f : FM} {wd sh : Str} (ok : BOk b) (hg : g.ok b) (hh : h.ok b) (ho : (fellOut CB CN b g h f = .exc CB "build" R ∧ wd = "build") ∨ (fellOut CB CN b g h f = .exc CN "value" R ∧ wd = "number")) (hs : Shows R sh) (ha : EA tA σ G [bookR C b, g.R b, h.R b, dt f.d]) : ED (tCall (FellSp C CB CN) [] E tA) σ G (dt (.list [.str wd, .str sh])) := fun H e Q q =>
  ha H e _ fun vs G1 H1 s r => by
    show FellSp C CB CN (vs ++ []) H1 Q E
    rw [List.append_nil]
    exact ⟨b, g, h, f, G1, R, wd, sh, ok, hg, hh, ho, hs, s.i, r, fun v G2 H2 s2 rv => q v G2 H2 (s.trans s2) rv⟩
theorem k_par3 {i j l : Nat} {t1 t2 t3 : TE} {R1 R2 R3 : Rel} {D : Ends} (h : EA (tCons t1 (tCons t2 (tCons t3 tNil))) σ G [R1, R2, R3]) (e : Ex G H) (q : ∀ u v w G' H', Step G H G' H' → R1.r u G' → R2.r v G' → R3.r w G' → D.nx (((σ.set i (some u)).set j (some v)).set l (some w)) H') : tPar3 i j l (tCons t1 (tCons t2 (tCons t3 tNil))) D σ H := h H e _ fun vs G1 H1 s r => by
  obtain ⟨u, v, w, rfl, r1, r2, r3⟩ := r.three
  exact ⟨u, v, w, rfl, q u v w G1 H1 s r1 r2 r3⟩
theorem k_par3S {i j l : Nat} {t1 t2 t3 : TE} {R1 R2 R3 : Rel} {D : Ends} {tw : TS} (h : EA (tCons t1 (tCons t2 (tCons t3 tNil))) σ G [R1, R2, R3]) (e : Ex G H) (q : ∀ u v w G' H', Step G H G' H' → R1.r u G' → R2.r v G' → R3.r w G' → tw D (((σ.set i (some u)).set j (some v)).set l (some w)) H') : tSeq (tPar3 i j l (tCons t1 (tCons t2 (tCons t3 tNil)))) tw D σ H := k_par3 (D := { D with nx := tw D }) h e q
end
theorem sh_dM {b : Bk} (ok : BOk b) (m : Nat) : Sh 1 (dM b m) := Sh.tuple (k := 0) fun d hd => by
  obtain ⟨s, hs, rfl⟩ := List.mem_map.mp hd
  obtain ⟨j, hj, rfl⟩ := List.mem_map.mp hs
  exact Sh.word (nm_word ok (List.mem_range.mp (List.mem_filter.mp hj).1))
theorem sh_pair {a c : Str} (ha : PyData.strOk a = true) (hc : PyData.strOk c = true) : SeqAt.shaped (.list [.str a, .str c]) = true := (Sh.list (k := 0) fun d hd => by
  rcases List.mem_cons.mp hd with z | z
  · rw [z]; exact ⟨ha, Nat.le_refl _⟩
  · rw [List.mem_singleton.mp z]; exact ⟨hc, Nat.le_refl _⟩).shaped
/-- the prices taken out, as the law does it -/
theorem ed_bare {σ : L2.St} {G : Hp} {te : TE} {K : Fg} {b : Bk} (h : ED te σ G (dt (.list ((prts b ++ [((.inr "prices" : Key), PyData.list [])]).map fun p : Key × PyData => PyData.tuple [kD p.1, p.2])))) : ED (tCB (rDctP K) (tCons te tNil)) σ G (lawR b.bare) := by
  have h2 := ed_dictP (K := K) h
  refine h2.is ?_
  refine congrArg dkR ?_
  kernel_rfl
theorem mv_shows {v : MV} (h : v ∈ ([.non, .neg, .tru, .one] : List MV)) : Shows (dt v.d) v.d.shown := by
  simp only [List.mem_cons, List.not_mem_nil, or_false] at h
  rcases h with rfl | rfl | rfl | rfl
  · exact .dat (.leaf .non)
  · exact .dat (.leaf .one)
  · exact .dat (.leaf .tru)
  · exact .dat (.leaf .dig)
theorem mv_out {v : MV} (h : v ∈ ([.non, .neg, .tru, .one] : List MV)) (CN : Addr) : v.out CN = .exc CN "value" (dt v.d) := by
  simp only [List.mem_cons, List.not_mem_nil, or_false] at h
  rcases h with rfl | rfl | rfl | rfl <;> rfl
theorem out2_gd {b : Bk} {CB : Addr} {m k : Nat} (hm : b.holdP m = true) (hk : b.holdP k = true) : GV.out2 b CB (.gd m) (.gd k) = .val (dt .none) := by
  simp only [GV.out2, GV.out, hm, hk, if_true]
theorem few_gd {b : Bk} {CB : Addr} {m k : Nat} (hm : b.holdP m = true) (hk : b.holdP k = true) : fewOut CB b (.gd m) (.gd k) = .val (dt (encO (b.dist m k))) := by
  unfold fewOut
  rw [out2_gd hm hk]; rfl
theorem open_gd {b : Bk} {CB CN : Addr} {m k j : Nat} (hm : b.holdP m = true) (hk : b.holdP k = true) : openOut CB CN b (.gd m) (.gd k) (.nat j) = .val (dt (.bool (leO (b.dist m k) j))) := by
  unfold openOut
  rw [out2_gd hm hk]; rfl
theorem fell_num {b : Bk} {CB CN : Addr} {m k : Nat} {v : MV} (hm : b.holdP m = true) (hk : b.holdP k = true) (hv : v ∈ ([.non, .neg, .tru, .one] : List MV)) : fellOut CB CN b (.gd m) (.gd k) (.mv v) = .exc CN "value" (dt v.d) := by
  show openOut CB CN b (.gd m) (.gd k) v = _
  unfold openOut
  rw [out2_gd hm hk]
  dsimp only
  rw [mv_out hv]
theorem fell_one {b : Bk} {CB CN : Addr} {g h : GV} {R : Rel} (hg : g.out b CB = .exc CB "build" R) : ∀ f : FM, f = .gives ∨ f = .mv .non → fellOut CB CN b g h f = .exc CB "build" R := by
  have e : GV.out2 b CB g h = .exc CB "build" R := by unfold GV.out2; rw [hg]
  rintro f (rfl | rfl)
  · show fewOut CB b g h = _
    unfold fewOut; rw [e]
  · show openOut CB CN b g h .non = _
    unfold openOut; rw [e]
theorem fell_two {b : Bk} {CB CN : Addr} {m : Nat} {h : GV} {R : Rel} (hm : b.holdP m = true) (hh : h.out b CB = .exc CB "build" R) : ∀ f : FM, f = .gives ∨ f = .mv .non → fellOut CB CN b (.gd m) h f = .exc CB "build" R := by
  have e : GV.out2 b CB (.gd m) h = .exc CB "build" R := by simp only [GV.out2, GV.out, hm, if_true]; exact hh
  rintro f (rfl | rfl)
  · show fewOut CB b (.gd m) h = _
    unfold fewOut; rw [e]
  · show openOut CB CN b (.gd m) h .non = _
    unfold openOut; rw [e]
def nonG : GV := .bad (.ot "NoneType" (dt .none))
theorem nonG_ok (b : Bk) : nonG.ok b := ⟨⟨by decide, by decide, fun v G r => by
  have r : Dx G v .none := r
  rw [Dx.non_inv r]; exact .non⟩, rfl⟩
end RT
end
section
set_option maxRecDepth 100000
set_option maxHeartbeats 8000000
/-! RTW37: the law. -/
namespace RT
open PySem PySem.Spec PyProof.Rows L2
open Evl (Ex Ex.refl Ex.trans Ex.new Ex.mut)
def LawSp (K : Fg) : Sp := fun vs H Q _ => ∃ (ns : List Int) (G : Hp), ns.length ≤ 63 ∧ Ex G H ∧ RAll [scrR K ns] vs G ∧ ∀ H', Q (.bl true) H'
section
variable {P : Program} {w : World} {K : Fg} {mg : Str → Option Value} {base : Heap} {C CC CB CN : Addr}
theorem f_law (T : Txt K mg) (BF : BookF K C) (M : BookM K mg C) (PF : PartsF K mg) (F : ChF K mg CC) (FP : PtsF P w K mg base C) (EB : ErrF P w K mg base "NoBuild" "build" CB) (EN : ErrF P w K mg base "NoNumber" "value" CN) (EX : ErrX K CB CN) {f : Addr} {fd : FuncData} (F1 : FunD K "law" "law" (defArgs s_law) (defBody s_law) (defScope s_law) [] [] f fd) : FnG P w K mg base CX0 11 f fd ["_law_script"] (LawSp K) := by
  have c__law_pool := c__law_pool (P := P) (w := w) (base := base) T
  have c__law_any_sort := c__law_any_sort (P := P) (w := w) (base := base) T
  have c__law_made := c__law_made (P := P) (w := w) (base := base) T (bk_at T BF M PF)
  have c__law_all := c__law_all (P := P) (w := w) (base := base) T
  have c__law_edges := c__law_edges (P := P) (w := w) (base := base) T
  have c__law_turned := c__law_turned (P := P) (w := w) (base := base) T
  have c__law_gives := c__law_gives (P := P) (w := w) (base := base) T
  have c_fewest_gives := c_fewest_gives (P := P) (w := w) (base := base) T BF F EB
  have c_is_plain := c_is_plain (P := P) (w := w) (base := base) T BF
  have c_plain_price := c_plain_price (P := P) (w := w) (base := base) T BF FP EB
  have c_is_open := c_is_open (P := P) (w := w) (base := base) T BF F EB EN
  have c__law_fell := c__law_fell (P := P) (w := w) (base := base) T BF F EB EN EX
  have c__law_one := c__law_one (P := P) (w := w) (base := base) T
  have c__law_odd_builds := c__law_odd_builds (P := P) (w := w) (base := base) T
  have c__law_bad_builds := c__law_bad_builds (P := P) (w := w) (base := base) T
  refine fnG_of F1 sc_law (fun vs H Q E h => by obtain ⟨_, _, _, _, h2, _⟩ := h; exact h2.length) fun cdv A outer s H vs Q E hg hr h => ?_
  obtain ⟨hu0, hu, hu64, hu65⟩ := room0 hr
  have hgd : Gd (A.deeper (envOfC "law" (defScope s_law) s.heap.objs.size f cdv)) := hg
  refine ⟨_, L2.PSs.nox ((pss_cons (ps_for PassesOwn.never rfl (pi_range1 (by rfl) T.f_range (pa_cons (pe_callB call_maxU (by rfl) T.f_max (by decide +kernel) (pa_cons pe_int (pa_cons (pe_callB (call_minU K) (by rfl) T.f_min (by decide +kernel) (pa_cons (pe_callB (call_lenU K) (by rfl) T.f_len (by decide +kernel) (pa_cons (pv 0) pa_nil)) (pa_cons pe_int pa_nil))) pa_nil))) pa_nil)) (pg_name (i := 1) sc_law.nd rfl (Or.inl rfl)) (pss_cons (ps_set (i := 2) sc_law.nd rfl (Or.inl rfl) (pe_cl c__law_pool hr pass0 (pa_cons (pv 0) (pa_cons (pv 1) pa_nil)))) (pss_cons (ps_set (i := 3) sc_law.nd rfl (Or.inl rfl) (pe_cl c__law_any_sort hr pass0 (pa_cons (pv 2) pa_nil))) (pss_cons (ps_par3 (i := 4) (j := 5) (l := 6) rfl sc_law.nd rfl rfl rfl (by decide) (by decide) (by decide) rfl rfl rfl (pa_cons (pe_cl c__law_made hr pass0 (pa_cons (pv 3) pa_nil)) (pa_cons (pe_cl c__law_all hr pass0 (pa_cons (pv 3) pa_nil)) (pa_cons (pe_cl c__law_edges hr pass0 (pa_cons (pv 3) pa_nil)) pa_nil))) rfl) (pss_cons (ps_set (i := 7) sc_law.nd rfl (Or.inl rfl) (pe_cl c__law_made hr pass0 (pa_cons (pe_callTy (call_dictU K) (by rfl) T.f_dict (by decide +kernel) (pa_cons (pe_op (op_addU K) (LiI.pe_listItems rfl (pv 3) (by rfl) T.f_list (by decide +kernel)) (pe_lst (pa_cons (pe_tup (pa_cons pe_str (pa_cons (pe_lst pa_nil) pa_nil))) pa_nil))) pa_nil)) pa_nil))) (pss_cons (ps_for PassesOwn.never rfl (pi_listK K (pe_slice (sl_listK K) (pe_cl c__law_turned hr pass0 (pa_cons (pv 2) (pa_cons (pv 5) pa_nil))) po_none (po_some pe_int))) (pg_name (i := 8) sc_law.nd rfl (Or.inl rfl)) (pss_cons (ps_set (i := 9) sc_law.nd rfl (Or.inl rfl) (pe_cl c__law_gives hr pass0 (pa_cons (pv 6) (pa_cons (pv 8) pa_nil)))) (pss_one (ps_for PassesOwn.never rfl (pi_listK K (pe_slice (sl_listK K) (pe_cl c__law_turned hr pass0 (pa_cons (pv 2) (pa_cons (pv 5) pa_nil))) po_none (po_some pe_int))) (pg_name (i := 10) sc_law.nd rfl (Or.inl rfl)) (pss_cons (ps_set (i := 11) sc_law.nd rfl (Or.inl rfl) (pe_dget2 hu (pv 9) (pv 10) pe_non ⟨rfl, rfl, rfl, rfl⟩)) (pss_cons (ps_if (pt_cmpR (op_neK K hu64) (pe_cl c_fewest_gives hr passE0 (pa_cons (pv 4) (pa_cons (pv 10) (pa_cons (pv 8) pa_nil)))) (pv 11) (nomark _)) (pss_one (ps_ret pe_bl)) pss_nil) (pss_cons (ps_if (L2.PW.pt (pw_and (pt_truthK K (pe_cl c_is_plain hr pass0 (pa_cons (pv 4) pa_nil))) (pw_and1 (pt_cmpR (op_neK K hu64) (pe_cl c_plain_price hr passE0 (pa_cons (pv 7) (pa_cons (pv 10) (pa_cons (pv 8) pa_nil)))) (pv 11) (nomark _))))) (pss_one (ps_ret pe_bl)) pss_nil) (pss_cons (ps_for PassesOwn.never rfl (pi_listK K (pe_lst (pa_cons pe_int (pa_cons pe_int (pa_cons pe_int (pa_cons (pe_callB (call_lenU K) (by rfl) T.f_len (by decide +kernel) (pa_cons (pv 5) pa_nil)) (pa_cons (pe_op op_pow1 pe_int pe_int) pa_nil))))))) (pg_name (i := 12) sc_law.nd rfl (Or.inl rfl)) (pss_one (ps_if (pt_cmpR (op_neK K hu64) (pe_cl c_is_open hr passE0 (pa_cons (pv 4) (pa_cons (pv 10) (pa_cons (pv 8) (pa_cons (pv 12) pa_nil))))) (pe_and (pe_cmpR op_notN1 (pv 11) pe_non (nomark _)) (pe_one (pe_cmpR op_le1 (pv 11) (pv 12) (nomark _)))) (nomark _)) (pss_one (ps_ret pe_bl)) pss_nil))) (pss_one (ps_for PassesOwn.never rfl (pi_listK K (pe_lst (pa_cons pe_non (pa_cons (pe_un un_neg1 pe_int) (pa_cons pe_bl (pa_cons pe_str pa_nil)))))) (pg_name (i := 13) sc_law.nd rfl (Or.inl rfl)) (pss_one (ps_if (pt_cmpR (op_neK K hu64) (pe_clG c__law_fell hgd hr pass0 (pa_cons (pv 4) (pa_cons (pv 10) (pa_cons (pv 8) (pa_cons (pv 13) pa_nil))))) (pe_lst (pa_cons pe_str (pa_cons (pe_callB (call_reprK K hgd hu64) (by rfl) T.f_repr (by decide +kernel) (pa_cons (pv 13) pa_nil)) pa_nil))) (nomark _)) (pss_one (ps_ret pe_bl)) pss_nil)))))))))))) (pss_cons (ps_set (i := 14) sc_law.nd rfl (Or.inl rfl) (pe_cl c__law_one hr pass0 (pa_cons (pv 2) (pa_cons (pv 5) pa_nil)))) (pss_one (ps_for PassesOwn.never rfl (pi_listK K (pe_op (op_addU K) (pe_cl c__law_odd_builds hr pass0 (pa_cons (pv 3) pa_nil)) (pe_cl c__law_bad_builds hr pass0 (pa_cons (pv 3) pa_nil)))) (pg_name (i := 13) sc_law.nd rfl (Or.inl rfl)) (pss_one (ps_for PassesOwn.never rfl (pi_listK K (pe_lst (pa_cons pe_str (pa_cons pe_non pa_nil)))) (pg_name (i := 12) sc_law.nd rfl (Or.inl rfl)) (pss_one (ps_if (L2.PW.pt (pw_or (pt_cmpR (op_neK K hu64) (pe_clG c__law_fell hgd hr pass0 (pa_cons (pv 4) (pa_cons (pv 13) (pa_cons pe_non (pa_cons (pv 12) pa_nil))))) (pe_lst (pa_cons pe_str (pa_cons (pe_callB (call_reprK K hgd hu64) (by rfl) T.f_repr (by decide +kernel) (pa_cons (pv 13) pa_nil)) pa_nil))) (nomark _)) (pw_or1 (pt_cmpR (op_neK K hu64) (pe_clG c__law_fell hgd hr pass0 (pa_cons (pv 4) (pa_cons (pv 14) (pa_cons (pv 13) (pa_cons (pv 12) pa_nil))))) (pe_lst (pa_cons pe_str (pa_cons (pe_callB (call_reprK K hgd hu64) (by rfl) T.f_repr (by decide +kernel) (pa_cons (pv 13) pa_nil)) pa_nil))) (nomark _))))) (pss_one (ps_ret pe_bl)) pss_nil))))))))))))) (pss_one (ps_ret pe_bl)))), ?_⟩
  obtain ⟨ns, G, hl, e, hA, q⟩ := h
  obtain ⟨v, rfl, h1⟩ := hA.one
  let N : Nat := if ns.length < 3 then (if 1 < ns.length then ns.length else 1) else 3
  have hN : N ≤ 3 := by show (if ns.length < 3 then (if 1 < ns.length then ns.length else 1) else 3) ≤ 3; split <;> (try split) <;> omega
  refine k_for (D := { nx := _, rt := _ }) (xs := List.range N) (Rx := fun i : Nat => dt (.int (i : Int))) (ei_range (ED.eq (ed_max (ed_int (i := 1)) (ed_min (ed_lenScr (ed_var (by rfl) h1)) (ed_int (i := 3)))) ?_) (by omega)) e
    (fun j σ' G' H' => ∃ a1 a2 a3 a4 a5 a6 a7 a8 a9 a10 a11 a12 a13 a14, σ' = [some v, a1, a2, a3, a4, a5, a6, a7, a8, a9, a10, a11, a12, a13, a14] ∧ Step G H G' H')
    (fun G1 H1 s1 => ⟨none, none, none, none, none, none, none, none, none, none, none, none, none, none, rfl, s1⟩) (fun j σ' G' H' ⟨_, _, _, _, _, _, _, _, _, _, _, _, _, _, _, s⟩ => s.i) ?_ ?_
  · show PyData.int _ = PyData.int (N : Int)
    congr 1
    show _ = (((if ns.length < 3 then (if 1 < ns.length then ns.length else 1) else 3) : Nat) : Int)
    repeat' split
    all_goals omega
  · intro G1 g1 j k kv σ' G' H' G2 H2 hj hI g2 s2 rk
    obtain ⟨a1, a2, a3, a4, a5, a6, a7, a8, a9, a10, a11, a12, a13, a14, rfl, sI⟩ := hI
    have hk3 : k ≤ 3 := by
      obtain ⟨h3, h4⟩ := List.getElem?_eq_some_iff.mp hj
      simp at h3 h4; omega
    have s02 := sI.trans s2
    refine k_asgAny (σ := ([some v, some kv, a2, a3, a4, a5, a6, a7, a8, a9, a10, a11, a12, a13, a14] : L2.St)) ((ea_cons (ed_var (by rfl) ((scrR K ns).mono s02.g h1)) (ea_cons (ed_var (by rfl) rk) ea_nil) : EA _ _ G2 [scrR K ns, dt (.int (k : Int))]) H2 s2.i _ fun vs G3 H3 s3 r3 => ⟨ns, k, G3, hl, hk3, s3.i, by rw [List.append_nil]; exact r3, fun p G4 H4 s4 hp0 np ap => ?_⟩)
    have s04 := (s02.trans s3).trans s4
    have pH : H p = none := ex_none ((s02.trans s3).h) hp0
    have e4 : PH p G4 H4 := ⟨s4.i, np, ap⟩
    -- a book
    refine kp_asgS (σ := ([some v, some kv, some (.ref p), a3, a4, a5, a6, a7, a8, a9, a10, a11, a12, a13, a14] : L2.St)) (R := bkAny) (edm_call () (eam_cons (.of (ed_ref (by rfl))) eam_nil) True.intro) e4 fun bv G5 H5 s5 ⟨b, lk, rb⟩ => ?_
    have ok := lk.ok
    have okb := bare_ok ok
    have e5 := e4.go s5
    refine k_par3S (σ := ([some v, some kv, some (.ref p), some bv, a4, a5, a6, a7, a8, a9, a10, a11, a12, a13, a14] : L2.St)) (R1 := bookR C b) (R2 := dt (.list ((allM b).map (dM b)))) (R3 := dt (.list ((edgesP b).map fun q => edgeD b q.1 q.2))) (ea_cons (ed_call b (ea_cons (ed_var (by rfl) rb) ea_nil) ok) (ea_cons (ed_call b (ea_cons (ed_var (by rfl) rb) ea_nil) ok) (ea_cons (ed_call b (ea_cons (ed_var (by rfl) rb) ea_nil) ok) ea_nil))) e5.e fun mv av ev G6 H6 s6 rm ra re => ?_
    have e6 := e5.st s6
    refine k_asgS (σ := ([some v, some kv, some (.ref p), some bv, some mv, some av, some ev, a7, a8, a9, a10, a11, a12, a13, a14] : L2.St)) (R := bookR C b.bare) (ed_call b.bare (ea_cons (ed_bare (b := b) (ED.eq (ed_cat (ed_items (ed_var (by rfl) ((lawR b).mono s6.g rb))) (ed_lst (ead_cons (ed_tup (ead_cons ed_str (ead_cons (ed_lst ead_nil (by simp)) ead_nil)) (by simp)) ead_nil) (by simp)) (by simp [prts])) (by rw [List.map_append]; rfl))) ea_nil) okb) e6.e fun lv G7 H7 s7 rl => ?_
    have e7 := e6.st s7
    have s47 := (s5.step s6).step s7
    have hal := allM_len ok
    have shA : ∀ d ∈ (allM b).map (dM b), Sh 3 d := fun d hd => by
      obtain ⟨m, _, rfl⟩ := List.mem_map.mp hd
      exact (sh_dM ok m).mono (by decide)
    have turnE : ∀ {σ : L2.St} {G' : Hp} (n : Nat), σ[2]? = some (some (.ref p)) → σ[5]? = some (some av) → Ex G6 G' → EDM p (tSl (rSlL K) (tCall TurnSp [] E0 (tCons (tVar 2) (tCons (tVar 5) tNil))) tNoPart (tPart (tC (.int (n : Int))))) σ G' (exR (fun l : List Nat => l.length ≤ 32 ∧ ∀ m ∈ l, m < 2 ^ b.n ∧ b.holdP m = true) (fun l => .list (l.map (dM b)))) := fun {σ G'} n h2 h5 g => by
      refine edm_slTo (S1 := turnR ((allM b).map (dM b))) (S2 := dt (.int (n : Int))) (edm_turn (ed_ref h2) (ed_var h5 (Dx.mono g ra)) (by rw [List.length_map]; omega) shA) (.of ed_int) fun x y G1 g ⟨ds, hp, r1⟩ r2 => ?_
      obtain ⟨l, hl, rfl⟩ := perm_map_inv (f := dM b) hp (allM b) rfl
      refine (ed_slice (ed_c r1) eo_none (eo_some (ed_c r2))).imp fun v G2 r => ⟨l.take n, ⟨?_, fun m hm => mem_allM.mp (hl.subset (List.mem_of_mem_take hm))⟩, ?_⟩
      · have := hl.length_eq
        simp; omega
      · rw [cut_to, ← List.map_take] at r
        exact r
    have made : ∀ {σ : L2.St} {G'}, σ[4]? = some (some mv) → Ex G6 G' → ED (tVar 4) σ G' (bookR C b) := fun hσ g => ed_var hσ ((bookR C b).mono g rm)
    -- the goals
    refine k_bindL (D := { nx := _, rt := _, ct := _, bk := _ }) ?_
    refine turnE 3 (σ := ([some v, some kv, some (.ref p), some bv, some mv, some av, some ev, some lv, a8, a9, a10, a11, a12, a13, a14] : L2.St)) (by rfl) (by rfl) s7.g _ e7 _ fun gv G8 H8 s8 ⟨goals, ⟨hgl, hgm⟩, rg⟩ => ?_
    have e8 := e7.go s8
    have s48 := s47.trans s8
    refine k_for (D := { nx := _, rt := _, ct := _, bk := _ }) (σ := ([some v, some kv, some (.ref p), some bv, some mv, some av, some ev, some lv, a8, a9, a10, a11, a12, a13, a14] : L2.St)) (xs := goals) (Rx := fun m => dt (dM b m)) (ei_listM (ed_c rg)) e8.e
      (fun j σ' G' H' => ∃ a8 a9 a10 a11 a12 a13 a14, σ' = [some v, some kv, some (.ref p), some bv, some mv, some av, some ev, some lv, a8, a9, a10, a11, a12, a13, a14] ∧ SP p G4 H4 G' H' ∧ Ex G8 G')
      (fun G9 H9 s9 => ⟨_, _, _, _, _, _, _, rfl, s48.step s9, s9.g⟩) (fun j σ' G' H' ⟨_, _, _, _, _, _, _, _, s, _⟩ => s.i) ?_ ?_
    · intro G9 g9 j9 gm gu σ' G' H' G10 H10 hj9 hI9 g9' s10 rgu
      obtain ⟨a8, a9, a10, a11, a12, a13, a14, rfl, sI9, gI9⟩ := hI9
      have hg := hgm gm (List.mem_of_getElem? hj9)
      have e10 := (e4.go sI9).st s10
      have g8_10 := gI9.trans s10.g
      have g6_10 := s7.g.trans (s8.g.trans g8_10)
      refine k_asgS (σ := ([some v, some kv, some (.ref p), some bv, some mv, some av, some ev, some lv, some gu, a9, a10, a11, a12, a13, a14] : L2.St)) (R := givesT b gm) (ed_call (b, gm) (ea_cons (ed_var (by rfl) (Dx.mono g6_10 re)) (ea_cons (ed_var (by rfl) rgu) ea_nil)) ⟨ok, hg⟩) e10.e fun fv G11 H11 s11 rf => ?_
      have e11 := e10.st s11
      refine k_bindL (D := { nx := _, rt := _, ct := _, bk := _ }) ?_
      refine turnE 8 (σ := ([some v, some kv, some (.ref p), some bv, some mv, some av, some ev, some lv, some gu, some fv, a10, a11, a12, a13, a14] : L2.St)) (by rfl) (by rfl) (g6_10.trans s11.g) _ e11 _ fun ov G12 H12 s12 ⟨ones, ⟨hol, hom⟩, ro⟩ => ?_
      have e12 := e11.go s12
      have s4_12 := ((sI9.step s10).step s11).trans s12
      refine k_for (D := { nx := _, rt := _, ct := _, bk := _ }) (σ := ([some v, some kv, some (.ref p), some bv, some mv, some av, some ev, some lv, some gu, some fv, a10, a11, a12, a13, a14] : L2.St)) (xs := ones) (Rx := fun m => dt (dM b m)) (ei_listM (ed_c ro)) e12.e
        (fun j σ' G' H' => ∃ a10 a11 a12 a13 a14, σ' = [some v, some kv, some (.ref p), some bv, some mv, some av, some ev, some lv, some gu, some fv, a10, a11, a12, a13, a14] ∧ SP p G4 H4 G' H' ∧ Ex G12 G')
        (fun G13 H13 s13 => ⟨_, _, _, _, _, rfl, s4_12.step s13, s13.g⟩) (fun j σ' G' H' ⟨_, _, _, _, _, _, s, _⟩ => s.i) ?_ ?_
      · intro G13 g13 j13 om ou σ' G' H' G14 H14 hj13 hI13 g13' s14 rou
        obtain ⟨a10, a11, a12, a13, a14, rfl, sI13, gI13⟩ := hI13
        have ho := hom om (List.mem_of_getElem? hj13)
        have gx : Ex G10 G14 := s11.g.trans (s12.g.trans (gI13.trans s14.g))
        have g6x : Ex G6 G14 := g6_10.trans gx
        have goal : ∀ {σ : L2.St} {G'}, σ[8]? = some (some gu) → Ex G14 G' → ED (tVar 8) σ G' ((GV.gd gm).R b) := fun hσ g => ed_var hσ (Dx.mono (gx.trans g) rgu : Dx _ gu (dM b gm))
        have one : ∀ {σ : L2.St} {G'}, σ[10]? = some (some ou) → Ex G14 G' → ED (tVar 10) σ G' ((GV.gd om).R b) := fun hσ g => ed_var hσ (Dx.mono g rou : Dx _ ou (dM b om))
        have e14 := (e4.go sI13).st s14
        refine k_asgS (σ := ([some v, some kv, some (.ref p), some bv, some mv, some av, some ev, some lv, some gu, some fv, some ou, a11, a12, a13, a14] : L2.St)) (R := dt (encO (b.dist om gm))) (ed_few (b := b) (g := gm) (m := om) (ed_var (by rfl) ((givesT b gm).mono (s12.g.trans (gI13.trans s14.g)) rf)) (ed_var (by rfl) rou) ho.1 ho.2) e14.e fun wv G15 H15 s15 rw' => ?_
        have wanted : ∀ {σ : L2.St} {G'}, σ[11]? = some (some wv) → Ex G15 G' → ED (tVar 11) σ G' (dt (encO (b.dist om gm))) := fun hσ g => ed_var hσ (Dx.mono g rw')
        have ask3 : ∀ {G'}, Ex G15 G' → EA (tCons (tVar 4) (tCons (tVar 10) (tCons (tVar 8) tNil))) ([some v, some kv, some (.ref p), some bv, some mv, some av, some ev, some lv, some gu, some fv, some ou, some wv, a12, a13, a14] : L2.St) G' [bookR C b, (GV.gd om).R b, (GV.gd gm).R b] := fun g => ea_cons (made (by rfl) (g6x.trans (s15.g.trans g))) (ea_cons (one (by rfl) (s15.g.trans g)) (ea_cons (goal (by rfl) (s15.g.trans g)) ea_nil))
        refine k_noS (et_same (ed_callV (b, GV.gd om, GV.gd gm) (ask3 (Ex.refl _)) ⟨ok, ho.1, hg.1⟩ (few_gd ho.2 hg.2)) (wanted (by rfl) (Ex.refl _)) (sh_encO _)) s15.i fun G16 H16 s16 => ?_
        refine k_noS (ET.eq (et_and (a := b.plainP) (b := false) (et_tb (ed_call b (ea_cons (made (by rfl) (g6x.trans (s15.g.trans s16.g))) ea_nil) ok)) fun hpl => ?_) (by simp)) s16.i fun G17 H17 s17 => ?_
        · have hd := plain_few ok hpl ho hg
          refine et_same (d := encO (b.dist om gm)) (ED.eq (ed_callV (b.bare, om, gm) (ea_cons (ed_var (by rfl) ((bookR C b.bare).mono (s8.g.trans (g8_10.trans (gx.trans (s15.g.trans s16.g)))) rl)) (ea_cons (one (by rfl) (s15.g.trans s16.g)) (ea_cons (goal (by rfl) (s15.g.trans s16.g)) ea_nil))) ⟨okb, hpl, rfl, ho.1, hg.1, ho.2, hg.2, plain_sp (b := b) ok hpl ho hg⟩ rfl) ?_) (wanted (by rfl) s16.g) (sh_encO _)
          rw [hd]; rfl
        have s15_17 := (s15.trans s16).trans s17
        have s16_17 := s16.trans s17
        -- is it open
        refine k_for (D := { nx := _, rt := _, ct := _, bk := _ }) (σ := ([some v, some kv, some (.ref p), some bv, some mv, some av, some ev, some lv, some gu, some fv, some ou, some wv, a12, a13, a14] : L2.St)) (xs := [0, 1, 2, (allM b).length, 10 ^ 30]) (Rx := fun n : Nat => dt (.int (n : Int))) (ei_listM (enc := fun n : Nat => .int (n : Int)) (ed_lst (ead_cons ed_int (ead_cons ed_int (ead_cons ed_int (ead_cons (ED.eq (ed_lenL (ed_var (by rfl) (Dx.mono (g6x.trans s15_17.g) ra))) (by rw [List.length_map])) (ead_cons (ED.eq (ed_pow ed_int ed_int ⟨by decide, by decide, by decide⟩) (congrArg PyData.int (by decide +kernel : (10 : Int) ^ (30 : Int).toNat = ((10 ^ 30 : Nat) : Int)))) ead_nil))))) (by simp))) s17.i
          (fun j σ' G' H' => ∃ a12, σ' = [some v, some kv, some (.ref p), some bv, some mv, some av, some ev, some lv, some gu, some fv, some ou, some wv, a12, a13, a14] ∧ Step G17 H17 G' H')
          (fun G18 H18 s18 => ⟨_, rfl, s18⟩) (fun j σ' G' H' ⟨_, _, s⟩ => s.i) ?_ ?_
        · intro G18 g18 j18 n nu σ' G' H' G19 H19 hj18 hI18 g18' s19 rnu
          obtain ⟨a12, rfl, sI18⟩ := hI18
          have k19 := s16_17.g.trans (sI18.g.trans s19.g)
          show tIfS _ _ tNext _ ([some v, some kv, some (.ref p), some bv, some mv, some av, some ev, some lv, some gu, some fv, some ou, some wv, some nu, a13, a14] : L2.St) H19
          refine k_no (D := { nx := _, rt := _, ct := _, bk := _ }) (et_same (d := .bool (leO (b.dist om gm) n)) (ed_callV (b, GV.gd om, GV.gd gm, MV.nat n) (ea_cons (made (by rfl) (g6x.trans (s15.g.trans k19))) (ea_cons (one (by rfl) (s15.g.trans k19)) (ea_cons (goal (by rfl) (s15.g.trans k19)) (ea_cons (ed_var (by rfl) rnu) ea_nil)))) ⟨ok, ho.1, hg.1⟩ (open_gd ho.2 hg.2)) (ed_leO (wanted (by rfl) k19) (ed_var (by rfl) rnu)) rfl) s19.i fun G20 H20 s20 => ?_
          exact ⟨G20, g18'.trans (s19.g.trans s20.g), _, rfl, (sI18.trans s19).trans s20⟩
        · rintro σ' G18 H18 ⟨a12, rfl, sI18⟩ _
          have k18 := s16_17.g.trans sI18.g
          -- odd numbers
          refine k_for (D := { nx := _, rt := _, ct := _, bk := _ }) (σ := ([some v, some kv, some (.ref p), some bv, some mv, some av, some ev, some lv, some gu, some fv, some ou, some wv, a12, a13, a14] : L2.St)) (xs := ([.non, .neg, .tru, .one] : List MV)) (Rx := fun m => dt m.d) (ei_listM (enc := MV.d) (ed_lst (ead_cons ed_non (ead_cons (ed_neg ed_int) (ead_cons ed_bl (ead_cons ed_str ead_nil)))) (by simp))) sI18.i
            (fun j σ' G' H' => ∃ a13, σ' = [some v, some kv, some (.ref p), some bv, some mv, some av, some ev, some lv, some gu, some fv, some ou, some wv, a12, a13, a14] ∧ Step G18 H18 G' H')
            (fun G19 H19 s19 => ⟨_, rfl, s19⟩) (fun j σ' G' H' ⟨_, _, s⟩ => s.i) ?_ ?_
          · intro G19 g19 j19 xm xu σ' G' H' G20 H20 hj19 hI19 g19' s20 rxu
            obtain ⟨a13, rfl, sI19⟩ := hI19
            have hxm := List.mem_of_getElem? hj19
            have k20 := k18.trans (sI19.g.trans s20.g)
            have hsh := mv_shows hxm
            show tIfS _ _ tNext _ ([some v, some kv, some (.ref p), some bv, some mv, some av, some ev, some lv, some gu, some fv, some ou, some wv, a12, some xu, a14] : L2.St) H20
            refine k_no (D := { nx := _, rt := _, ct := _, bk := _ }) (et_same (d := .list [.str "number", .str xm.d.shown]) (ed_fell (f := .mv xm) (g := .gd om) (h := .gd gm) ok ho.1 hg.1 (.inr ⟨fell_num ho.2 hg.2 hxm, rfl⟩) hsh (ea_cons (made (by rfl) (g6x.trans (s15.g.trans k20))) (ea_cons (one (by rfl) (s15.g.trans k20)) (ea_cons (goal (by rfl) (s15.g.trans k20)) (ea_cons (ed_var (by rfl) rxu) ea_nil))))) (ed_lst (ead_cons ed_str (ead_cons (ed_repr (ed_var (by rfl) rxu) hsh) ead_nil)) (by simp)) (sh_pair (by decide +kernel) hsh.sok)) s20.i fun G21 H21 s21 => ?_
            exact ⟨G21, g19'.trans (s20.g.trans s21.g), _, rfl, (sI19.trans s20).trans s21⟩
          · rintro σ' G19 H19 ⟨a13, rfl, sI19⟩ _
            exact ⟨G19, g13'.trans (s14.g.trans (s15_17.g.trans (sI18.g.trans sI19.g))), _, _, _, _, _, rfl, (((sI13.step s14).step s15_17).step sI18).step sI19, gI13.trans (s14.g.trans (s15_17.g.trans (sI18.g.trans sI19.g)))⟩
      · rintro σ' G13 H13 ⟨a10, a11, a12, a13, a14, rfl, sI13, gI13⟩ _
        exact ⟨G13, g9'.trans (s10.g.trans (s11.g.trans (s12.g.trans gI13))), _, _, _, _, _, _, _, rfl, sI13, g8_10.trans (s11.g.trans (s12.g.trans gI13))⟩
    · rintro σ' G9 H9 ⟨a8, a9, a10, a11, a12, a13, a14, rfl, sI9, gI9⟩ _
      have e9 := e4.go sI9
      have g69 := s7.g.trans (s8.g.trans gI9)
      -- one that holds; odd builds
      refine kp_asgS (σ := ([some v, some kv, some (.ref p), some bv, some mv, some av, some ev, some lv, a8, a9, a10, a11, a12, a13, a14] : L2.St)) (R := exR (fun m : Nat => m < 2 ^ b.n ∧ b.holdP m = true) (dM b)) ((edm_one (ds := (allM b).map (dM b)) (ed_ref (by rfl)) (ed_var (by rfl) (Dx.mono g69 ra)) (by simp [allM_ne ok]) (by rw [List.length_map]; omega)).imp fun v G10 _ ⟨d, hd, r⟩ => ?_) e9 fun ov G10 H10 s10 ⟨om, ho, ro⟩ => ?_
      · obtain ⟨m, hm, rfl⟩ := List.mem_map.mp hd
        exact ⟨m, mem_allM.mp hm, r⟩
      have g6_10 := g69.trans s10.g
      have sJ := sI9.trans s10
      have hbl : (badM b).length ≤ 3 := by unfold badM; simp; omega
      have hod : (oddL b).length ≤ 9 := by unfold oddL odd8; split <;> simp
      refine k_for (D := { nx := _, rt := _, ct := _, bk := _ }) (σ := ([some v, some kv, some (.ref p), some bv, some mv, some av, some ev, some lv, a8, a9, a10, a11, a12, a13, some ov] : L2.St)) (xs := oddA b) (Rx := fun o => (o.gv b).R b) (ei_listR (ED.is (ed_catR (ed_call b (ea_cons (ed_var (by rfl) ((lawR b).mono (s6.g.trans g6_10) rb)) ea_nil) ok) (ed_lstOf (ed_call b (ea_cons (ed_var (by rfl) ((lawR b).mono (s6.g.trans g6_10) rb)) ea_nil) ok)) (by rw [List.length_map, List.length_map, List.length_map]; omega)) (by unfold oddA; rw [List.map_append, List.map_map, List.map_map]; rfl))) s10.i
        (fun j σ' G' H' => ∃ a12 a13, σ' = [some v, some kv, some (.ref p), some bv, some mv, some av, some ev, some lv, a8, a9, a10, a11, a12, a13, some ov] ∧ Step G10 H10 G' H')
        (fun G11 H11 s11 => ⟨_, _, rfl, s11⟩) (fun j σ' G' H' ⟨_, _, _, s⟩ => s.i) ?_ ?_
      · intro G11 g11 j11 o ou σ' G' H' G12 H12 hj11 hI11 g11' s12 rou
        obtain ⟨a12, a13, rfl, sI11⟩ := hI11
        have hoa := List.mem_of_getElem? hj11
        obtain ⟨gok, gout⟩ := OV.ok lk hoa CB
        have hsh := OV.shows ok hoa
        refine k_for (D := { nx := _, rt := _, ct := _, bk := _ }) (σ := ([some v, some kv, some (.ref p), some bv, some mv, some av, some ev, some lv, a8, a9, a10, a11, a12, some ou, some ov] : L2.St)) (xs := ([.gives, .mv .non] : List FM)) (Rx := fun m => dt m.d) (ei_listM (enc := FM.d) (ed_lst (ead_cons ed_str (ead_cons ed_non ead_nil)) (by simp))) s12.i
          (fun j σ' G' H' => ∃ a12, σ' = [some v, some kv, some (.ref p), some bv, some mv, some av, some ev, some lv, a8, a9, a10, a11, a12, some ou, some ov] ∧ Step G12 H12 G' H')
          (fun G13 H13 s13 => ⟨_, rfl, s13⟩) (fun j σ' G' H' ⟨_, _, s⟩ => s.i) ?_ ?_
        · intro G13 g13 j13 fm fu σ' G' H' G14 H14 hj13 hI13 g13' s14 rfu
          obtain ⟨a12, rfl, sI13⟩ := hI13
          have hfm : fm = .gives ∨ fm = .mv .non := by
            have := List.mem_of_getElem? hj13
            simpa using this
          have g12x := sI13.g.trans s14.g
          have g10x := sI11.g.trans (s12.g.trans g12x)
          have odd : ∀ {σ : L2.St} {G'}, σ[13]? = some (some ou) → Ex G14 G' → ED (tVar 13) σ G' ((o.gv b).R b) := fun hσ g => ed_var hσ (((o.gv b).R b).mono (g12x.trans g) rou)
          have good : ∀ {σ : L2.St} {G'}, σ[14]? = some (some ov) → Ex G14 G' → ED (tVar 14) σ G' ((GV.gd om).R b) := fun hσ g => ed_var hσ (Dx.mono (g10x.trans g) ro : Dx _ ov (dM b om))
          show tIfS _ _ tNext _ ([some v, some kv, some (.ref p), some bv, some mv, some av, some ev, some lv, a8, a9, a10, a11, some fu, some ou, some ov] : L2.St) H14
          refine k_no (D := { nx := _, rt := _, ct := _, bk := _ }) (ET.eq (et_or (a := false) (b := false) (et_same (d := .list [.str "build", .str (o.sh b).shown]) (ed_fell (f := fm) (g := o.gv b) (h := nonG) ok gok (nonG_ok b) (.inl ⟨fell_one gout fm hfm, rfl⟩) hsh (ea_cons (made (by rfl) (g6_10.trans g10x)) (ea_cons (odd (by rfl) (Ex.refl _)) (ea_cons (ed_non : ED (tC .non) _ _ (nonG.R b)) (ea_cons (ed_var (by rfl) rfu) ea_nil))))) (ed_lst (ead_cons ed_str (ead_cons (ed_repr (odd (by rfl) (Ex.refl _)) hsh) ead_nil)) (by simp)) (sh_pair (by decide +kernel) hsh.sok)) fun _ => et_same (d := .list [.str "build", .str (o.sh b).shown]) (ed_fell (f := fm) (g := .gd om) (h := o.gv b) ok ho.1 gok (.inl ⟨fell_two ho.2 gout fm hfm, rfl⟩) hsh (ea_cons (made (by rfl) (g6_10.trans g10x)) (ea_cons (good (by rfl) (Ex.refl _)) (ea_cons (odd (by rfl) (Ex.refl _)) (ea_cons (ed_var (by rfl) rfu) ea_nil))))) (ed_lst (ead_cons ed_str (ead_cons (ed_repr (odd (by rfl) (Ex.refl _)) hsh) ead_nil)) (by simp)) (sh_pair (by decide +kernel) hsh.sok)) rfl) s14.i fun G15 H15 s15 => ?_
          exact ⟨G15, g13'.trans (s14.g.trans s15.g), _, rfl, (sI13.trans s14).trans s15⟩
        · rintro σ' G13 H13 ⟨a12, rfl, sI13⟩ _
          exact ⟨G13, g11'.trans (s12.g.trans sI13.g), _, _, rfl, (sI11.trans s12).trans sI13⟩
      · rintro σ' G11 H11 ⟨a12, a13, rfl, sI11⟩ _
        have sF := (sJ.step sI11)
        exact ⟨G11, g2.trans (s2.g.trans (s3.g.trans (s4.g.trans sF.g))), _, _, _, _, _, _, _, _, _, _, _, _, _, _, rfl, s04.thenM sF.m fun a h => by rw [h]; exact pH⟩
  · rintro σ' G' H' ⟨a1, a2, a3, a4, a5, a6, a7, a8, a9, a10, a11, a12, a13, a14, rfl, sI⟩ _
    exact q H'
end
end RT
end
section
set_option maxRecDepth 100000
set_option maxHeartbeats 4000000
/-! RTHd2: what the run says, as the walk asks it. Printed by gen_hd2.py. -/
namespace RT
open PySem PySem.Spec PyProof.Rows L2
theorem all_at {α : Type} {p : α → Bool} {l : List α} {i : Nat} {a : α} (h : l.all p = true) (e : l[i]? = some a) : p a = true := List.all_eq_true.mp h a (List.mem_of_getElem? e)
theorem fnA_ok {K : Fg} {a : Addr} {n q : Str} {ps : Arguments} {b : List Stmt} {sc : Scope} (e : fnA K a = some (n, q, ps, .stmts b, sc, mainGlobals, [], builtinsNs)) (c : okA K a q = true) : ∃ fd, FunD K n q ps b sc [] [] a fd := by
  unfold okA at c
  have c0 := Bool.and_eq_true_iff.mp c
  unfold fnA at e
  have c9 := c0.2
  revert e c9
  generalize z : K.lookup a = o
  intro e c9
  rcases o with _ | ⟨u1, u2, dt, u3⟩
  · cases e
  · cases dt with
    | func fd =>
      rcases fd with ⟨n1, n2, n3, n4, n5, n6, n7, n8, n9, n10, n11, n12, n13, n14, n15⟩
      have e9 : some (n1, n2, n3, n4, n5, n6, n7, n15) = some (n, q, ps, FuncBody.stmts b, sc, mainGlobals, ([] : List (Str × Addr)), builtinsNs) := e
      injection e9 with e9
      injection e9 with w1 e9
      injection e9 with w2 e9
      injection e9 with w3 e9
      injection e9 with w4 e9
      injection e9 with w5 e9
      injection e9 with w6 e9
      injection e9 with w7 w8
      subst w1 w2 w3 w4 w5 w6 w7 w8
      have cc := Bool.and_eq_true_iff.mp (show (PySem.W.codeIn K n13 n2 && (He.dflB K n8 [] && He.kwdB K n9 [])) = true from c9)
      have cd := Bool.and_eq_true_iff.mp cc.2
      exact ⟨_, ⟨u1, u2, n8, n9, n10, n11, n12, n13, n14, u3, rfl, z, cc.1, He.dflB_ok cd.1, He.kwdB_ok cd.2⟩, c0.1⟩
    | _ => cases e
namespace SaysR
variable {K : Fg} {h : Heap} {mg : Str → Option Value}
theorem p1 (c : SaysR K) : ((RT.fa.all fun f => f.ok K) && ((RT.fn.all fun d => d.ok K) && ((excL K "NoBuild" "build" "NoBuild.__init__").all id && ((excL K "NoNumber" "value" "NoNumber.__init__").all id && (othL K).all id)))) = true := congrArg (fun z : AlR => z.1) c
theorem p2 (c : SaysR K) : (RT.fn.map fun d => He.fnW K d.at_) = RT.fn.map He.DefD.val := congrArg (fun z : AlR => z.2.1) c
theorem p3 (c : SaysR K) : fnA K (prG K) = (some ("points", "Book.points", defArgs s_Book_points, .stmts (defBody s_Book_points), defScope s_Book_points, mainGlobals, [], builtinsNs) : He.FnW) := congrArg (fun z : AlR => z.2.2.1) c
theorem p4 (c : SaysR K) : [fnI K (eF K "NoBuild"), fnI K (eF K "NoNumber")] = ([some ("__init__", "NoBuild.__init__", defArgs s_NoBuild_init, .stmts (defBody s_NoBuild_init), defScope s_NoBuild_init, mainGlobals, ["__class__"], builtinsNs), some ("__init__", "NoNumber.__init__", defArgs s_NoNumber_init, .stmts (defBody s_NoNumber_init), defScope s_NoNumber_init, mainGlobals, ["__class__"], builtinsNs)] : List FnI) := congrArg (fun z : AlR => z.2.2.2) c
theorem fa (c : SaysR K) (i : Nat) {f : He.Fa} (e : RT.fa[i]? = some f := by rfl) : f.ok K = true := all_at (Bool.and_eq_true_iff.mp c.p1).1 e
theorem r1 (c : SaysR K) : (RT.fn.all fun d => d.ok K) = true := (Bool.and_eq_true_iff.mp (Bool.and_eq_true_iff.mp c.p1).2).1
theorem r2 (c : SaysR K) : (excL K "NoBuild" "build" "NoBuild.__init__").all id = true := (Bool.and_eq_true_iff.mp (Bool.and_eq_true_iff.mp (Bool.and_eq_true_iff.mp c.p1).2).2).1
theorem r3 (c : SaysR K) : (excL K "NoNumber" "value" "NoNumber.__init__").all id = true := (Bool.and_eq_true_iff.mp (Bool.and_eq_true_iff.mp (Bool.and_eq_true_iff.mp (Bool.and_eq_true_iff.mp c.p1).2).2).2).1
theorem r4 (c : SaysR K) : (othL K).all id = true := (Bool.and_eq_true_iff.mp (Bool.and_eq_true_iff.mp (Bool.and_eq_true_iff.mp (Bool.and_eq_true_iff.mp c.p1).2).2).2).2
theorem fn (c : SaysR K) (i : Nat) {d : He.DefD} (e : RT.fn[i]? = some d := by rfl) : ∃ fd, FunD K d.name d.qual d.params d.body d.scope (d.dvs K) (d.kws K) (He.fAd K d.at_) fd := by
  refine He.DefD.funD ?_ (all_at c.r1 e)
  have q := congrArg (fun l : List He.FnW => l[i]?) c.p2
  simp only [List.getElem?_map, e, Option.map_some] at q
  exact Option.some.inj q
theorem eb (c : SaysR K) (i : Nat) {b : Bool} (e : (excL K "NoBuild" "build" "NoBuild.__init__")[i]? = some b := by rfl) : b = true := all_at c.r2 e
theorem en (c : SaysR K) (i : Nat) {b : Bool} (e : (excL K "NoNumber" "value" "NoNumber.__init__")[i]? = some b := by rfl) : b = true := all_at c.r3 e
theorem oth (c : SaysR K) (i : Nat) {b : Bool} (e : (othL K)[i]? = some b := by rfl) : b = true := all_at c.r4 e
theorem def_ (c : SaysR K) (X : K.In h) (G : h.Ns mainGlobals mg) (i j : Nat) {x : Str} {st : Stmt} (h1 : RT.fn[i]? = some ⟨(x, none), x, x, defArgs st, defBody st, defScope st, [], []⟩ := by rfl) (h2 : RT.fa[j]? = some (.glo x) := by rfl) : DefAt K mg x st := by
  obtain ⟨fd, F⟩ := c.fn i h1
  exact ⟨_, fd, F, He.glo_ok X G (c.fa j h2)⟩
theorem meth (c : SaysR K) (i j : Nat) {C m q : Str} {st : Stmt} (h1 : RT.fn[i]? = some ⟨(C, some m), m, q, defArgs st, defBody st, defScope st, [], []⟩ := by rfl) (h2 : RT.fa[j]? = some (.meth C m) := by rfl) : MethAt K (He.ga K C) m q st := by
  obtain ⟨fd, F⟩ := c.fn i h1
  exact ⟨_, fd, F, He.meth_ok (c.fa j h2)⟩
theorem txt (c : SaysR K) (X : K.In h) (G : h.Ns mainGlobals mg) : Txt K mg where
  f_all := He.free_ok X G (c.fa 0)
  f_any := He.free_ok X G (c.fa 1)
  f_bool := He.free_ok X G (c.fa 2)
  f_dict := He.free_ok X G (c.fa 3)
  f_enumerate := He.free_ok X G (c.fa 4)
  f_int := He.free_ok X G (c.fa 5)
  f_isinstance := He.free_ok X G (c.fa 6)
  f_len := He.free_ok X G (c.fa 7)
  f_list := He.free_ok X G (c.fa 8)
  f_max := He.free_ok X G (c.fa 9)
  f_min := He.free_ok X G (c.fa 10)
  f_range := He.free_ok X G (c.fa 11)
  f_repr := He.free_ok X G (c.fa 12)
  f_sorted := He.free_ok X G (c.fa 13)
  f_str := He.free_ok X G (c.fa 14)
  f_sum := He.free_ok X G (c.fa 15)
  f_tuple := He.free_ok X G (c.fa 16)
  f_zip := He.free_ok X G (c.fa 17)
  g_MOST_LETTERS := He.int_ok X G (c.fa 18)
  g_MOST_SKILLS := He.int_ok X G (c.fa 19)
  g_MOST_TIERS := He.int_ok X G (c.fa 20)
  g_MOST_POINTS := He.int_ok X G (c.fa 21)
  g_MOST_WANTS := He.int_ok X G (c.fa 22)
  g_MOST_BARS := He.int_ok X G (c.fa 23)
  g_MOST_GIVEN := He.int_ok X G (c.fa 24)
  g_MOST_PRICE := He.int_ok X G (c.fa 25)
  g_LETTERS := He.str_ok X G (c.fa 26)
  g_heappop := PySem.W.mg_of X G (He.eqO_ok (c.oth 0))
  g_heappush := PySem.W.mg_of X G (He.eqO_ok (c.oth 1))
  d__law_names := c.def_ X G 0 27
  d__law_odd_builds := c.def_ X G 1 28
  d__law_subsets := c.def_ X G 2 29
  d__law_is_row_met := c.def_ X G 3 30
  d__law_tier := c.def_ X G 4 31
  d__law_below := c.def_ X G 5 32
  d__law_need := c.def_ X G 6 33
  d__law_is_met := c.def_ X G 7 34
  d__law_size_let := c.def_ X G 8 35
  d__law_holds := c.def_ X G 9 36
  d__law_bad_builds := c.def_ X G 10 37
  d_mask_of := c.def_ X G 11 38
  d_size_of := c.def_ X G 12 39
  d_is_let := c.def_ X G 13 40
  d_points_let := c.def_ X G 14 41
  d_does_hold := c.def_ X G 15 42
  d_steps_at := c.def_ X G 16 43
  d_step_price := c.def_ X G 17 44
  d_gives_from := c.def_ X G 18 45
  d_are_unlike := c.def_ X G 19 46
  d_is_row := c.def_ X G 20 47
  d_is_word := c.def_ X G 21 48
  d_are_skills_of := c.def_ X G 22 49
  d_in_order := c.def_ X G 23 50
  d_is_build := c.def_ X G 24 51
  d_look_at_good := c.def_ X G 25 52
  d_look_at_both := c.def_ X G 26 53
  d_fewest_gives := c.def_ X G 27 54
  d_is_whole := c.def_ X G 28 55
  d_look_at_many := c.def_ X G 29 56
  d_is_open := c.def_ X G 30 57
  d__law_fell := c.def_ X G 31 58
  d__law_take := c.def_ X G 32 59
  d__law_one := c.def_ X G 33 60
  d__law_turned := c.def_ X G 34 61
  d_looks_down := c.def_ X G 35 62
  d_is_plain := c.def_ X G 36 63
  d_price_by := c.def_ X G 37 64
  d_loose_in := c.def_ X G 38 65
  d_spare_skill := c.def_ X G 39 66
  d_look_at_plain := c.def_ X G 40 67
  d_look_at_question := c.def_ X G 41 68
  d_plain_price := c.def_ X G 42 69
  d__law_least := c.def_ X G 43 70
  d__law_gives := c.def_ X G 44 71
  d_is_number := c.def_ X G 45 72
  d_are_tuples := c.def_ X G 46 73
  d_are_numbered := c.def_ X G 47 74
  d_are_bars := c.def_ X G 48 75
  d_is_want := c.def_ X G 49 76
  d_are_needs := c.def_ X G 50 77
  d_are_skills := c.def_ X G 51 78
  d_look_at_parts := c.def_ X G 52 79
  d__law_made := c.def_ X G 53 80
  d__law_all := c.def_ X G 54 81
  d__law_order := c.def_ X G 55 82
  d__law_behind := c.def_ X G 56 83
  d__law_steps := c.def_ X G 57 84
  d__law_price := c.def_ X G 58 85
  d__law_cost := c.def_ X G 59 86
  d__law_edges := c.def_ X G 60 87
  d__law_rows := c.def_ X G 61 88
  d__law_tree := c.def_ X G 62 89
  d__law_book := c.def_ X G 63 90
  d__law_small := c.def_ X G 64 91
  d__law_any_sort := c.def_ X G 65 92
  d__law_pool := c.def_ X G 66 93
  d_law := c.def_ X G 67 94
theorem bookF (c : SaysR K) : BookF K (He.ga K "Book") := ⟨He.cls_ok (c.fa 99), fun f hf => by
  simp only [List.mem_cons, List.not_mem_nil, or_false] at hf
  rcases hf with rfl | rfl | rfl | rfl | rfl | rfl | rfl | rfl | rfl | rfl | rfl | rfl | rfl
  · exact He.noat_ok (c.fa 101)
  · exact He.noat_ok (c.fa 102)
  · exact He.noat_ok (c.fa 103)
  · exact He.noat_ok (c.fa 104)
  · exact He.noat_ok (c.fa 105)
  · exact He.noat_ok (c.fa 106)
  · exact He.noat_ok (c.fa 107)
  · exact He.noat_ok (c.fa 108)
  · exact He.noat_ok (c.fa 109)
  · exact He.noat_ok (c.fa 110)
  · exact He.noat_ok (c.fa 111)
  · exact He.noat_ok (c.fa 112)
  · exact He.noat_ok (c.fa 113)⟩
theorem bookM (c : SaysR K) (X : K.In h) (G : h.Ns mainGlobals mg) : BookM K mg (He.ga K "Book") := ⟨by
  obtain ⟨fd, F⟩ := c.fn 68 (d := ⟨("Book", some "__init__"), "__init__", "Book.__init__", defArgs s_Book_init, defBody s_Book_init, defScope s_Book_init, [], [("reset", .non)]⟩)
  exact ⟨_, fd, F, He.mkr_ok (c.fa 119)⟩, c.meth 69 121, He.glo_ok X G (c.fa 95)⟩
theorem chF (c : SaysR K) (X : K.In h) (G : h.Ns mainGlobals mg) : ChF K mg (He.ga K "Cheapest") := ⟨He.cls_ok (c.fa 100), He.noat_ok (c.fa 114), He.noat_ok (c.fa 115), He.noat_ok (c.fa 116), He.noat_ok (c.fa 117), He.noat_ok (c.fa 118), by
  obtain ⟨fd, F⟩ := c.fn 70 (d := ⟨("Cheapest", some "__init__"), "__init__", "Cheapest.__init__", defArgs s_Cheapest_init, defBody s_Cheapest_init, defScope s_Cheapest_init, [.bl false], []⟩)
  exact ⟨_, fd, F, He.mkr_ok (c.fa 120)⟩, c.meth 71 122, c.meth 72 123, He.glo_ok X G (c.fa 96)⟩
end SaysR
end RT
end
section
set_option maxRecDepth 100000
set_option maxHeartbeats 4000000
/-! RTHd3: the errors' facts, the getter's. -/
namespace RT
open PySem PySem.Spec PyProof.Rows L2
theorem oexB_ok {K : Fg} {C : Addr} (h0 : oexB K C = true) (h1 : He.eqO (PySem.W.findIn K (.ref C) "__setattr__") (some (some (.builtin "object.__setattr__"))) = true) (h2 : decide (PySem.W.subIn K (.ref C) (.type "BaseException") = some true) = true) (h3 : decide (PySem.W.typeIn K (.ref C) = some (.type "type")) = true) (h4 : PySem.W.keepIn K (.ref C) = true) : OexC K C := by
  refine ⟨?_, He.eqO_ok h1, of_decide_eq_true h2, of_decide_eq_true h3, h4⟩
  unfold oexB at h0
  split at h0
  · rename_i dd cd sl z
    split at h0
    · rename_i C' bm k0 k1 k2 k3 n k5 em es
      obtain ⟨q1, q⟩ := Bool.and_eq_true_iff.mp h0
      obtain ⟨q2, q⟩ := Bool.and_eq_true_iff.mp q
      obtain ⟨q3, q⟩ := Bool.and_eq_true_iff.mp q
      obtain ⟨q4, q5⟩ := Bool.and_eq_true_iff.mp q
      have e1 := of_decide_eq_true q1
      have e2 := of_decide_eq_true q2
      subst e1 e2
      rcases cd with ⟨nm, bs, mro, ns, qn, hd, sn, sub, ab, col, del⟩
      refine ⟨nm, qn, ns, bs, bm, sn, sub, ab, col, dd, k0, k1, k2, k3, k5, ?_, q5⟩
      have em' : mro = .ref C' :: bm := em
      have eh : hd = true := q4
      have ed : del = false := by simpa using q3
      rcases sl with ⟨l⟩
      have el : l = [k0, k1, k2, k3, some (Value.builtin "ValueError.__new__"), k5] := es
      rw [z, em', eh, ed, el]
    · cases h0
  · cases h0
theorem ini_ok {P : Program} {K : Fg} {C f : Addr} {q fld : Str} {N ps : List Str} {st : Stmt} (hP : ((P.main.file : Str) == theFile) = true) (hX : OexC K C) (hS : NdefX.NScope N ps ["__class__"] (defScope st)) (e : fnI K f = (some ("__init__", q, defArgs st, .stmts (defBody st), defScope st, mainGlobals, ["__class__"], builtinsNs) : FnI)) (hB : iniB K C f q theFile = true)
    (h6 : decide (PySem.W.mroIn K C (.ref C) = some true) = true) (h7 : decide (PySem.W.subIn K (.ref C) (.type "ValueError") = some true) = true) (h8 : He.eqO (PySem.W.ks_superIn K C C "__init__") (some (some (.builtin "ValueError.__init__"))) = true) (h9 : He.eqO (PySem.W.nsIn K mainGlobals "super") (some none) = true) (h10 : He.eqO (PySem.W.nsIn K cStatics "thirdparty.any") (some none) = true)
    (h11 : He.eqO (PySem.W.findIn K (.ref C) fld) (some none) = true) (hT : (P.main.scope.names.lookup ("super" : Str)).isSome = false) : ∃ fd, IniF P K C f fld N ps fd st ∧ ∃ (dV kV doc pm ct : Value) (an : Option Addr) (cda cc : Addr), dV = .none ∧ fd = PySem.W.fnX "__init__" q (defArgs st) (defBody st) (defScope st) [("__class__", cc)] dV kV doc pm an (.ref cda) ct := by
  unfold iniB at hB
  unfold fnI at e
  split at hB
  · rename_i u1 u2 fd u3 z
    rw [z] at e
    rcases fd with ⟨n1, n2, n3, n4, n5, n6, n7, n8, n9, n10, n11, n12, n13, n14, n15⟩
    have e9 := e
    dsimp only at e9 hB
    injection e9 with e9
    injection e9 with w1 e9
    injection e9 with w2 e9
    injection e9 with w3 e9
    injection e9 with w4 e9
    injection e9 with w5 e9
    injection e9 with w6 e9
    injection e9 with w7 w8
    subst w1 w2 w3 w4 w5 w6 w8
    split at hB
    · rename_i y cc cda
      have hy : y = "__class__" := by simpa using w7
      subst hy
      obtain ⟨k1, k⟩ := Bool.and_eq_true_iff.mp hB
      obtain ⟨k2, k3⟩ := Bool.and_eq_true_iff.mp k
      refine ⟨_, ⟨hX, hS, ⟨_, _, _, _, _, _, _, _, _, _, _, _, _, rfl, z, k1, ?_, ?_⟩, of_decide_eq_true h6, of_decide_eq_true h7, He.eqO_ok h8, He.eqO_ok h9, He.eqO_ok h10, He.eqO_ok h11, hT⟩, _, _, _, _, _, _, _, _, rfl, rfl⟩
      · split at k2
        · rename_i c1 c2 C' c3 z2
          have := of_decide_eq_true k2
          subst this
          exact ⟨_, _, _, z2⟩
        · cases k2
      · split at k3
        · rename_i c1 c2 vs c3 z2
          split at k3
          · rename_i fl tf z3
            have := of_decide_eq_true k3
            subst this
            exact ⟨_, _, _, _, _, _, z2, z3, hP⟩
          · cases k3
        · cases k3
    · cases hB
  · cases hB
section
variable {P : Program} {w : World} {K : Fg} {h : Heap} {mg : Str → Option Value} {base : Heap}
theorem SaysR.eNB (c : SaysR K) : fnI K (eF K "NoBuild") = (some ("__init__", "NoBuild.__init__", defArgs s_NoBuild_init, .stmts (defBody s_NoBuild_init), defScope s_NoBuild_init, mainGlobals, ["__class__"], builtinsNs) : FnI) := by
  have q := c.p4
  injection q
theorem SaysR.eNN (c : SaysR K) : fnI K (eF K "NoNumber") = (some ("__init__", "NoNumber.__init__", defArgs s_NoNumber_init, .stmts (defBody s_NoNumber_init), defScope s_NoNumber_init, mainGlobals, ["__class__"], builtinsNs) : FnI) := by
  have q := c.p4
  injection q with _ q
  injection q
theorem SaysR.errB (c : SaysR K) (X : K.In h) (G : h.Ns mainGlobals mg) (hP : ((P.main.file : Str) == theFile) = true) (hT : (P.main.scope.names.lookup ("super" : Str)).isSome = false) : ErrF P w K mg base "NoBuild" "build" (He.ga K "NoBuild") := by
  have ox : OexC K (He.ga K "NoBuild") := oexB_ok (c.eb 0) (c.eb 1) (c.eb 2) (c.eb 3) (c.eb 4)
  obtain ⟨fd, F, dV, kV, doc, pm, ct, an, cda, cc, e1, e2⟩ := ini_ok (P := P) (N := ["self", "build", "__class__"]) (ps := ["self", "build"]) hP ox (NdefX.nscope_by (by decide +kernel)) c.eNB (c.eb 5) (c.eb 6) (c.eb 7) (c.eb 8) (c.eb 9) (c.eb 10) (c.eb 11) hT
  refine ⟨⟨_, fd, "build", ini_fn F rfl rfl rfl (fun env => ⟨_, rfl⟩) (fun env e => by unfold interactive; rw [e]; rfl) (fun env e => rfl) (fun env e => rfl) (by decide +kernel) (by decide) (by decide) (by decide), He.eqO_ok (c.eb 12), of_decide_eq_true (c.eb 13), .all fun us hl => ?_⟩, ox, He.glo_ok X G (c.fa 97)⟩
  subst e1 e2
  match us, hl with
  | [_, _], _ => rfl
theorem SaysR.errN (c : SaysR K) (X : K.In h) (G : h.Ns mainGlobals mg) (hP : ((P.main.file : Str) == theFile) = true) (hT : (P.main.scope.names.lookup ("super" : Str)).isSome = false) : ErrF P w K mg base "NoNumber" "value" (He.ga K "NoNumber") := by
  have ox : OexC K (He.ga K "NoNumber") := oexB_ok (c.en 0) (c.en 1) (c.en 2) (c.en 3) (c.en 4)
  obtain ⟨fd, F, dV, kV, doc, pm, ct, an, cda, cc, e1, e2⟩ := ini_ok (P := P) (N := ["self", "value", "__class__"]) (ps := ["self", "value"]) hP ox (NdefX.nscope_by (by decide +kernel)) c.eNN (c.en 5) (c.en 6) (c.en 7) (c.en 8) (c.en 9) (c.en 10) (c.en 11) hT
  refine ⟨⟨_, fd, "value", ini_fn F rfl rfl rfl (fun env => ⟨_, rfl⟩) (fun env e => by unfold interactive; rw [e]; rfl) (fun env e => rfl) (fun env e => rfl) (by decide +kernel) (by decide) (by decide) (by decide), He.eqO_ok (c.en 12), of_decide_eq_true (c.en 13), .all fun us hl => ?_⟩, ox, He.glo_ok X G (c.fa 98)⟩
  subst e1 e2
  match us, hl with
  | [_, _], _ => rfl
theorem SaysR.errX (c : SaysR K) : ErrX K (He.ga K "NoBuild") (He.ga K "NoNumber") := ⟨xfB_ok (c.eb 14), xfB_ok (c.en 14), He.eqO_ok (c.eb 11), He.eqO_ok (c.en 11), He.exm_ok (c.fa 124), He.exm_ok (c.fa 125), He.exm_ok (c.fa 126)⟩
theorem SaysR.partsF (c : SaysR K) (X : K.In h) (G : h.Ns mainGlobals mg) : PartsF K mg := ⟨He.ga K "PARTS", He.glo_ok X G (c.oth 8), fun H => He.tupB_ok (c.oth 2) H⟩
theorem SaysR.ptsF (c : SaysR K) : PtsF P w K mg base (He.ga K "Book") := by
  obtain ⟨fd, F⟩ := fnA_ok c.p3 (c.oth 7)
  have hb : L2.Binds K fd ["self"] [] := F.bindsN fun _ _ _ _ _ _ us hl => match us, hl with | [_], _ => rfl
  refine ⟨prA K, prG K, fd, ⟨He.eqO_ok (c.oth 3), He.eqO_ok (c.oth 4), of_decide_eq_true (c.oth 5), ?_⟩, ?_, hb⟩
  · have q : (match PySem.W.recIn K (prA K) "property" with
      | some (.ref _ :: _) => true
      | _ => false) = true := c.oth 6
    unfold prG
    revert q
    generalize PySem.W.recIn K (prA K) "property" = o
    intro q
    split at q
    · exact ⟨_, rfl⟩
    · cases q
  · obtain ⟨oc, od, dV, kV, doc, pm, an, cdv, ct, osl, rfl, lk, hcd, _, _⟩ := F.ex
    exact fn_getter lk hcd sc_Book_points (by rfl) (by rfl) (He.cls_ok (c.fa 99)) (He.noat_ok (c.fa 102))
end
end RT
end
section
set_option maxRecDepth 100000
set_option maxHeartbeats 4000000
/-! RTEnd: the law's end, over a promise that is asked where no repr is under way. -/
namespace RT
open PySem PySem.Spec PyProof.Rows L2
section
variable {P : Program} {w : World} {K : Fg} {mg mb : Str → Option Value} {k : Nat} {fa a : Addr} {fd : FuncData} {x : Str} {sp : Sp} {s : Shared} {vs : List Value} {ns : List Int}
/-- what is wanted of the law's call -/
abbrev EndOk (s : Shared) (r : Except Value Flow) (s' : Shared) : Prop := r = .ok (.ret (.bool true)) ∧ OldK s.heap s'.heap ∧ s'.os = s.os ∧ AllBare s'.gens
/-- from an abstract heap that tracks the script at most -/
theorem end_core {H : Hp} (KX : K.In s.heap) (hns : s.heap.Ns mainGlobals mg) (hb : s.heap.Ns builtinsNs mb) (hbb : ∀ x : Str, x ≠ "__name__" → mb x = bootBuiltins x) (hlim : s.heap.NoLimit) (hg : s.gens = #[])
    (ha : s.heap.get? a = some { cls := .type "list", data := .seq vs.toArray }) (hr : Room k callerA) (hgd : Gd callerA)
    (F : ∀ base : Heap, K.In base → base.Ns mainGlobals mg → FnG P w K mg base CX0 k fa fd [x] sp) (hbind : ∀ (s : Shared) (u : Value), BindsTo s fd ⟨[u], []⟩ [(x, u)])
    (hO : Only H) (hok : HOk P w H s.heap) (hA : ∀ b, H b ≠ none → b = a) (hK : H a ≠ none → K.lookup a = none) (hsp : sp [.ref a] H (fun v _ => v = .bl true) fun _ _ _ => False) :
    codeAny (model P w) callerA (.call (.ref fa) ⟨[.ref a], []⟩) (EndOk s) s := by
  have isA : ∀ {b : Addr} {u : HO}, H b = some u → b = a := fun {b u} q => hA b (by rw [q]; exact Option.some_ne_none u)
  -- an object that is not the script stands in the base
  have away : ∀ {b : Addr} {o : Obj}, s.heap.get? b = some o → H b = none → (hidT s.heap H).get? b = some o := hidT_get
  have dicts : ∀ {b : Addr} {m : Str → Option Value}, s.heap.Ns b m → (hidT s.heap H).Ns b m := by
    rintro b m ⟨o, es, ep, eo, ed, rr⟩
    refine ⟨o, es, ep, away eo ?_, ed, rr⟩
    cases q : H b with
    | none => rfl
    | some u =>
      cases isA q
      cases ha.symm.trans eo
      exact absurd ed (by intro z; cases z)
  have kin : K.In (hidT s.heap H) := by
    intro b o e
    refine away (KX b o e) ?_
    cases q : H b with
    | none => rfl
    | some u =>
      cases isA q
      have z := hK (by rw [q]; exact Option.some_ne_none u)
      cases z.symm.trans e
  have md : Mod K mg (hidT s.heap H) := by
    obtain ⟨mc, l1, l2⟩ := hlim
    exact ⟨kin, dicts hns, ⟨mb, dicts hb, hbb⟩, mc, dicts l1, l2⟩
  have none_in : ∀ {b : Addr}, b ∈ ([] : List Addr) → False := fun z => List.not_mem_nil z
  have ev : Env0 P w K mg (hidT s.heap H) callerA [] s H := ⟨rfl, md, fun _ _ e => of_hidT e, Nat.le_of_eq (hidT_size _ _), trivial, fun _ z => (none_in z).elim, hok, .of_eq hg⟩
  refine codeAny_mono ((F _ kin (dicts hns)).run callerA [] s H ⟨[.ref a], []⟩ [.ref a] [.ref a] _ _ hgd hr ev (hbind s (.ref a)) (.cons rfl .nil) hsp) ?_
  intro r s' q
  match r, q with
  | .error e, q => exact q.elim
  | .ok .next, q => exact q.elim
  | .ok .brk, q => exact q.elim
  | .ok .cont, q => exact q.elim
  | .ok (.ret u), ⟨v, H', os, bare, un, hok', rl, hv⟩ =>
    have hv' : v = .bl true := hv
    subst hv'
    have hu : u = Value.bool true := rl
    subst hu
    refine ⟨rfl, OldK.of_keep ?_, os, bare⟩
    intro b o eb
    cases q2 : H b with
    | none => exact un.keep b o eb q2 (fun z => none_in z) (fun z => by cases z)
    | some u =>
      rcases hO b with z | ⟨ob, xs, z⟩
      · cases q2.symm.trans z
      · have c1 := (hok b _ z).1
        have c2 := (hok' b _ (un.frzs b ob _ z)).1
        cases eb.symm.trans c1
        exact c2
/-- the law's call, behind the top -/
theorem end_call (KX : K.In s.heap) (hns : s.heap.Ns mainGlobals mg) (hb : s.heap.Ns builtinsNs mb) (hbb : ∀ x : Str, x ≠ "__name__" → mb x = bootBuiltins x) (hlim : s.heap.NoLimit) (hg : s.gens = #[])
    (ha : s.heap.get? a = some { cls := .type "list", data := .seq vs.toArray }) (hi : IntsAre vs ns) (hl : ns.length ≤ sizeLine) (hr : Room k callerA) (hgd : Gd callerA)
    (F : ∀ base : Heap, K.In base → base.Ns mainGlobals mg → FnG P w K mg base CX0 k fa fd [x] sp) (hbind : ∀ (s : Shared) (u : Value), BindsTo s fd ⟨[u], []⟩ [(x, u)])
    (hsp : ∀ H : Hp, Only H → SqL K H a (ns.map V.int) → sp [.ref a] H (fun v _ => v = .bl true) fun _ _ _ => False) :
    codeAny (model P w) callerA (.call (.ref fa) ⟨[.ref a], []⟩) (EndOk s) s := by
  have rv := vals_ints hi
  cases hk : K.lookup a with
  | some o =>
    -- the script is an object of the module
    cases ha.symm.trans (KX a o hk)
    have hO : Only (fun _ => none) := fun _ => .inl rfl
    exact end_core KX hns hb hbb hlim hg ha hr hgd F hbind hO (fun b u z => by cases (show (none : Option HO) = some u from z)) (fun b z => (z rfl).elim) (fun z => (z rfl).elim) (hsp _ hO (.inr ⟨_, vs.toArray, _, hk, rfl, rfl, rfl, by rw [List.size_toArray, hi.length]; exact hl, by simpa using rv⟩))
  | none =>
    let o1 : HO := .frz { cls := .type "list", data := .seq vs.toArray } (.lst (ns.map V.int))
    have at_a : upd (fun _ => none) a o1 a = some o1 := upd_same
    have off : ∀ {b : Addr}, b ≠ a → upd (fun _ => none) a o1 b = none := fun z => upd_ne z
    have hO : Only (upd (fun _ => none) a o1) := fun b => by
      by_cases z : b = a
      · subst z; exact .inr ⟨_, _, at_a⟩
      · exact .inl (off z)
    refine end_core KX hns hb hbb hlim hg ha hr hgd F hbind hO (fun b u z => ?_) (fun b z => ?_) (fun _ => hk) (hsp _ hO (.inl (.inr ⟨_, at_a⟩)))
    · by_cases e : b = a
      · subst e
        cases at_a.symm.trans z
        exact ⟨ha, by rw [List.length_map]; exact hl, vs, _, rv, ha⟩
      · cases (off e).symm.trans z
    · by_cases e : b = a
      · exact e
      · exact (z (off e)).elim
end
end RT
end
section
set_option maxRecDepth 100000
set_option maxHeartbeats 0
/-! RTFin: the law holds. -/
namespace RT
open PySem PySem.Spec PyProof.Rows L2
open Evl (Ex Ex.refl Ex.trans)
theorem walk_G {l : PySem.W.OpenLaw} {n k : Nat} {q : Program} {loose : List Str} {XP : (Str → Option Value) → Heap → Prop} {YP : World → Heap → Prop} {d : DefRec} {x : Str} (hn : l.most = some n) (hn2 : n ≤ sizeLine) (hdf : d.params.defaults = []) (hr : Room k callerA) (hgd : Gd callerA)
    (F : ∀ (w : World) (mg : Str → Option Value) (fa : Addr) (h : Heap), YP w h → h.Ns mainGlobals mg → mg d.name = some (.ref fa) → ∃ (K : Fg) (fd : FuncData) (sp : Sp), K.In h ∧ (∀ (s : Shared) (u : Value), BindsTo s fd ⟨[u], []⟩ [(x, u)]) ∧
      (∀ (H : Hp) (a : Addr) (ns : List Int), ns.length ≤ n → Only H → SqL K H a (ns.map V.int) → sp [.ref a] H (fun v _ => v = .bl true) fun _ _ _ => False) ∧ ∀ base : Heap, K.In base → base.Ns mainGlobals mg → FnG l.prog w K mg base CX0 k fa fd [x] sp) :
    PySem.W.WalkO q loose XP YP l.row.toRowW d [] (fun f vs => PySem.call f vs) :=
  Att.attach_call hn hdf fun w _ s mg mb fa _ _ _ _ a vs ns G Y _ _ _ hmg hobj hints hlen hg => by
    obtain ⟨K, fd, sp, KX, hb, hs, hF⟩ := F w mg fa _ Y G.T.g hmg
    exact end_call KX G.T.g G.T.b G.T.builtins G.T.nolimit hg hobj hints (Nat.le_trans hlen hn2) hr hgd hF hb fun H hO hS => hs H a ns hlen hO hS
theorem law_sp {K : Fg} {H : Hp} {a : Addr} {ns : List Int} (hl : ns.length ≤ 63) (h : SqL K H a (ns.map V.int)) : LawSp K [.ref a] H (fun v _ => v = .bl true) fun _ _ _ => False :=
  ⟨ns, H, hl, Ex.refl H, .cons ⟨a, rfl, fun H' x => h.imp (fun z => z.imp (fun e => x _ _ e) fun ⟨o, e⟩ => ⟨o, x _ _ e⟩) id⟩ .nil, fun _ => rfl⟩
theorem law_fd {P : Program} {w : World} {K : Fg} {h : Heap} {mg : Str → Option Value} {fa : Addr} (c : SaysR K) (X : K.In h) (G : h.Ns mainGlobals mg) (hf : mg "law" = some (.ref fa)) (hP : ((P.main.file : Str) == theFile) = true) (hT : (P.main.scope.names.lookup ("super" : Str)).isSome = false) :
    ∃ fd : FuncData, (∀ (s : Shared) (u : Value), BindsTo s fd ⟨[u], []⟩ [("_law_script", u)]) ∧ ∀ base : Heap, FnG P w K mg base CX0 11 fa fd ["_law_script"] (LawSp K) := by
  obtain ⟨f, fd, F, hm⟩ := (c.txt X G).d_law
  cases hf.symm.trans hm
  have b := FunD.bindsA (ps := ["_law_script"]) F fun _ _ _ _ _ _ us hl => match us, hl with | [_], _ => rfl
  exact ⟨fd, fun s u => b s [u] rfl, fun base => f_law (c.txt X G) c.bookF (c.bookM X G) (c.partsF X G) (c.chF X G) c.ptsF (c.errB X G hP hT) (c.errN X G hP hT) c.errX F⟩
end RT
open PySem PySem.W PySem.Calls PyProof.Rows
theorem PySem.Challenge.cw_refundtrees_k42_whole_few_give_backs_holds : PySem.Challenge.rw_refundtrees_k42_whole_few_give_backs.Holds := by
  w_on; o_law
  refine HandSHeadRun.head_imp (r := RT.Rw) (q := RT.qv) (H := RT.hookR) (ob := RT.obS) (M := 30000) (loose := RT.names) (d := HandSHeadRun.topDef RT.Rw.prog 97) (kwd := []) RT.obS_eq RT.the_run (by kernel_rfl) (by kernel_rfl) (by kernel_rfl) (by rfl) (by first | assumption | decide +kernel) (by decide +kernel) ⟨rfl, rfl, rfl, rfl, rfl, by decide +kernel⟩ ?hw ?hc
  case hw => w_witness2
  case hc =>
    refine RT.walk_G (l := PySem.Challenge.rw_refundtrees_k42_whole_few_give_backs) (n := 63) (k := 11) (x := "_law_script") rfl (by decide) (by kernel_rfl) ⟨rfl, by decide, by decide⟩ rfl ?_
    intro w mg fa h Y G hmg
    obtain ⟨K, X, c⟩ := Y
    have en : (HandSHeadRun.topDef RT.Rw.prog 97).name = ("law" : PySem.Str) := by kernel_rfl
    rw [en] at hmg
    obtain ⟨fd, hb, hF⟩ := RT.law_fd (P := (PySem.Challenge.rw_refundtrees_k42_whole_few_give_backs).prog) (w := w) c X G hmg (by kernel_rfl) (by kernel_rfl)
    exact ⟨K, fd, RT.LawSp K, X, hb, fun H a ns hl _ hS => RT.law_sp hl hS, fun base _ _ => hF base⟩
end
